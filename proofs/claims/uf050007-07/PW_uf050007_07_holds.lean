import PyProof.Rows.All
import Wide.All
import OpenK.AllK
import Wide.FinOn
import PyProof.Walks
import PyProof.WalksMore
import PyProof.Cells
import PyProof.DictWalks
import PyProof.StrBlock
import PyProof.CompFree
import PyProof.StrCalls2
import PyProof.DefCall
import PyProof.MakeMany
import PyProof.CallType
import PyProof.Ns1
import PyProof.LetGo
import PyProof.PureInt
import PyProof.StrOps
import PyProof.Rows.RuleB_mod
import PyProof.Rows.RuleB_floordiv
import PyProof.Rows.RuleB_mul
import PyProof.Rows.RuleB_pow
import PyProof.Rows.RuleC_bool
import PyProof.Rows.EqNone
import PyProof.Rows.StrRules
import PyProof.Rows.IntBool
import PyProof.Raises
import PyProof.ForRange
import PyProof.RangeFor
import PyProof.StrWalks
import PyProof.IsiPairs
import PyProof.IsiHeapPairs
import PyProof.WalkInts
import PyProof.SliceMore
import PyProof.SliceStr2
import PyProof.EqAt
import PyProof.ListIndexNeg
import PyProof.StrCalls3
import PyProof.Rows.Tup
import PyProof.Rows.Lst
import PyProof.Rows.SeqMore
import PyProof.StrOps2
import PyProof.DictTruth
import PyProof.EqKinds
import PyProof.StrCalls
import PyProof.CallStr
import PyProof.Conv_int_bool
import PyProof.FactsAll.list
import PyProof.StrLawsOcc
import PyProof.FitsReplace
import PyProof.StrLawsTight
import PyProof.StrBlock2
import KE.KDictList
import KE.KItemsList
import KE.KDictOf
import PyProof.DictRoads
import PyProof.Rows.SortRuns
import PyProof.Rows.SortKey
import PyProof.Rows.SortShell
import PyProof.Rows.SortStr
import PyProof.Rows.SetFrom
import KE.KDictSum
import KE.KEqDict
import PyProof.Rows.TupReads
import PyProof.DictTable
import PySem.Challenge.RW_uf050007_07
set_option Elab.async false
set_option linter.unusedVariables false
set_option linter.unusedSimpArgs false
set_option autoImplicit false
noncomputable section
namespace Mine
inductive LT' where
 | v (i : Nat)
 | n (k : Nat)
 | a (x y : LT')
 | m (k : Nat) (x : LT')
noncomputable def LT'.den (c : List Nat) : LT' → Nat
 | .v i => c.getD i 0
 | .n k => k
 | .a x y => x.den c + y.den c
 | .m k x => k * x.den c
structure PL where
 r : List Nat
 k : Nat
noncomputable def PL.ev (c : List Nat) : List Nat → Nat
 | [] => 0
 | q :: r => q * c.headD 0 + PL.ev c.tail r
noncomputable def PL.den (c : List Nat) (p : PL) : Nat := PL.ev c p.r + p.k
noncomputable def addR : List Nat → List Nat → List Nat
 | [], b => b
 | a, [] => a
 | x :: a, y :: b => (x + y) :: addR a b
theorem addR_ev : ∀ (c a b : List Nat), PL.ev c (addR a b) = PL.ev c a + PL.ev c b
 | _, [], b => by simp [addR, PL.ev]
 | _, x :: a, [] => by simp [addR, PL.ev]
 | c, x :: a, y :: b => by
  have ih := addR_ev c.tail a b
  simp only [addR, PL.ev, ih, Nat.add_mul]; exact Nat.add_add_add_comm _ _ _ _
noncomputable def unit : Nat → List Nat
 | 0 => [1]
 | i + 1 => 0 :: unit i
theorem unit_ev : ∀ (i : Nat) (c : List Nat), PL.ev c (unit i) = c.getD i 0
 | 0, [] => rfl
 | 0, x :: c => by simp [unit, PL.ev]
 | i + 1, [] => by
  have := unit_ev i []
  simp [unit, PL.ev] at this ⊢; exact this
 | i + 1, x :: c => by
  have := unit_ev i c
  simp [unit, PL.ev] at this ⊢; exact this
theorem mul_ev (k : Nat) : ∀ (c a : List Nat), PL.ev c (a.map (k * ·)) = k * PL.ev c a
 | _, [] => rfl
 | c, x :: a => by
  have ih := mul_ev k c.tail a
  simp only [List.map_cons, PL.ev, ih, Nat.mul_add, Nat.mul_assoc]
noncomputable def LT'.pl : LT' → PL
 | .v i => ⟨unit i, 0⟩
 | .n k => ⟨[], k⟩
 | .a x y => ⟨addR x.pl.r y.pl.r, x.pl.k + y.pl.k⟩
 | .m k x => ⟨x.pl.r.map (k * ·), k * x.pl.k⟩
theorem pl_den (c : List Nat) : ∀ x : LT', x.pl.den c = x.den c
 | .v i => by simp [LT'.pl, PL.den, LT'.den, unit_ev]
 | .n k => by simp [LT'.pl, PL.den, LT'.den, PL.ev]
 | .a x y => by
  have h1 := pl_den c x
  have h2 := pl_den c y
  unfold PL.den at h1 h2
  simp only [LT'.pl, PL.den, LT'.den, addR_ev]; rw [← h1, ← h2]; exact Nat.add_add_add_comm _ _ _ _
 | .m k x => by
  have h1 := pl_den c x
  unfold PL.den at h1
  simp only [LT'.pl, PL.den, LT'.den, mul_ev, ← h1, Nat.mul_add]
noncomputable def geR : List Nat → List Nat → Bool
 | _, [] => true
 | [], y :: b => y == 0 && geR [] b
 | x :: a, y :: b => Nat.ble y x && geR a b
theorem geR_ev : ∀ (c a b : List Nat), geR a b = true → PL.ev c b ≤ PL.ev c a
 | _, _, [], _ => Nat.zero_le _
 | c, [], y :: b, h => by
  simp [geR] at h
  have := geR_ev c.tail [] b h.2
  simp [PL.ev, h.1] at this ⊢; exact this
 | c, x :: a, y :: b, h => by
  simp [geR] at h
  have := geR_ev c.tail a b h.2
  have h2 := Nat.mul_le_mul_right (c.headD 0) h.1
  exact Nat.add_le_add h2 this
abbrev Cert := List (Nat × LT' × LT')
noncomputable def Cert.den (c : List Nat) : Cert → Prop → Prop
 | [], g => g
 | (_, x, y) :: r, g => x.den c ≤ y.den c → Cert.den c r g
noncomputable def Cert.sum : Cert → PL × PL
 | [] => (⟨[], 0⟩, ⟨[], 0⟩)
 | (w, x, y) :: r => let s := Cert.sum r; (⟨addR (x.pl.r.map (w * ·)) s.1.r, w * x.pl.k + s.1.k⟩, ⟨addR (y.pl.r.map (w * ·)) s.2.r, w * y.pl.k + s.2.k⟩)
noncomputable def Cert.ok (t : Cert) : Bool := let s := t.sum; geR s.1.r s.2.r && Nat.blt s.2.k s.1.k
theorem cert_den (c : List Nat) (g : Prop) : ∀ t : Cert, (t.sum.1.den c ≤ t.sum.2.den c → g) → Cert.den c t g
 | [], h => h (Nat.le_refl _)
 | (w, x, y) :: r, h => fun hxy => cert_den c g r fun hr => h (by
   have h1 := pl_den c x
   have h2 := pl_den c y
   have h3 := Nat.mul_le_mul_left w hxy
   rw [← h1, ← h2] at h3
   unfold PL.den at h3 hr ⊢
   simp only [Cert.sum, addR_ev, mul_ev]
   rw [Nat.mul_add, Nat.mul_add] at h3
   have h4 := Nat.add_le_add h3 hr
   rw [Nat.add_add_add_comm] at h4
   exact Nat.le_trans h4 (Nat.le_of_eq (Nat.add_add_add_comm _ _ _ _)))
theorem lin (c : List Nat) (t : Cert) (h : t.ok = true) : Cert.den c t False := cert_den c False t fun hs => by
 unfold Cert.ok at h
 simp only [Bool.and_eq_true, Nat.blt_eq] at h
 have h1 := geR_ev c _ _ h.1
 have h2 := h.2
 exact Nat.lt_irrefl _ (Nat.lt_of_lt_of_le (Nat.add_lt_add_of_le_of_lt h1 h2) hs)
end Mine
namespace Mine
theorem sub_lo (a b : Nat) : a ≤ a - b + b := Nat.sub_le_iff_le_add.mp (Nat.le_refl _)
theorem sub_hi {a b : Nat} (h : b ≤ a) : a - b + b ≤ a := Nat.le_of_eq (Nat.sub_add_cancel h)
theorem sub_or (a b : Nat) : a - b + b = a ∨ a - b = 0 := (Nat.le_total b a).imp Nat.sub_add_cancel Nat.sub_eq_zero_of_le
theorem div_lo (a k : Nat) : k * (a / k) ≤ a := Nat.mul_div_le a k
theorem div_hi (a k : Nat) (h : 0 < k) : a < k * (a / k) + k := Nat.lt_of_le_of_lt (Nat.le_of_eq (Nat.div_add_mod a k).symm) (Nat.add_lt_add_left (Nat.mod_lt a h) _)
theorem min_or (a b : Nat) : a ≤ min a b ∨ b ≤ min a b := (Nat.le_total a b).imp (fun h => Nat.le_min.mpr ⟨Nat.le_refl _, h⟩) (fun h => Nat.le_min.mpr ⟨h, Nat.le_refl _⟩)
theorem max_or (a b : Nat) : max a b ≤ a ∨ max a b ≤ b := (Nat.le_total b a).imp (fun h => Nat.max_le.mpr ⟨Nat.le_refl _, h⟩) (fun h => Nat.max_le.mpr ⟨h, Nat.le_refl _⟩)
abbrev u0 : LT' := .v 0
abbrev u1 : LT' := .v 1
abbrev u2 : LT' := .v 2
abbrev u3 : LT' := .v 3
theorem drop_nil {α : Type} {l : List α} {i : Nat} (h : l.drop i = []) (hi : i ≤ l.length) : i = l.length := Nat.le_antisymm hi (List.drop_eq_nil_iff.mp h)
theorem drop_lt {α : Type} {l r : List α} {x : α} {i : Nat} (h : l.drop i = x :: r) : i < l.length := Nat.lt_of_not_le fun g => by rw [List.drop_eq_nil_of_le g] at h; cases h
theorem up1 {a j L c d k : Nat} (h : a + c * (j + 1) + d < L) (hk : k ≤ c) : a + k + c * j + d < L :=
 Nat.lt_of_le_of_lt (Nat.add_le_add_right (by rw [Nat.add_assoc, Nat.add_comm k]; exact Nat.add_le_add_left (Nat.add_le_add_left hk _) a) d) h
end Mine
end
noncomputable section
namespace Mine
open PySem
inductive V where
 | none
 | bool (b : Bool)
 | int (i : Int)
 | str (s : Str)
 | ref (a : Addr)
 | script
 | ty (n : String)
 | tup (vs : List V)
inductive AObj where
 | list (xs : List V)
 | dict (kvs : List (Str × V)) (ep : Nat)
 | idict (kvs : List (Int × V)) (ep : Nat)
 | inst (dx : Addr)
 | ns (fs : List (String × V))
abbrev View := Addr → Option AObj
abbrev Loc := String → Option V
noncomputable def upd (σ : View) (a : Addr) (o : AObj) : View := fun b => if b = a then some o else σ b
noncomputable def put (m : Loc) (x : String) (v : V) : Loc := fun y => bif y == x then some v else m y
@[simp] theorem upd_same (σ : View) (a : Addr) (o : AObj) : upd σ a o a = some o := by simp [upd]
theorem upd_ne {σ : View} {a b : Addr} {o : AObj} (h : b ≠ a) : upd σ a o b = σ b := by simp [upd, h]
theorem upd_old {σ : View} {a b : Addr} {o o' : AObj} (ha : σ a = none) (hb : σ b = some o') : upd σ a o b = some o' := by
 rw [upd_ne (by rintro rfl; rw [ha] at hb; cases hb), hb]
@[simp low] theorem put_same (m : Loc) (x : String) (v : V) : put m x v x = some v := by simp [put]
theorem put_ne {m : Loc} {x y : String} {v : V} (h : y ≠ x) : put m x v y = m y := by unfold put; rw [beq_false_of_ne h]; rfl
structure Cx where
 prog : Program
 w : World
 s₁ : Shared
 aS : Addr
 ns : List Int
 mg : Str → Option Value
 mb : Str → Option Value
 held : Option Addr := none
abbrev Cx.hB (C : Cx) : Heap := C.s₁.heap
structure Cx.Ok (C : Cx) : Prop where
 g : C.hB.Ns mainGlobals C.mg
 b : C.hB.Ns builtinsNs C.mb
 nolimit : C.hB.NoLimit
 mods : ∃ o, C.hB.get? sysModules = some o
 few : C.ns.length ≤ 63
 heldOk : ∀ e, C.held = some e → ∃ o vs, C.hB.get? e = some o ∧ o.data = .fields vs ∧ vs[2]? = some .none
 script : ∃ ws, C.hB.IsList C.aS ws ∧ ws.toList.length = C.ns.length ∧ ∀ (i : Nat) n, C.ns[i]? = some n → ∃ t, ws.toList[i]? = some (Value.int n t)
theorem Cx.Ok.noMods {C : Cx} (O : C.Ok) {a : Addr} (h : C.hB.get? a = none) : (a == sysModules) = false := by
 obtain ⟨o, ho⟩ := O.mods
 simp only [beq_eq_false_iff_ne]
 rintro rfl
 rw [ho] at h; cases h
mutual
inductive VRel (aS : Addr) (h : Heap) : V → Value → Prop
 | none : VRel aS h .none .none
 | bool (b : Bool) : VRel aS h (.bool b) (.bool b)
 | int (i : Int) (t : Tok) : VRel aS h (.int i) (.int i t)
 | str (x : Str) (t : Tok) : VRel aS h (.str x) (.str x t)
 | ref (a : Addr) : VRel aS h (.ref a) (.ref a)
 | script : VRel aS h .script (.ref aS)
 | ty (n : String) : VRel aS h (.ty n) (.type n)
 | tup {vs : List V} {a : Addr} {ws : List Value} : h.IsTuple a ws.toArray → VRels aS h vs ws → VRel aS h (.tup vs) (.ref a)
inductive VRels (aS : Addr) (h : Heap) : List V → List Value → Prop
 | nil : VRels aS h [] []
 | cons {v : V} {w : Value} {vs : List V} {ws : List Value} : VRel aS h v w → VRels aS h vs ws → VRels aS h (v :: vs) (w :: ws)
end
noncomputable def IsT (o : Obj) : Prop := o.cls = .type "tuple" ∧ ∃ it n, o.data = .seq it n
noncomputable def TupKeep (h h' : Heap) : Prop := ∀ b o, h.get? b = some o → IsT o → h'.get? b = some o
theorem VRel.keep {aS : Addr} {h h' : Heap} (k : TupKeep h h') {v : V} {w : Value} (x : VRel aS h v w) : VRel aS h' v w :=
 VRel.rec (motive_1 := fun v w _ => VRel aS h' v w) (motive_2 := fun vs ws _ => VRels aS h' vs ws) .none .bool .int .str .ref .script .ty (fun ht _ ih => .tup (let ⟨o, ho, hc, r⟩ := ht; ⟨o, k _ o ho ⟨hc, _, r⟩, hc, r⟩) ih) .nil (fun _ _ a b => .cons a b) x
theorem VRels.inv0 {aS : Addr} {h : Heap} {ws : List Value} (x : VRels aS h [] ws) : ws = [] := by cases x; rfl
theorem VRels.invC {aS : Addr} {h : Heap} {a : V} {as : List V} {ws : List Value} (x : VRels aS h (a :: as) ws) : ∃ w ws', ws = w :: ws' ∧ VRel aS h a w ∧ VRels aS h as ws' := by
 cases x with
 | cons h1 r => exact ⟨_, _, rfl, h1, r⟩
theorem VRels.ind {aS : Addr} {h : Heap} {P : List V → List Value → Prop} (h0 : P [] []) (h1 : ∀ v w vs ws, VRel aS h v w → VRels aS h vs ws → P vs ws → P (v :: vs) (w :: ws)) {vs : List V} {ws : List Value} (x : VRels aS h vs ws) : P vs ws := by
 induction vs generalizing ws with
 | nil => rw [x.inv0]; exact h0
 | cons v vs ih => obtain ⟨w, ws, rfl, a, r⟩ := x.invC; exact h1 _ _ _ _ a r (ih r)
theorem VRels.keep {aS : Addr} {h h' : Heap} (k : TupKeep h h') {vs : List V} {ws : List Value} (x : VRels aS h vs ws) : VRels aS h' vs ws :=
 x.ind .nil fun _ _ _ _ a _ ih => .cons (a.keep k) ih
theorem VRels.length {aS : Addr} {h : Heap} {vs : List V} {ws : List Value} (x : VRels aS h vs ws) : vs.length = ws.length :=
 x.ind (P := fun vs ws => vs.length = ws.length) rfl fun _ _ _ _ _ _ ih => congrArg (· + 1) ih
theorem VRels.get {aS : Addr} {h : Heap} {vs : List V} {ws : List Value} (x : VRels aS h vs ws) : ∀ {i : Nat} {v : V}, vs[i]? = some v → ∃ w, ws[i]? = some w ∧ VRel aS h v w :=
 x.ind (P := fun vs ws => ∀ {i : Nat} {v : V}, vs[i]? = some v → ∃ w, ws[i]? = some w ∧ VRel aS h v w) (fun e => by cases e) fun _ w _ _ a _ ih i _ e => by
  cases i with
  | zero => cases e; exact ⟨w, rfl, a⟩
  | succ i => exact ih e
theorem VRel.invStr {aS : Addr} {h : Heap} {x : Str} {w : Value} (r : VRel aS h (.str x) w) : ∃ t, w = .str x t := by cases r; exact ⟨_, rfl⟩
theorem VRel.invInt {aS : Addr} {h : Heap} {x : Int} {w : Value} (r : VRel aS h (.int x) w) : ∃ t, w = .int x t := by cases r; exact ⟨_, rfl⟩
theorem VRels.append {aS : Addr} {h : Heap} {vs vs' : List V} {ws ws' : List Value} (x : VRels aS h vs ws) (y : VRels aS h vs' ws') : VRels aS h (vs ++ vs') (ws ++ ws') :=
 x.ind (P := fun vs ws => VRels aS h (vs ++ vs') (ws ++ ws')) y fun _ _ _ _ a _ ih => .cons a ih
noncomputable def PRel {K : Type} (aS : Addr) (h : Heap) : List (K × V) → List (K × Value) → Prop
 | [], [] => True
 | (k, v) :: r, (k', w) :: r' => k = k' ∧ VRel aS h v w ∧ PRel aS h r r'
 | _, _ => False
theorem PRel.ind {K : Type} {aS : Addr} {h : Heap} {P : List (K × V) → List (K × Value) → Prop} (h0 : P [] []) (h1 : ∀ k v w r r', VRel aS h v w → PRel aS h r r' → P r r' → P ((k, v) :: r) ((k, w) :: r')) {a : List (K × V)} {b : List (K × Value)} (x : PRel aS h a b) : P a b := by
 induction a generalizing b with
 | nil => cases b with
  | nil => exact h0
  | cons _ _ => exact False.elim x
 | cons p a ih => cases b with
  | nil => exact False.elim x
  | cons q b =>
   obtain ⟨k, v⟩ := p
   obtain ⟨k', w⟩ := q
   have y : k = k' ∧ VRel aS h v w ∧ PRel aS h a b := x
   obtain ⟨rfl, y, r⟩ := y
   exact h1 _ _ _ _ _ y r (ih r)
theorem PRel.keep {K : Type} {aS : Addr} {h h' : Heap} (k : TupKeep h h') {a : List (K × V)} {b : List (K × Value)} (x : PRel aS h a b) : PRel aS h' a b :=
 x.ind trivial fun _ _ _ _ _ v _ ih => ⟨rfl, v.keep k, ih⟩
theorem PRel.length {K : Type} {aS : Addr} {h : Heap} {a : List (K × V)} {b : List (K × Value)} (x : PRel aS h a b) : a.length = b.length :=
 x.ind (P := fun a b => a.length = b.length) rfl fun _ _ _ _ _ _ _ ih => congrArg (· + 1) ih
theorem PRel.get {K : Type} {aS : Addr} {h : Heap} {a : List (K × V)} {b : List (K × Value)} (x : PRel aS h a b) : ∀ {i : Nat} {k : K} {v : V}, a[i]? = some (k, v) → ∃ w, b[i]? = some (k, w) ∧ VRel aS h v w :=
 x.ind (P := fun a b => ∀ {i : Nat} {k : K} {v : V}, a[i]? = some (k, v) → ∃ w, b[i]? = some (k, w) ∧ VRel aS h v w) (fun e => by simp at e) fun _ _ w _ _ hv _ ih i _ _ e => by
  cases i with
  | zero => cases e; exact ⟨w, rfl, hv⟩
  | succ i => exact ih e
noncomputable def ObjRel (C : Cx) (h : Heap) (a : Addr) : AObj → Prop
 | .list xs => xs.length ≤ 16777216 ∧ ∃ ws : List Value, h.PlainList a ws.toArray ∧ VRels C.aS h xs ws
 | .dict kvs ep => kvs.length ≤ 16777216 ∧ ∃ kws, h.DictAt (strKind C.prog C.w) a kws ep ∧ PRel C.aS h kvs kws
 | .idict kvs ep => kvs.length ≤ 16777216 ∧ ∃ kws, h.DictAt (intKind C.prog C.w) a kws ep ∧ PRel C.aS h kvs kws
 | .inst dx => ∃ cl, C.mg (Str.ofString "Book") = some (.ref cl) ∧ dx ≠ a ∧ h.get? a = some { cls := .ref cl, dict := some dx, data := .plain }
 | .ns fs => fs.length ≤ 1000 ∧ ∃ mA : Str → Option Value, h.Ns1 a mA ∧ (∀ x v, fs.lookup x = some v → ∃ w, mA (Str.ofString x) = some w ∧ VRel C.aS h v w) ∧ ∀ y : Str, (∀ q ∈ fs, y ≠ Str.ofString q.1) → mA y = none
theorem ObjRel.keep {C : Cx} {h h' : Heap} {a : Addr} {o : AObj} (x : ObjRel C h a o) (k : TupKeep h h') (ka : ∀ o, h.get? a = some o → h'.get? a = some o) : ObjRel C h' a o := by
 cases o with
 | list xs => obtain ⟨hz, ws, h1, h2⟩ := x; exact ⟨hz, ws, h1.at ka, h2.keep k⟩
 | dict kvs ep => obtain ⟨hz, ws, h1, h2⟩ := x; exact ⟨hz, ws, h1.at' ka, h2.keep k⟩
 | idict kvs ep => obtain ⟨hz, ws, h1, h2⟩ := x; exact ⟨hz, ws, h1.at' ka, h2.keep k⟩
 | inst dx => obtain ⟨cl, h1, h2, h3⟩ := x; exact ⟨cl, h1, h2, ka _ h3⟩
 | ns fs => obtain ⟨hz, mA, h1, h2, h3⟩ := x; exact ⟨hz, mA, h1.at ka, fun y v e => let ⟨w, a, b⟩ := h2 y v e; ⟨w, a, b.keep k⟩, h3⟩
theorem ObjRel.shape {C : Cx} {h : Heap} {a : Addr} {o : AObj} (x : ObjRel C h a o) : ∃ ob, h.get? a = some ob ∧ ¬ IsT ob ∧ ∀ v, ob.data ≠ .cell v := by
 cases o with
 | list xs => obtain ⟨_, ws, ⟨n, h1⟩, h2⟩ := x; exact ⟨_, h1, by simp [IsT], by simp⟩
 | dict kvs ep => obtain ⟨_, ws, ⟨o, es, ho, hc, hd, _⟩, h2⟩ := x; exact ⟨o, ho, by simp [IsT, hd], by rw [hd]; simp⟩
 | idict kvs ep => obtain ⟨_, ws, ⟨o, es, ho, hc, hd, _⟩, h2⟩ := x; exact ⟨o, ho, by simp [IsT, hd], by rw [hd]; simp⟩
 | inst dx => obtain ⟨cl, h1, h2, h3⟩ := x; exact ⟨_, h3, by simp [IsT], by simp⟩
 | ns fs => obtain ⟨_, mA, ⟨o, es, ep, ho, hd, _⟩, h2⟩ := x; exact ⟨o, ho, by simp [IsT, hd], by rw [hd]; simp⟩
structure RelG (C : Cx) (σ : View) (s : Shared) : Prop where
 rest : ∃ h tk d, s = { C.s₁ with heap := h, toks := tk, drawn := d }
 base : ∀ b o, C.hB.get? b = some o → s.heap.get? b = some o
 view : ∀ a o, σ a = some o → ObjRel C s.heap a o
 apart : ∀ a, σ a ≠ none → C.hB.get? a = none
noncomputable def Like (o o' : Obj) : Prop := o' = o ∨ ((∃ es ep, o.data = .dict es ep) ∧ ∃ sl, o' = { o with slots := sl })
theorem Like.refl (o : Obj) : Like o o := .inl rfl
theorem Like.trans {a b c : Obj} (x : Like a b) (y : Like b c) : Like a c := by
 rcases x with rfl | ⟨⟨es, ep, hd⟩, sl, rfl⟩
 ·exact y
 ·rcases y with rfl | ⟨_, sl', rfl⟩
  ·exact .inr ⟨⟨es, ep, hd⟩, sl, rfl⟩
  ·exact .inr ⟨⟨es, ep, hd⟩, sl', rfl⟩
theorem Like.ns {h h' : Heap} {a : Addr} {m : Str → Option Value} (hn : h.Ns a m) (k : ∀ o, h.get? a = some o → ∃ o', h'.get? a = some o' ∧ Like o o') : h'.Ns a m := by
 obtain ⟨o, es, ep, ho, hd, r⟩ := hn
 obtain ⟨o', ho', hl⟩ := k o ho
 rcases hl with rfl | ⟨_, sl, rfl⟩
 ·exact ⟨_, es, ep, ho', hd, r⟩
 ·exact ⟨_, es, ep, ho', hd, r⟩
structure Step (own : Addr → Prop) (σ σ' : View) (h h' : Heap) : Prop where
 keepL : ∀ b o, h.get? b = some o → σ b = none → ¬ own b → ∃ o', h'.get? b = some o' ∧ Like o o'
 size : h.objs.size ≤ h'.objs.size
 new : ∀ b, σ b = none → σ' b ≠ none → h.objs.size ≤ b
noncomputable def no : Addr → Prop := fun _ => False
theorem Step.of {own : Addr → Prop} {σ σ' : View} {h h' : Heap} (k : ∀ b o, h.get? b = some o → σ b = none → ¬ own b → h'.get? b = some o) (size : h.objs.size ≤ h'.objs.size) (new : ∀ b, σ b = none → σ' b ≠ none → h.objs.size ≤ b) : Step own σ σ' h h' :=
 ⟨fun b o e n q => ⟨o, k b o e n q, Like.refl o⟩, size, new⟩
theorem Step.keep {own : Addr → Prop} {σ σ' : View} {h h' : Heap} (x : Step own σ σ' h h') (b : Addr) (o : Obj) (e : h.get? b = some o) (n : σ b = none) (q : ¬ own b) (hd : ∀ es ep, o.data ≠ .dict es ep) : h'.get? b = some o := by
 obtain ⟨o', h1, h2⟩ := x.keepL b o e n q
 rcases h2 with rfl | ⟨⟨es, ep, z⟩, _⟩
 ·exact h1
 ·exact absurd z (hd es ep)
theorem Step.mono {own own' : Addr → Prop} {σ σ' : View} {h h' : Heap} (x : Step own σ σ' h h') (k : ∀ b o, h.get? b = some o → own b → own' b) : Step own' σ σ' h h' :=
 ⟨fun b o e n q => x.keepL b o e n fun z => q (k b o e z), x.size, x.new⟩
theorem RelG.dom {C : Cx} {σ : View} {s : Shared} (R : RelG C σ s) : ∀ b, σ b ≠ none → s.heap.get? b ≠ none := fun b hb => by
 cases e : σ b with
 | none => exact absurd e hb
 | some o => obtain ⟨ob, h1, _⟩ := (R.view b o e).shape; rw [h1]; simp
theorem Step.refl {own : Addr → Prop} {σ : View} {h : Heap} : Step own σ σ h h :=
 .of (fun _ _ e _ _ => e) (Nat.le_refl _) fun _ h h' => absurd h h'
theorem Step.trans {own : Addr → Prop} {σ₁ σ₂ σ₃ : View} {h₁ h₂ h₃ : Heap} (x : Step own σ₁ σ₂ h₁ h₂) (y : Step own σ₂ σ₃ h₂ h₃) : Step own σ₁ σ₃ h₁ h₃ where
 keepL := fun b o e n q => by
  obtain ⟨o', h1, h2⟩ := x.keepL b o e n q
  obtain ⟨o'', h3, h4⟩ := y.keepL b o' h1 (by
   cases z : σ₂ b with
   | none => rfl
   | some o' => have := x.new b n (by rw [z]; simp); exact absurd (Heap.lt_size e) (Nat.not_lt.mpr this)) q
  exact ⟨o'', h3, h2.trans h4⟩
 size := Nat.le_trans x.size y.size
 new := fun b n m => by
  cases z : σ₂ b with
  | some o' => exact x.new b n (by rw [z]; simp)
  | none => exact Nat.le_trans x.size (y.new b z m)
theorem Step.tups {C : Cx} {own : Addr → Prop} {σ σ' : View} {s : Shared} {h' : Heap} (R : RelG C σ s) (x : Step own σ σ' s.heap h') (ho : ∀ b o, own b → s.heap.get? b = some o → ¬ IsT o) : TupKeep s.heap h' := fun b o e hc =>
 x.keep b o e (by
  cases z : σ b with
  | none => rfl
  | some o' => obtain ⟨ob, h1, h2, _⟩ := (R.view b o' z).shape; rw [e] at h1; cases h1; exact absurd hc h2) (fun z => ho b o z e hc) (fun es ep z => by obtain ⟨_, it, n, hd⟩ := hc; rw [hd] at z; cases z)
theorem Step.tupsN {C : Cx} {σ σ' : View} {s : Shared} {h' : Heap} (R : RelG C σ s) (x : Step no σ σ' s.heap h') : TupKeep s.heap h' := x.tups R fun _ _ z => z.elim
theorem RelG.grow {C : Cx} {σ : View} {s : Shared} {h' : Heap} {tk : Nat} (R : RelG C σ s) (k : ∀ b o, s.heap.get? b = some o → h'.get? b = some o) : RelG C σ { s with heap := h', toks := tk } where
 rest := let ⟨_, _, d, e⟩ := R.rest; ⟨h', tk, d, by rw [e]⟩
 base := fun b o e => k b o (R.base b o e)
 view := fun a o e => (R.view a o e).keep (fun b o e _ => k b o e) fun o e => k a o e
 apart := R.apart
theorem Step.grow {own : Addr → Prop} {σ : View} {h h' : Heap} (k : ∀ b o, h.get? b = some o → h'.get? b = some o) (z : h.objs.size ≤ h'.objs.size) : Step own σ σ h h' :=
 .of (fun b o e _ _ => k b o e) z fun _ h h' => absurd h h'
theorem Step.push {own : Addr → Prop} {σ : View} {h : Heap} {o : Obj} : Step own σ σ h (h.push o) := .grow (fun _ _ e => Heap.get?_push_of_some _ e) (by rw [Heap.size_push]; exact Nat.le_succ _)
theorem RelG.draw {C : Cx} {σ : View} {s : Shared} (R : RelG C σ s) (d : Drawn) : RelG C σ { s with drawn := d } where
 rest := let ⟨h, tk, _, e⟩ := R.rest; ⟨h, tk, d, by rw [e]⟩
 base := R.base
 view := R.view
 apart := R.apart
theorem RelG.tok {C : Cx} {σ : View} {s : Shared} (R : RelG C σ s) (tk : Nat) : RelG C σ { s with toks := tk } := R.grow fun _ _ e => e
theorem RelG.freshNone {C : Cx} {σ : View} {s : Shared} (R : RelG C σ s) {a : Addr} (h : s.heap.get? a = none) : σ a = none := by
 cases e : σ a with
 | none => rfl
 | some o => exact absurd h (R.dom a (by rw [e]; simp))
theorem size_none (h : Heap) : h.get? h.objs.size = none := by
 cases e : h.get? h.objs.size with
 | none => rfl
 | some o => exact absurd (Heap.lt_size e) (Nat.lt_irrefl _)
theorem RelG.baseNone {C : Cx} {σ : View} {s : Shared} (R : RelG C σ s) {a : Addr} (h : s.heap.get? a = none) : C.hB.get? a = none := by
 cases e : C.hB.get? a with
 | none => rfl
 | some o => rw [R.base a o e] at h; cases h
theorem RelG.add {C : Cx} {σ : View} {s : Shared} {h' : Heap} {tk : Nat} {a : Addr} {o : AObj} (R : RelG C σ s) (k : ∀ b o, s.heap.get? b = some o → h'.get? b = some o) (hn : s.heap.get? a = none) (ho : ObjRel C h' a o) :
  RelG C (upd σ a o) { s with heap := h', toks := tk } where
 rest := (R.grow (tk := tk) k).rest
 base := (R.grow (tk := tk) k).base
 view := fun b o' e => by
  by_cases hb : b = a
  ·subst hb; rw [upd_same] at e; cases e; exact ho
  ·rw [upd_ne hb] at e; exact (R.grow (tk := tk) k).view b o' e
 apart := fun b hb => by
  by_cases q : b = a
  ·subst q; exact R.baseNone hn
  ·rw [upd_ne q] at hb; exact R.apart b hb
theorem Step.add {own : Addr → Prop} {σ : View} {h h' : Heap} {a : Addr} {o : AObj} (k : ∀ b o, h.get? b = some o → h'.get? b = some o) (z : h.objs.size ≤ h'.objs.size) (hn : h.objs.size ≤ a) : Step own σ (upd σ a o) h h' :=
 .of (fun b o e _ _ => k b o e) z fun b n m => by
  by_cases q : b = a
  ·subst q; exact hn
  ·rw [upd_ne q] at m; exact absurd n m
theorem Step.addPush {own : Addr → Prop} {σ : View} {h : Heap} {ob : Obj} {o : AObj} : Step own σ (upd σ h.objs.size o) h (h.push ob) := .add (fun _ _ e => Heap.get?_push_of_some _ e) (by rw [Heap.size_push]; exact Nat.le_succ _) (Nat.le_refl _)
theorem RelG.change {C : Cx} {σ : View} {s : Shared} {h' : Heap} {tk : Nat} {a : Addr} {o o' : AObj} (R : RelG C σ s) (ha : σ a = some o) (k : Heap.SameBut a s.heap h') (ho : ObjRel C h' a o') : RelG C (upd σ a o') { s with heap := h', toks := tk } where
 rest := let ⟨_, _, d, e⟩ := R.rest; ⟨h', tk, d, by rw [e]⟩
 base := fun b o e => (k.2 b (by rintro rfl; rw [R.apart b (by rw [ha]; simp)] at e; cases e)).trans (R.base b o e)
 view := fun b o₂ e => by
  by_cases hb : b = a
  ·subst hb; rw [upd_same] at e; cases e; exact ho
  ·rw [upd_ne hb] at e
   refine (R.view b o₂ e).keep (fun c oc ec hc => ?_) fun oc ec => (k.2 b hb).trans ec
   exact (k.2 c (by rintro rfl; obtain ⟨ob, h1, h2, _⟩ := (R.view c o ha).shape; rw [ec] at h1; cases h1; exact h2 hc)).trans ec
 apart := fun b hb => by
  by_cases q : b = a
  ·subst q; exact R.apart b (by rw [ha]; simp)
  ·rw [upd_ne q] at hb; exact R.apart b hb
theorem Step.change {own : Addr → Prop} {σ : View} {h h' : Heap} {a : Addr} {o o' : AObj} (ha : σ a = some o) (k : Heap.SameBut a h h') : Step own σ (upd σ a o') h h' :=
 .of (fun b o₂ e n _ => (k.2 b (by rintro rfl; rw [ha] at n; cases n)).trans e) (Nat.le_of_eq k.1.symm)
   fun b n m => by
  by_cases q : b = a
  ·subst q; rw [ha] at n; cases n
  ·rw [upd_ne q] at m; exact absurd n m
theorem get_none_of_size {h : Heap} {a : Addr} (q : h.objs.size ≤ a) : h.get? a = none := by
 cases e : h.get? a with
 | none => rfl
 | some o => exact absurd (Heap.lt_size e) (Nat.not_lt.mpr q)
theorem runs_size {M : Model} {Γ : Ctx} {p : Pos} {t : Sem Fin} {fs : List Frame} {s s' : Shared} {e : End} (h : Runs M Γ p t fs s e s') : s.heap.objs.size ≤ s'.heap.objs.size := by
 induction h <;> (try simp only [Shared.setGen, Heap.size_push, Heap.size_after_update] at *) <;> omega
theorem wakes_size {M : Model} {Γ : Ctx} {p : Pos} {g : Nat} {r : Resume} {s s' : Shared} {res : GenResult} (h : Wakes M Γ p g r s res s') : s.heap.objs.size ≤ s'.heap.objs.size := by
 unfold Wakes at h
 split at h
 ·exact h.elim
 ·split at h
  ·obtain ⟨e₁, s₁, hr, _, _, rfl⟩ := h; exact (runs_size hr : (s.setGen g .running).heap.objs.size ≤ s₁.heap.objs.size)
  ·rw [h.2]; exact Nat.le_refl _
  ·rw [h.2]; exact Nat.le_refl _
 ·obtain ⟨e₁, s₁, hr, _, _, rfl⟩ := h; exact (runs_size hr : (s.setGen g .running).heap.objs.size ≤ s₁.heap.objs.size)
 ·rw [h.2]; exact Nat.le_refl _
 ·rw [h.2]; exact Nat.le_refl _
theorem wp_size {α : Type} (M : Model) (Γ : Ctx) (n : Nat) (t : Sem α) : ∀ (Q : α → Pos → Shared → Prop) (E : Value → Pos → Shared → Prop) (p : Pos) (s : Shared), n ≤ s.heap.objs.size → Sem.wp M Γ t Q E p s →
  Sem.wp M Γ t (fun a p' s' => n ≤ s'.heap.objs.size ∧ Q a p' s') (fun e p' s' => n ≤ s'.heap.objs.size ∧ E e p' s') p s := by
 induction t with
 | pure a | raise a => intro Q E p s hn h; exact ⟨hn, h⟩
 | unsupported | finish | register | yield | fork | await => intro Q E p s _ h; exact h
 | rule _ k ih | «at» _ k ih | point _ k ih | ask k ih | handled _ k ih | stack k ih | thread k ih | loadIfAlive _ k ih | fresh k ih | os _ _ k ih | newGen _ k ih => intro Q E p s hn h; exact ih _ Q E _ _ hn h
 | load a _ k ih => intro Q E p s hn h; obtain ⟨o, ho, h⟩ := h; exact ⟨o, ho, ih o Q E p s hn h⟩
 | update a _ f k ih => intro Q E p s hn h; exact ⟨h.1, ih () Q E p _ (by simpa using hn) h.2⟩
 | alloc o k ih => intro Q E p s hn h; exact ih _ Q E p _ (by simp; omega) h
 | choose src m k ih => intro Q E p s hn h; exact ⟨h.1, ih _ Q E p _ hn h.2⟩
 | call c hd _ _ k ih => intro Q E p s hn h; obtain ⟨r, s', hr, h⟩ := h; exact ⟨r, s', hr, ih r Q E p s' (Nat.le_trans hn (runs_size hr)) h⟩
 | genState g k ih => intro Q E p s hn h; obtain ⟨st, hs, h⟩ := h; exact ⟨st, hs, ih _ Q E p s hn h⟩
 | resume g r _ k ih => intro Q E p s hn h; obtain ⟨res, s', hw, h⟩ := h; exact ⟨res, s', hw, ih res Q E p s' (Nat.le_trans hn (wakes_size hw)) h⟩
theorem with_size {α : Type} {M : Model} {A : Around} {s : Shared} {t : Sem α} {Q : α → Shared → Prop} {E : Value → Shared → Prop}
  (h : wpAny M A t (fun a s' => s.heap.objs.size ≤ s'.heap.objs.size → Q a s') E s) : wpAny M A t Q E s :=
 fun Γ p hΓ => Sem.wp_mono M Γ t (fun _ _ _ x => x.2 x.1) (fun _ _ _ x => x.2) p s (wp_size M Γ _ t _ _ p s (Nat.le_refl _) (h Γ p hΓ))
end Mine
end
noncomputable section
namespace Mine
open PySem
noncomputable def Own (env : Env) (b : Addr) : Prop := b = env.locals ∨ ∃ n, env.cells.lookup n = some b
structure FrameRel (C : Cx) (env : Env) (m : Loc) (σ : View) (h : Heap) : Prop where
 ns : ∃ mm, h.Ns env.locals mm ∧ ∀ x v, m x = some v → env.kindOf (Str.ofString x) = some .local → ∃ w, mm (Str.ofString x) = some w ∧ VRel C.aS h v w
 cel : ∀ x v, m x = some v → env.kindOf (Str.ofString x) = some .local ∨
  ((env.kindOf (Str.ofString x) = some .cell ∨ env.kindOf (Str.ofString x) = some .free) ∧ ∃ c w, env.cells.lookup (Str.ofString x) = some c ∧ h.IsCell c (some w) ∧ VRel C.aS h v w)
 cells : ∀ n c, env.cells.lookup n = some c → ∃ v, h.IsCell c v
 sepL : σ env.locals = none
 baseL : C.hB.get? env.locals = none
 baseC : ∀ n c, env.cells.lookup n = some c → C.hB.get? c = none
 dist : env.cells.Pairwise fun x y => x.2 ≠ y.2
 has : ∀ n, env.kindOf n = some .cell ∨ env.kindOf n = some .free → ∃ c, env.cells.lookup n = some c
theorem FrameRel.step {C : Cx} {env : Env} {m : Loc} {σ σ' : View} {s : Shared} {h' : Heap} (F : FrameRel C env m σ s.heap) (R : RelG C σ s) (S : Step no σ σ' s.heap h') : FrameRel C env m σ' h' := by
 have kt := S.tupsN R
 have kc : ∀ c v, s.heap.IsCell c v → h'.IsCell c v := fun c v ⟨o, ho, hd⟩ => ⟨o, S.keep c o ho (by
  cases z : σ c with
  | none => rfl
  | some o' => obtain ⟨ob, h1, _, h3⟩ := (R.view c o' z).shape; rw [ho] at h1; cases h1; exact absurd hd (h3 v)) (fun z => z) (fun es ep z => by rw [hd] at z; cases z), hd⟩
 obtain ⟨mm, hn, hv⟩ := F.ns
 have hl : ∃ o, s.heap.get? env.locals = some o := let ⟨o, _, _, ho, _⟩ := hn; ⟨o, ho⟩
 refine ⟨⟨mm, Like.ns hn fun o e => S.keepL _ o e F.sepL (fun z => z), fun x v e k => ?_⟩, fun x v e => ?_, fun n c e => ?_, ?_, F.baseL, F.baseC, F.dist, F.has⟩
 ·obtain ⟨w, h1, h2⟩ := hv x v e k; exact ⟨w, h1, h2.keep kt⟩
 ·rcases F.cel x v e with q | ⟨q, c, w, h1, h2, h3⟩
  ·exact .inl q
  ·exact .inr ⟨q, c, w, h1, kc _ _ h2, h3.keep kt⟩
 ·obtain ⟨v, hv⟩ := F.cells n c e; exact ⟨v, kc _ _ hv⟩
 ·cases z : σ' env.locals with
  | none => rfl
  | some o => obtain ⟨ol, hol⟩ := hl; have := S.new env.locals F.sepL (by rw [z]; simp); exact absurd (Heap.lt_size hol) (Nat.not_lt.mpr this)
structure AOk (C : Cx) (A : Around) (k : Nat) : Prop where
 handled : A.handled = C.held.map Value.ref
 depth : A.depth + 3 * k + 3 < recursionLimit
 units : A.units + 10 * k + 20 < cLine
theorem AOk.le {C : Cx} {A : Around} {k j : Nat} (x : AOk C A k) (h : j ≤ k) : AOk C A j := ⟨x.handled, Nat.lt_of_le_of_lt (Nat.add_le_add_right (Nat.add_le_add_left (Nat.mul_le_mul_left 3 h) _) _) x.depth, Nat.lt_of_le_of_lt (Nat.add_le_add_right (Nat.add_le_add_left (Nat.mul_le_mul_left 10 h) _) _) x.units⟩
theorem AOk.none {C : Cx} {A : Around} {k : Nat} (x : AOk C A k) (hp : C.held = none) : A.handled = none := by rw [x.handled, hp]; rfl
structure EnvOk (env : Env) (sc : Scope) : Prop where
 scope : env.scope = sc
 kind : sc.kind = .function
 globals : env.globals = mainGlobals
 builtins : env.builtins = builtinsNs
theorem EnvOk.k {env : Env} {sc : Scope} (e : EnvOk env sc) : env.scope.kind = .function := by rw [e.scope]; exact e.kind
theorem EnvOk.of {env : Env} {sc : Scope} (e : EnvOk env sc) {x : Str} {n : Option NameKind} (h : sc.names.lookup x = n) : env.kindOf x = n := by unfold Env.kindOf; rw [e.scope]; exact h
abbrev ET := Loc → View → (V → View → Prop) → Prop
abbrev BT := Loc → View → (Bool → View → Prop) → Prop
abbrev LT := Loc → View → (List V → View → Prop) → Prop
structure HE (C : Cx) (sc : Scope) (k : Nat) (e : Expr) (T : ET) : Prop where
 run : ∀ (env : Env) (A : Around) (s : Shared) (m : Loc) (σ : View) (Q : V → View → Prop) (P : Value → Shared → Prop) (E : Value → Shared → Prop),
  EnvOk env sc → AOk C A k → RelG C σ s → FrameRel C env m σ s.heap → T m σ Q →
  (∀ v w σ' s', VRel C.aS s'.heap v w → RelG C σ' s' → Step no σ σ' s.heap s'.heap → Q v σ' → P w s') →
  wpAny (model C.prog C.w) A (eval e env) P E s
structure HB (C : Cx) (sc : Scope) (k : Nat) (e : Expr) (T : BT) : Prop where
 run : ∀ (env : Env) (A : Around) (s : Shared) (m : Loc) (σ : View) (Q : Bool → View → Prop) (P : Bool → Shared → Prop) (E : Value → Shared → Prop),
  EnvOk env sc → AOk C A k → RelG C σ s → FrameRel C env m σ s.heap → T m σ Q →
  (∀ b σ' s', RelG C σ' s' → Step no σ σ' s.heap s'.heap → Q b σ' → P b s') →
  wpAny (model C.prog C.w) A (isTrue e env (eval e env)) P E s
structure HL (C : Cx) (sc : Scope) (k : Nat) (es : List Expr) (T : LT) : Prop where
 run : ∀ (env : Env) (A : Around) (s : Shared) (m : Loc) (σ : View) (pos : Pos) (Q : List V → View → Prop) (P : List Value → Shared → Prop) (E : Value → Shared → Prop),
  EnvOk env sc → AOk C A k → RelG C σ s → FrameRel C env m σ s.heap → T m σ Q →
  (∀ vs ws σ' s', VRels C.aS s'.heap vs ws → RelG C σ' s' → Step no σ σ' s.heap s'.heap → Q vs σ' → P ws s') →
  wpAny (model C.prog C.w) A (spliced (backTo pos (starEach es env))) P E s
section
variable {C : Cx} {sc : Scope} {k : Nat}
noncomputable def atK {α : Type} (o : Option α) (F : α → Prop) : Prop := match o with | some v => F v | none => False
theorem atK.elim {α : Type} {o : Option α} {F : α → Prop} (h : atK o F) : ∃ v, o = some v ∧ F v := by
 cases o with
 | none => exact False.elim h
 | some v => exact ⟨v, rfl, h⟩
theorem atK.of {α : Type} {o : Option α} {F : α → Prop} {v : α} (h : o = some v) (q : F v) : atK o F := by rw [h]; exact q
noncomputable def isB (v : V) (F : Bool → Prop) : Prop := match v with | .bool b => F b | _ => False
theorem isB.elim {v : V} {F : Bool → Prop} (h : isB v F) : ∃ b, v = .bool b ∧ F b := by
 cases v <;> first | exact False.elim h | exact ⟨_, rfl, h⟩
noncomputable def on1 (vs : List V) (F : V → Prop) : Prop := match vs with | [a] => F a | _ => False
theorem on1.elim {vs : List V} {F : V → Prop} (h : on1 vs F) : ∃ a, vs = [a] ∧ F a := by
 rcases vs with _ | ⟨a, _ | ⟨b, r⟩⟩
 ·exact False.elim h
 ·exact ⟨a, rfl, h⟩
 ·exact False.elim h
noncomputable def on2 (vs : List V) (F : V → V → Prop) : Prop := match vs with | a :: r => on1 r (F a) | _ => False
theorem on2.elim {vs : List V} {F : V → V → Prop} (h : on2 vs F) : ∃ a b, vs = [a, b] ∧ F a b := by
 rcases vs with _ | ⟨a, r⟩
 ·exact False.elim h
 ·obtain ⟨b, rfl, h⟩ := on1.elim h; exact ⟨a, b, rfl, h⟩
noncomputable def isS (v : V) (F : Str → Prop) : Prop := match v with | .str x => F x | _ => False
theorem isS.elim {v : V} {F : Str → Prop} (h : isS v F) : ∃ x, v = .str x ∧ F x := by
 cases v <;> first | exact False.elim h | exact ⟨_, rfl, h⟩
noncomputable def isI (v : V) (F : Int → Prop) : Prop := match v with | .int x => F x | _ => False
theorem isI.elim {v : V} {F : Int → Prop} (h : isI v F) : ∃ x, v = .int x ∧ F x := by
 cases v <;> first | exact False.elim h | exact ⟨_, rfl, h⟩
noncomputable def isR (v : V) (F : Addr → Prop) : Prop := match v with | .ref x => F x | _ => False
theorem isR.elim {v : V} {F : Addr → Prop} (h : isR v F) : ∃ x, v = .ref x ∧ F x := by
 cases v <;> first | exact False.elim h | exact ⟨_, rfl, h⟩
noncomputable def isT (v : V) (F : String → Prop) : Prop := match v with | .ty x => F x | _ => False
theorem isT.elim {v : V} {F : String → Prop} (h : isT v F) : ∃ x, v = .ty x ∧ F x := by
 cases v <;> first | exact False.elim h | exact ⟨_, rfl, h⟩
noncomputable def onR (vs : List V) (F : Addr → Prop) : Prop := on1 vs fun a => isR a fun x => F x
theorem onR.elim {vs : List V} {F : Addr → Prop} (h : onR vs F) : ∃ x, vs = [.ref x] ∧ F x := by
 obtain ⟨a, rfl, h⟩ := on1.elim h
 obtain ⟨x, rfl, h⟩ := isR.elim h
 exact ⟨x, rfl, h⟩
noncomputable def onI (vs : List V) (F : Int → Prop) : Prop := on1 vs fun a => isI a fun x => F x
theorem onI.elim {vs : List V} {F : Int → Prop} (h : onI vs F) : ∃ x, vs = [.int x] ∧ F x := by
 obtain ⟨a, rfl, h⟩ := on1.elim h
 obtain ⟨x, rfl, h⟩ := isI.elim h
 exact ⟨x, rfl, h⟩
noncomputable def onB (vs : List V) (F : Bool → Prop) : Prop := on1 vs fun a => isB a fun x => F x
theorem onB.elim {vs : List V} {F : Bool → Prop} (h : onB vs F) : ∃ x, vs = [.bool x] ∧ F x := by
 obtain ⟨a, rfl, h⟩ := on1.elim h
 obtain ⟨x, rfl, h⟩ := isB.elim h
 exact ⟨x, rfl, h⟩
noncomputable def onRS (vs : List V) (F : Addr → Str → Prop) : Prop := on2 vs fun a b => isR a fun x => isS b fun y => F x y
theorem onRS.elim {vs : List V} {F : Addr → Str → Prop} (h : onRS vs F) : ∃ x y, vs = [.ref x, .str y] ∧ F x y := by
 obtain ⟨a, b, rfl, h⟩ := on2.elim h
 obtain ⟨x, rfl, h⟩ := isR.elim h
 obtain ⟨y, rfl, h⟩ := isS.elim h
 exact ⟨x, y, rfl, h⟩
noncomputable def onSS (vs : List V) (F : Str → Str → Prop) : Prop := on2 vs fun a b => isS a fun x => isS b fun y => F x y
theorem onSS.elim {vs : List V} {F : Str → Str → Prop} (h : onSS vs F) : ∃ x y, vs = [.str x, .str y] ∧ F x y := by
 obtain ⟨a, b, rfl, h⟩ := on2.elim h
 obtain ⟨x, rfl, h⟩ := isS.elim h
 obtain ⟨y, rfl, h⟩ := isS.elim h
 exact ⟨x, y, rfl, h⟩
noncomputable def onII (vs : List V) (F : Int → Int → Prop) : Prop := on2 vs fun a b => isI a fun x => isI b fun y => F x y
theorem onII.elim {vs : List V} {F : Int → Int → Prop} (h : onII vs F) : ∃ x y, vs = [.int x, .int y] ∧ F x y := by
 obtain ⟨a, b, rfl, h⟩ := on2.elim h
 obtain ⟨x, rfl, h⟩ := isI.elim h
 obtain ⟨y, rfl, h⟩ := isI.elim h
 exact ⟨x, y, rfl, h⟩
noncomputable def onSR (vs : List V) (F : Str → Addr → Prop) : Prop := on2 vs fun a b => isS a fun x => isR b fun y => F x y
theorem onSR.elim {vs : List V} {F : Str → Addr → Prop} (h : onSR vs F) : ∃ x y, vs = [.str x, .ref y] ∧ F x y := by
 obtain ⟨a, b, rfl, h⟩ := on2.elim h
 obtain ⟨x, rfl, h⟩ := isS.elim h
 obtain ⟨y, rfl, h⟩ := isR.elim h
 exact ⟨x, y, rfl, h⟩
noncomputable def onRV (vs : List V) (F : Addr → V → Prop) : Prop := on2 vs fun a b => isR a fun x => F x b
theorem onRV.elim {vs : List V} {F : Addr → V → Prop} (h : onRV vs F) : ∃ x y, vs = [.ref x, y] ∧ F x y := by
 obtain ⟨a, b, rfl, h⟩ := on2.elim h
 obtain ⟨x, rfl, h⟩ := isR.elim h
 exact ⟨x, b, rfl, h⟩
noncomputable def onVT (vs : List V) (F : V → String → Prop) : Prop := on2 vs fun a b => isT b fun y => F a y
theorem onVT.elim {vs : List V} {F : V → String → Prop} (h : onVT vs F) : ∃ x y, vs = [x, .ty y] ∧ F x y := by
 obtain ⟨a, b, rfl, h⟩ := on2.elim h
 obtain ⟨y, rfl, h⟩ := isT.elim h
 exact ⟨a, y, rfl, h⟩
noncomputable def eName (x : String) : ET := fun m σ Q => atK (m x) fun v => Q v σ
theorem HE.name {x : String} {pos : Pos} (h : sc.names.lookup (Str.ofString x) = some .local) (hd : (Str.ofString x == ("__debug__" : Str)) = false) : HE C sc k (.Name (Str.ofString x) pos) (eName x) := by
 refine ⟨?_⟩; intro env A s m σ Q P E en ao R F q₀ hP
 obtain ⟨v, hv, q⟩ := q₀.elim
 obtain ⟨mm, hn, hm⟩ := F.ns
 obtain ⟨w, hw, hr⟩ := hm x v hv (en.of h)
 exact wpAny_Name (wpAny_loadName_local en.k (en.of h) hn hw (hP v w σ s hr R Step.refl q)) hd
theorem HE.cell {x : String} {pos : Pos} (h : sc.names.lookup (Str.ofString x) = some .cell) (hd : (Str.ofString x == ("__debug__" : Str)) = false) : HE C sc k (.Name (Str.ofString x) pos) (eName x) := by
 refine ⟨?_⟩; intro env A s m σ Q P E en ao R F q₀ hP
 obtain ⟨v, hv, q⟩ := q₀.elim
 have kk := en.of h
 rcases F.cel x v hv with z | ⟨_, c, w, h1, h2, h3⟩
 ·rw [kk] at z; cases z
 ·exact wpAny_Name (wpAny_loadName_cell en.k kk h1 h2 (hP v w σ s h3 R Step.refl q)) hd
noncomputable def eVal (v : V) : ET := fun _ σ Q => Q v σ
theorem HE.int {i : Int} {n : Nat} {pos : Pos} : HE C sc k (.Constant (.int i) n pos) (eVal (.int i)) := by
 refine ⟨?_⟩; intro env A s m σ Q P E en ao R F q hP
 exact wpAny_Constant_int (hP _ _ σ _ (.int i _) (R.tok _) (Step.refl) q)
theorem HE.str {x : Str} {n : Nat} {pos : Pos} : HE C sc k (.Constant (.str x) n pos) (eVal (.str x)) := by
 refine ⟨?_⟩; intro env A s m σ Q P E en ao R F q hP
 exact Calls.Constant_str (hP _ _ σ _ (.str x _) (R.tok _) (Step.refl) q)
theorem HE.bool {b : Bool} {n : Nat} {pos : Pos} : HE C sc k (.Constant (.bool b) n pos) (eVal (.bool b)) := by
 refine ⟨?_⟩; intro env A s m σ Q P E en ao R F q hP
 exact wpAny_Constant_bool (hP _ _ σ _ (.bool b) R (Step.refl) q)
theorem HE.none {n : Nat} {pos : Pos} : HE C sc k (.Constant .none n pos) (eVal .none) := by
 refine ⟨?_⟩; intro env A s m σ Q P E en ao R F q hP
 exact wpAny_Constant_none (hP _ _ σ _ .none R (Step.refl) q)
theorem HE.gty (O : C.Ok) {x n : String} {pos : Pos} (h : sc.names.lookup (Str.ofString x) = some .globalImplicit) (hg : C.mg (Str.ofString x) = Option.none) (hb : C.mb (Str.ofString x) = some (.type n)) (hd : (Str.ofString x == ("__debug__" : Str)) = false) :
  HE C sc k (.Name (Str.ofString x) pos) (eVal (.ty n)) := by
 refine ⟨?_⟩; intro env A s m σ Q P E en ao R F q hP
 exact Calls.Name_function_global en.k (en.of h) (Calls.loadGlobal_builtin (mg := C.mg) (mb := C.mb) (by rw [en.globals]; exact O.g.keeps R.base) hg (by rw [en.builtins]; exact O.b.keeps R.base) hb (hP _ _ σ s (.ty n) R Step.refl q)) hd
noncomputable def lNil : LT := fun _ σ Q => Q [] σ
noncomputable def lCons (T : ET) (L : LT) : LT := fun m σ Q => T m σ fun v σ₁ => L m σ₁ fun vs σ₂ => Q (v :: vs) σ₂
theorem HL.nil : HL C sc k [] lNil := by
 refine ⟨?_⟩; intro env A s m σ pos Q P E en ao R F q hP
 exact Calls.spliced_nil (hP [] [] σ s .nil R Step.refl q)
noncomputable def notStar : Expr → Bool
 | .Starred .. => false
 | _ => true
theorem starEach_plain {e : Expr} {rest : List Expr} {env : Env} (h : notStar e = true) : starEach (e :: rest) env = (false, eval e env) :: starEach rest env := by
 cases e <;> first | rfl | cases h
theorem HL.cons {e : Expr} {es : List Expr} {T : ET} {L : LT} (he : HE C sc k e T) (hl : HL C sc k es L) (hs : notStar e = true) : HL C sc k (e :: es) (lCons T L) := by
 refine ⟨?_⟩; intro env A s m σ pos Q P E en ao R F q hP
 rw [starEach_plain hs]
 show wpAny _ A (spliced ((false, eval e env) :: backTo pos (starEach es env))) P E s
 refine Calls.spliced_cons (he.run env A s m σ _ _ E en ao R F q fun v w σ₁ s₁ hv R₁ S₁ q₁ => ?_)
 exact hl.run env A s₁ m σ₁ pos _ _ E en ao R₁ (F.step R S₁) q₁ fun vs ws σ₂ s₂ hvs R₂ S₂ q₂ => hP _ _ σ₂ s₂ (.cons (hv.keep (S₂.tupsN R₁)) hvs) R₂ (S₁.trans S₂) q₂
noncomputable def eTup (L : LT) : ET := fun m σ Q => L m σ fun vs σ₁ => vs.length ≤ 1000 ∧ Q (.tup vs) σ₁
theorem push_old {h : Heap} {o : Obj} : ∀ b o', h.get? b = some o' → (h.push o).get? b = some o' := fun _ _ e => Heap.get?_push_of_some _ e
theorem HE.tup {es : List Expr} {L : LT} {n : Nat} {pos : Pos} (hl : HL C sc k es L) : HE C sc k (.Tuple es n pos) (eTup L) := by
 refine ⟨?_⟩; intro env A s m σ Q P E en ao R F q hP
 show wpAny _ A (do standAt pos; newTuple (← spliced (backTo pos (starEach es env)))) P E s
 refine wpAny_bind (wpAny_standAt (wpAny_bind (hl.run env A s m σ pos _ _ E en ao R F q fun vs ws σ₁ s₁ hv R₁ S₁ q₁ => ?_)))
 have hlen := hv.length
 refine wpAny_newTuple (hP _ _ σ₁ _ (.tup (ws := ws) ⟨_, Heap.get?_push_size _ rfl, rfl, _, rfl⟩ (hv.keep fun _ _ e _ => push_old _ _ e)) (R₁.grow push_old) (S₁.trans .push) q₁.2) (by rw [← hlen, sizeLine_eq]; exact Nat.le_trans q₁.1 (by decide))
noncomputable def newL (xs : List V) (σ : View) (Q : V → View → Prop) : Prop := ∀ a, σ a = none → Q (.ref a) (upd σ a (.list xs))
noncomputable def eList (L : LT) : ET := fun m σ Q => L m σ fun vs σ₁ => vs.length ≤ 1000 ∧ newL vs σ₁ Q
theorem HE.list {es : List Expr} {L : LT} {pos : Pos} (hl : HL C sc k es L) : HE C sc k (.List es pos) (eList L) := by
 refine ⟨?_⟩; intro env A s m σ Q P E en ao R F q hP
 show wpAny _ A (do standAt pos; newList (← spliced (backTo pos (starEach es env)))) P E s
 refine wpAny_bind (wpAny_standAt (wpAny_bind (hl.run env A s m σ pos _ _ E en ao R F q fun vs ws σ₁ s₁ hv R₁ S₁ q₁ => ?_)))
 have hlen := hv.length
 have hn := size_none s₁.heap
 refine wpAny_newList (hP _ _ (upd σ₁ s₁.heap.objs.size (.list vs)) _ (.ref _) (R₁.add (tk := s₁.toks) push_old hn ⟨Nat.le_trans q₁.1 (by decide), ws, ⟨_, Heap.get?_push_size _ rfl⟩, hv.keep fun _ _ e _ => push_old _ _ e⟩) (S₁.trans .addPush) (q₁.2 _ (R₁.freshNone hn))) (by rw [← hlen, sizeLine_eq]; exact Nat.le_trans q₁.1 (by decide))
end
end Mine
end
noncomputable section
namespace Mine
open PySem
abbrev O2 := V → V → View → (V → View → Prop) → Prop
abbrev O1 := V → View → (V → View → Prop) → Prop
abbrev Aft (C : Cx) (σ : View) (s : Shared) (Q : V → View → Prop) (P : Value → Shared → Prop) : Prop :=
 ∀ v w σ' s', VRel C.aS s'.heap v w → RelG C σ' s' → Step no σ σ' s.heap s'.heap → Q v σ' → P w s'
noncomputable def Op2 (C : Cx) (k : Nat) (t : Value → Value → Sem Value) (op : O2) : Prop :=
 ∀ (A : Around) (s : Shared) (σ : View) (a b : V) (wa wb : Value) (Q : V → View → Prop) (P E : Value → Shared → Prop), AOk C A k → RelG C σ s → VRel C.aS s.heap a wa → VRel C.aS s.heap b wb → op a b σ Q → Aft C σ s Q P →
  wpAny (model C.prog C.w) A (t wa wb) P E s
noncomputable def eBin (op : O2) (T U : ET) : ET := fun m σ Q => T m σ fun a σ₁ => U m σ₁ fun b σ₂ => op a b σ₂ Q
section
variable {C : Cx} {sc : Scope} {k : Nat}
theorem two {op : O2} {t : Value → Value → Sem Value} {T U : ET} {e f : Expr} (hop : Op2 C k t op) (he : HE C sc k e T) (hf : HE C sc k f U) {env : Env} {A : Around} {s : Shared} {m : Loc} {σ : View} {Q : V → View → Prop} {P E : Value → Shared → Prop}
  (en : EnvOk env sc) (ao : AOk C A k) (R : RelG C σ s) (F : FrameRel C env m σ s.heap) (q : eBin op T U m σ Q) (hP : Aft C σ s Q P) :
  wpAny (model C.prog C.w) A (eval e env) (fun a s₁ => wpAny (model C.prog C.w) A (eval f env) (fun b s₂ => wpAny (model C.prog C.w) A (t a b) P E s₂) E s₁) E s :=
 he.run env A s m σ _ _ E en ao R F q fun a wa σ₁ s₁ va R₁ S₁ q₁ =>
  hf.run env A s₁ m σ₁ _ _ E en ao R₁ (F.step R S₁) q₁ fun b wb σ₂ s₂ vb R₂ S₂ q₂ =>
   hop A s₂ σ₂ a b wa wb Q P E ao R₂ (va.keep (S₂.tupsN R₁)) vb q₂ fun v w σ' s' hv R' S' q' => hP v w σ' s' hv R' ((S₁.trans S₂).trans S') q'
theorem HE.bin {op : O2} {o : Operator} {l r : Expr} {pos : Pos} {T U : ET} (hop : Op2 C k (binaryOp o) op) (hl : HE C sc k l T) (hr : HE C sc k r U) : HE C sc k (.BinOp l o r pos) (eBin op T U) := by
 refine ⟨?_⟩; intro env A s m σ Q P E en ao R F q hP
 exact wpAny_BinOp (two hop hl hr en ao R F q hP)
theorem HE.cmp {op : O2} {o : CmpOp} {l r : Expr} {pos : Pos} {T U : ET} (hop : Op2 C k (compareOp o) op) (hl : HE C sc k l T) (hr : HE C sc k r U) (hm : behindInMarks o r = false) : HE C sc k (.Compare l [o] [r] pos) (eBin op T U) := by
 refine ⟨?_⟩; intro env A s m σ Q P E en ao R F q hP
 exact wpAny_Compare1 (two hop hl hr en ao R F q hP) hm
noncomputable def tBool (T : ET) : BT := fun m σ Q => T m σ fun v σ' => isB v fun b => Q b σ'
theorem HB.cmp {op : O2} {o : CmpOp} {l r : Expr} {pos : Pos} {T U : ET} (hop : Op2 C k (compareOp o) op) (hl : HE C sc k l T) (hr : HE C sc k r U) (hm : behindInMarks o r = false) : HB C sc k (.Compare l [o] [r] pos) (tBool (eBin op T U)) := by
 refine ⟨?_⟩; intro env A s m σ Q P E en ao R F q hP
 refine wpAny_isTrue_Compare1 (two (P := fun c s₃ => wpAny _ A (truthy c) P E s₃) hop hl hr en ao R F q fun v w σ' s' hv R' S' q' => ?_) hm
 replace q' := q'.elim
 obtain ⟨b, rfl, q'⟩ := q'
 cases hv
 exact wpAny_truthy_bool (hP b σ' s' R' S' q')
noncomputable def tCmp2 (o1 o2 : O2) (T U W : ET) : BT := fun m σ Q => T m σ fun a σ₁ => U m σ₁ fun b σ₂ => o1 a b σ₂ fun v σ₃ => isB v fun x => if x then W m σ₃ fun c σ₄ => o2 b c σ₄ fun u σ₅ => isB u fun y => Q y σ₅ else Q false σ₃
theorem HB.cmp2 {p1 p2 : O2} {o1 o2 : CmpOp} {l r z : Expr} {pos : Pos} {T U W : ET} (h1 : Op2 C k (compareOp o1) p1) (h2 : Op2 C k (compareOp o2) p2) (hl : HE C sc k l T) (hr : HE C sc k r U) (hz : HE C sc k z W) (hm : behindInMarks o2 z = false) :
  HB C sc k (.Compare l [o1, o2] [r, z] pos) (tCmp2 p1 p2 T U W) := by
 refine ⟨?_⟩; intro env A s m σ Q P E en ao R F q hP
 show wpAny _ A (do testChain pos (← eval l env) [o1, o2] [eval r env, markedBehindIn o2 z (eval z env)]) P E s
 rw [markedBehindIn_of_false hm]
 refine wpAny_bind (hl.run env A s m σ _ _ E en ao R F q fun a wa σ₁ s₁ va R₁ S₁ q₁ => ?_)
 show wpAny _ A (do
  let rv ← holding [wa] (eval r env)
  standAt pos
  let c ← holding [wa, rv] (compareOp o1 wa rv)
  release [wa, rv] [c]
  if ← holding [c, rv] (truthy c) then testChain pos rv [o2] [eval z env] else pure false) P E s₁
 refine wpAny_bind (wpAny_holding (hr.run env A s₁ m σ₁ _ _ E en ao R₁ (F.step R S₁) q₁ fun b wb σ₂ s₂ vb R₂ S₂ q₂ => ?_))
 refine wpAny_bind (wpAny_standAt (wpAny_bind (wpAny_holding ?_)))
 refine h1 A s₂ σ₂ a b wa wb _ _ E ao R₂ (va.keep (S₂.tupsN R₁)) vb q₂ fun v w σ₃ s₃ hv R₃ S₃ q₃ => ?_
 replace q₃ := q₃.elim
 obtain ⟨x, rfl, q₃⟩ := q₃
 cases hv
 refine wpAny_bind ?_
 intro Γ p hΓ
 rw [Sem.wp_release]
 refine wpAny_bind (wpAny_holding (wpAny_truthy_bool ?_))
 have S₁₃ := (S₁.trans S₂).trans S₃
 cases x with
 | false => exact wpAny_pure (hP false σ₃ s₃ R₃ S₁₃ (by simpa using q₃))
 | true =>
  simp only [if_true] at q₃ ⊢
  show wpAny _ A (do
   let rv ← holding [wb] (eval z env)
   standAt pos
   let c ← operate [wb, rv] (compareOp o2 wb rv)
   holding [c] (truthy c)) P E s₃
  refine wpAny_bind (wpAny_holding (hz.run env A s₃ m σ₃ _ _ E en ao R₃ (F.step R S₁₃) q₃ fun c wc σ₄ s₄ vc R₄ S₄ q₄ => ?_))
  refine wpAny_bind (wpAny_standAt (wpAny_bind (wpAny_operating ?_)))
  refine h2 A s₄ σ₄ b c wb wc _ _ E ao R₄ ((vb.keep (S₃.tupsN R₂)).keep (S₄.tupsN R₃)) vc q₄ fun v w σ₅ s₅ hv R₅ S₅ q₅ => ?_
  replace q₅ := q₅.elim
  obtain ⟨y, rfl, q₅⟩ := q₅
  cases hv
  exact wpAny_holding (wpAny_truthy_bool (hP y σ₅ s₅ R₅ ((S₁₃.trans S₄).trans S₅) q₅))
theorem HB.val {e : Expr} {T : ET} (he : HE C sc k e T) (hi : ∀ env whole, isTrue e env whole = (do let v ← whole; standAt e.pos; holding [v] (truthy v))) : HB C sc k e (tBool T) := by
 refine ⟨?_⟩; intro env A s m σ Q P E en ao R F q hP
 refine wpAny_isTrue_value (he.run env A s m σ _ _ E en ao R F q fun v w σ' s' hv R' S' q' => ?_) (hi env _)
 replace q' := q'.elim
 obtain ⟨b, rfl, q'⟩ := q'
 cases hv
 exact wpAny_truthy_bool (hP b σ' s' R' S' q')
noncomputable def tNot (T : BT) : BT := fun m σ Q => T m σ fun b σ' => Q (!b) σ'
theorem HB.not {e : Expr} {pos : Pos} {T : BT} (he : HB C sc k e T) : HB C sc k (.UnaryOp .Not e pos) (tNot T) := by
 refine ⟨?_⟩; intro env A s m σ Q P E en ao R F q hP
 exact wpAny_isTrue_Not (he.run env A s m σ _ _ E en ao R F q fun b σ' s' R' S' q' => hP (!b) σ' s' R' S' q')
structure HBs (C : Cx) (sc : Scope) (k : Nat) (op : BoolOp) (es : List Expr) (T : BT) : Prop where
 run : ∀ (env : Env) (A : Around) (s : Shared) (m : Loc) (σ : View) (Q : Bool → View → Prop) (P : Bool → Shared → Prop) (E : Value → Shared → Prop),
  EnvOk env sc → AOk C A k → RelG C σ s → FrameRel C env m σ s.heap → T m σ Q →
  (∀ b σ' s', RelG C σ' s' → Step no σ σ' s.heap s'.heap → Q b σ' → P b s') →
  wpAny (model C.prog C.w) A (allTrue op es env) P E s
noncomputable def tT : BT := fun _ σ Q => Q true σ
noncomputable def tF : BT := fun _ σ Q => Q false σ
noncomputable def tAnd (T U : BT) : BT := fun m σ Q => T m σ fun b σ' => if b then U m σ' Q else Q false σ'
noncomputable def tOr (T U : BT) : BT := fun m σ Q => T m σ fun b σ' => if b then Q true σ' else U m σ' Q
theorem HBs.andNil : HBs C sc k .And [] tT := ⟨fun _ _ s _ σ _ _ _ _ _ R _ q hP => wpAny_allTrue_And_nil (hP true σ s R Step.refl q)⟩
theorem HBs.orNil : HBs C sc k .Or [] tF := ⟨fun _ _ s _ σ _ _ _ _ _ R _ q hP => wpAny_allTrue_Or_nil (hP false σ s R Step.refl q)⟩
theorem HBs.and {e : Expr} {es : List Expr} {T U : BT} (he : HB C sc k e T) (hs : HBs C sc k .And es U) : HBs C sc k .And (e :: es) (tAnd T U) := by
 refine ⟨?_⟩; intro env A s m σ Q P E en ao R F q hP
 refine wpAny_allTrue_And_cons (he.run env A s m σ _ _ E en ao R F q fun b σ' s' R' S' q' => ?_)
 cases b with
 | false => simpa using hP false σ' s' R' S' (by simpa using q')
 | true => simp only [if_true] at q' ⊢; exact hs.run env A s' m σ' Q P E en ao R' (F.step R S') q' fun b σ₂ s₂ R₂ S₂ q₂ => hP b σ₂ s₂ R₂ (S'.trans S₂) q₂
theorem HBs.or {e : Expr} {es : List Expr} {T U : BT} (he : HB C sc k e T) (hs : HBs C sc k .Or es U) : HBs C sc k .Or (e :: es) (tOr T U) := by
 refine ⟨?_⟩; intro env A s m σ Q P E en ao R F q hP
 refine wpAny_allTrue_Or_cons (he.run env A s m σ _ _ E en ao R F q fun b σ' s' R' S' q' => ?_)
 cases b with
 | true => simpa using hP true σ' s' R' S' (by simpa using q')
 | false => simp only [Bool.false_eq_true, if_false] at q' ⊢; exact hs.run env A s' m σ' Q P E en ao R' (F.step R S') q' fun b σ₂ s₂ R₂ S₂ q₂ => hP b σ₂ s₂ R₂ (S'.trans S₂) q₂
theorem HB.boolOp {op : BoolOp} {es : List Expr} {pos : Pos} {T : BT} (h : HBs C sc k op es T) : HB C sc k (.BoolOp op es pos) T := by
 refine ⟨?_⟩; intro env A s m σ Q P E en ao R F q hP
 exact wpAny_isTrue_BoolOp (h.run env A s m σ Q P E en ao R F q hP)
structure HVs (C : Cx) (sc : Scope) (k : Nat) (op : BoolOp) (es : List Expr) (T : ET) : Prop where
 run : ∀ (env : Env) (A : Around) (s : Shared) (m : Loc) (σ : View) (pos : Pos) (Q : V → View → Prop) (P : Value → Shared → Prop) (E : Value → Shared → Prop),
  EnvOk env sc → AOk C A k → RelG C σ s → FrameRel C env m σ s.heap → T m σ Q → Aft C σ s Q P → wpAny (model C.prog C.w) A (boolOp pos op (evalEach es env)) P E s
theorem HVs.one {op : BoolOp} {e : Expr} {T : ET} (he : HE C sc k e T) : HVs C sc k op [e] T := by
 refine ⟨?_⟩; intro env A s m σ pos Q P E en ao R F q hP
 exact he.run env A s m σ Q P E en ao R F q hP
noncomputable def eAnd (T U : ET) : ET := fun m σ Q => T m σ fun v σ' => isB v fun b => if b then U m σ' Q else Q (.bool false) σ'
noncomputable def eOr (T U : ET) : ET := fun m σ Q => T m σ fun v σ' => isB v fun b => if b then Q (.bool true) σ' else U m σ' Q
theorem HVs.and {e f : Expr} {es : List Expr} {T U : ET} (he : HE C sc k e T) (hs : HVs C sc k .And (f :: es) U) : HVs C sc k .And (e :: f :: es) (eAnd T U) := by
 refine ⟨?_⟩; intro env A s m σ pos Q P E en ao R F q hP
 show wpAny _ A (do
  let v ← eval e env
  standAt pos
  let t ← holding [v] (truthy v)
  match BoolOp.And, t with
  | .And, false | .Or, true => pure v
  | _, _ => boolOp pos .And (evalEach (f :: es) env)) P E s
 refine wpAny_bind (he.run env A s m σ _ _ E en ao R F q fun v w σ' s' hv R' S' q' => wpAny_bind (wpAny_standAt (wpAny_bind (wpAny_holding ?_))))
 replace q' := q'.elim
 obtain ⟨b, rfl, q'⟩ := q'
 cases hv
 refine wpAny_truthy_bool ?_
 cases b with
 | false => exact wpAny_pure (hP _ _ σ' s' (.bool false) R' S' (by simpa using q'))
 | true => simp only [if_true] at q'; exact hs.run env A s' m σ' pos Q P E en ao R' (F.step R S') q' fun v w σ₂ s₂ hv R₂ S₂ q₂ => hP v w σ₂ s₂ hv R₂ (S'.trans S₂) q₂
theorem HE.boolOp {op : BoolOp} {es : List Expr} {pos : Pos} {T : ET} (h : HVs C sc k op es T) : HE C sc k (.BoolOp op es pos) T := by
 refine ⟨?_⟩; intro env A s m σ Q P E en ao R F q hP
 exact h.run env A s m σ pos Q P E en ao R F q hP
theorem HE.sub {op : O2} {value slice : Expr} {pos : Pos} {T U : ET} (hv : HE C sc k value T) (hi : HE C sc k slice U)
  (hop : Op2 C k (fun o i => getitemInPython o >>= fun b => subscripted slice b o i) op) : HE C sc k (.Subscript value slice pos) (eBin op T U) := by
 refine ⟨?_⟩; intro env A s m σ Q P E en ao R F q hP
 show wpAny _ A (do
  let o ← eval value env
  let i ← holding [o] (eval slice env)
  standAt pos
  let r ← subscripted slice (← getitemInPython o) o i
  letTemporaryGo value o r
  pure r) P E s
 refine wpAny_bind (wpAny_mono (two (P := P) (E := E) hop hv hi en ao R F q hP) (fun o s₁ h₁ => wpAny_bind (wpAny_holding (wpAny_mono h₁ (fun i s₂ h₂ => wpAny_bind (wpAny_standAt ?_)) fun _ _ x => x))) fun _ _ x => x)
 have h₃ : wpAny (model C.prog C.w) A ((getitemInPython o >>= fun b => subscripted slice b o i) >>= fun r => letTemporaryGo value o r >>= fun _ => pure r) P E s₂ :=
  wpAny_bind (wpAny_mono h₂ (fun r s₃ hr => wpAny_bind (wpAny_letTemporaryGo (wpAny_pure hr))) fun _ _ x => x)
 rwa [bind_assoc] at h₃
end
end Mine
end
noncomputable section
namespace Mine
open PySem
noncomputable def Short (i : Int) : Prop := i.natAbs < 2 ^ 64
theorem abs_lt {i : Int} {n : Nat} (h : 0 < i) (h2 : i < n) : i.natAbs < n := by obtain ⟨m, rfl⟩ := Int.eq_ofNat_of_zero_le (Int.le_of_lt h); exact Int.ofNat_lt.mp h2
theorem intBits_short {i : Int} (h : Short i) : Builtin.Int.intBits i ≤ 64 := by
 unfold Builtin.Int.intBits
 split
 ·decide
 ·rename_i hn
  have h0 : i.natAbs ≠ 0 := by
   intro e
   have : i = 0 := Int.natAbs_eq_zero.mp e
   simp [this] at hn
  have := (Nat.log2_lt h0).mpr h
  exact this
theorem beq_dec {α : Type} [DecidableEq α] (a b : α) : (a == b) = decide (a = b) := by
 by_cases h : a = b
 ·subst h; simp
 ·simp [h]
section
variable {C : Cx} {k : Nat}
noncomputable def opSub : O2
 | .int x, .int y, σ, Q => Q (.int (x - y)) σ
 | _, _, _, _ => False
theorem ok_sub : Op2 C k (binaryOp .Sub) opSub := by
 intro A s σ a b wa wb Q P E ao R va vb q hP
 cases a <;> first | exact q.elim | skip
 cases b <;> first | exact q.elim | skip
 cases va; cases vb
 exact _root_.PySem.P.sub_int (hP _ _ σ _ (.int _ _) (R.tok _) Step.refl q)
noncomputable def opMod : O2
 | .int x, .int y, σ, Q => 0 < y ∧ Q (.int (x % y)) σ
 | _, _, _, _ => False
theorem ok_mod : Op2 C k (binaryOp .Mod) opMod := by
 intro A s σ a b wa wb Q P E ao R va vb q hP
 cases a <;> first | exact q.elim | skip
 cases b <;> first | exact q.elim | skip
 cases va; cases vb
 rename_i x t y u
 obtain ⟨hy, q⟩ := q
 refine PyProof.Rows.mod_int' (by exact Int.ne_of_gt hy) ?_
 rw [Int.fmod_eq_emod_of_nonneg _ (by exact Int.le_of_lt hy)]
 exact hP _ _ σ _ (.int _ _) (R.tok _) Step.refl q
noncomputable def opDiv : O2
 | .int x, .int y, σ, Q => (0 < y ∧ y < 1073741824) ∧ Q (.int (x / y)) σ
 | _, _, _, _ => False
theorem ok_div : Op2 C k (binaryOp .FloorDiv) opDiv := by
 intro A s σ a b wa wb Q P E ao R va vb q hP
 cases a <;> first | exact q.elim | skip
 cases b <;> first | exact q.elim | skip
 cases va; cases vb
 obtain ⟨hy, q⟩ := q
 refine PyProof.Rows.floordiv_int (by exact Int.ne_of_gt hy.1) ?_ (.inl (PyProof.noPylong_small (abs_lt (n := 1073741824) hy.1 hy.2)))
 rw [Int.fdiv_eq_ediv_of_nonneg _ (by exact Int.le_of_lt hy.1)]
 exact hP _ _ σ _ (.int _ _) (R.tok _) Step.refl q
noncomputable def opMul : O2
 | .int x, .int y, σ, Q => (Short x ∨ Short y) ∧ Q (.int (x * y)) σ
 | _, _, _, _ => False
theorem ok_mul : Op2 C k (binaryOp .Mult) opMul := by
 intro A s σ a b wa wb Q P E ao R va vb q hP
 cases a <;> first | exact q.elim | skip
 cases b <;> first | exact q.elim | skip
 cases va; cases vb
 refine _root_.PySem.P.mul_int (hP _ _ σ _ (.int _ _) (R.tok _) Step.refl q.2) (q.1.elim (fun h => .of_left (intBits_short h)) fun h => ?_)
 exact .of_right (intBits_short h)
noncomputable def opLt : O2
 | .int x, .int y, σ, Q => Q (.bool (decide (x < y))) σ
 | _, _, _, _ => False
noncomputable def opLe : O2
 | .int x, .int y, σ, Q => Q (.bool (decide (x ≤ y))) σ
 | _, _, _, _ => False
noncomputable def opGt : O2
 | .int x, .int y, σ, Q => Q (.bool (decide (x > y))) σ
 | _, _, _, _ => False
theorem ok_lt : Op2 C k (compareOp .Lt) opLt := by
 intro A s σ a b wa wb Q P E ao R va vb q hP
 cases a <;> first | exact q.elim | skip
 cases b <;> first | exact q.elim | skip
 cases va; cases vb
 exact _root_.PySem.P.lt_int (hP _ _ σ _ (.bool _) R Step.refl q)
theorem ok_gt : Op2 C k (compareOp .Gt) opGt := by
 intro A s σ a b wa wb Q P E ao R va vb q hP
 cases a <;> first | exact q.elim | skip
 cases b <;> first | exact q.elim | skip
 cases va; cases vb
 exact _root_.PySem.P.gt_int (hP _ _ σ _ (.bool _) R Step.refl q)
noncomputable def veq0 : V → V → Option Bool
 | .none, .none => some true
 | .none, .str _ => some false
 | .str _, .none => some false
 | .bool a, .bool b => some (a == b)
 | .int a, .int b => some (decide (a = b))
 | .str a, .str b => some (decide (a = b))
 | _, _ => none
theorem veq0.ind {a b : V} {r : Bool} (h : veq0 a b = some r) {P : V → V → Bool → Prop} (c1 : P .none .none true) (c2 : ∀ y, P .none (.str y) false) (c3 : ∀ x, P (.str x) .none false)
  (c4 : ∀ x y, P (.bool x) (.bool y) (x == y)) (c5 : ∀ x y, P (.int x) (.int y) (decide (x = y))) (c6 : ∀ x y, P (.str x) (.str y) (decide (x = y))) : P a b r := by
 have w : ∀ {X : Prop}, (Option.none : Option Bool) = some r → X := fun e => by cases e
 have z : ∀ {c : Bool}, some c = some r → P a b c → P a b r := fun e => Option.some.inj e ▸ id
 cases a <;> first | exact w h | skip
 all_goals (cases b <;> first | exact w h | exact z h c1 | exact z h (c2 _) | exact z h (c3 _) | exact z h (c4 _ _) | exact z h (c5 _ _) | exact z h (c6 _ _))
noncomputable def opEq0 : O2 := fun a b σ Q => atK (veq0 a b) fun r => Q (.bool r) σ
noncomputable def opNe0 : O2 := fun a b σ Q => atK (veq0 a b) fun r => Q (.bool (!r)) σ
theorem ok_eq0 : Op2 C k (compareOp .Eq) opEq0 := by
 intro A s σ a b wa wb Q P E ao R va vb q₀ hP
 obtain ⟨r, hr, q⟩ := q₀.elim
 clear q₀
 revert va vb q
 refine veq0.ind hr (P := fun a b r => VRel C.aS s.heap a wa → VRel C.aS s.heap b wb → Q (.bool r) σ → wpAny (model C.prog C.w) A (compareOp .Eq wa wb) P E s) ?_ ?_ ?_ ?_ ?_ ?_ <;> intros <;> rename_i va vb q <;> cases va <;> cases vb
 ·exact PySem.EqNone.eq_none_none (hP _ _ σ _ (.bool _) R Step.refl q)
 ·exact PySem.EqNone.eq_none_str (hP _ _ σ _ (.bool _) R Step.refl q)
 ·exact PySem.EqNone.eq_str_none (hP _ _ σ _ (.bool _) R Step.refl q)
 ·exact PyProof.Rows.eq_bool (hP _ _ σ _ (.bool _) R Step.refl q)
 ·exact _root_.PySem.P.eq_int (by rw [beq_dec]; exact hP _ _ σ _ (.bool _) R Step.refl q)
 ·exact PyProof.Rows.eq_str (hP _ _ σ _ (.bool _) R Step.refl (by rw [beq_dec]; exact q))
theorem ok_ne0 : Op2 C k (compareOp .NotEq) opNe0 := by
 intro A s σ a b wa wb Q P E ao R va vb q₀ hP
 obtain ⟨r, hr, q⟩ := q₀.elim
 clear q₀
 revert va vb q
 refine veq0.ind hr (P := fun a b r => VRel C.aS s.heap a wa → VRel C.aS s.heap b wb → Q (.bool !r) σ → wpAny (model C.prog C.w) A (compareOp .NotEq wa wb) P E s) ?_ ?_ ?_ ?_ ?_ ?_ <;> intros <;> rename_i va vb q <;> cases va <;> cases vb
 ·exact PySem.EqNone.ne_none_none (hP _ _ σ _ (.bool _) R Step.refl q)
 ·exact PySem.EqNone.ne_none_str (hP _ _ σ _ (.bool _) R Step.refl q)
 ·exact PySem.EqNone.ne_str_none (hP _ _ σ _ (.bool _) R Step.refl q)
 ·exact PyProof.Rows.ne_bool (hP _ _ σ _ (.bool _) R Step.refl q)
 ·exact _root_.PySem.P.ne_int (hP _ _ σ _ (.bool _) R Step.refl (by rw [bne, beq_dec]; exact q))
 ·exact PyProof.Rows.ne_str (hP _ _ σ _ (.bool _) R Step.refl (by rw [bne, beq_dec]; exact q))
noncomputable def opInS : O2
 | .str y, .str x, σ, Q => Q (.bool (Txt.contains x y)) σ
 | _, _, _, _ => False
noncomputable def opNotInS : O2
 | .str y, .str x, σ, Q => Q (.bool (!Txt.contains x y)) σ
 | _, _, _, _ => False
end
end Mine
end
noncomputable section
namespace Mine
open PySem
theorem ofString_inj {a b : String} (h : Str.ofString a = Str.ofString b) : a = b := by
 rw [Str.ofString_eq_toList, Str.ofString_eq_toList] at h
 have h1 : (a.toList.map Char.toNat) = (b.toList.map Char.toNat) := by
  have := congrArg (fun x : Str => x.cps.toList) h
  simpa using this
 have h2 : a.toList = b.toList := by
  refine (List.map_inj_right ?_).mp h1
  intro x y e
  exact Char.toNat_inj.mp e
 exact String.toList_inj.mp h2
inductive Fl where
 | next | brk | cont
 | ret (v : V)
abbrev ST := Loc → View → (Fl → Loc → View → Prop) → Prop
inductive FlRel (aS : Addr) (h : Heap) : Fl → Flow → Prop
 | next : FlRel aS h .next .next
 | brk : FlRel aS h .brk .brk
 | cont : FlRel aS h .cont .cont
 | ret {v : V} {w : Value} : VRel aS h v w → FlRel aS h (.ret v) (.ret w)
abbrev AftS (C : Cx) (env : Env) (σ : View) (s : Shared) (Q : Fl → Loc → View → Prop) (P : Flow → Shared → Prop) : Prop :=
 ∀ f g m' σ' s', FlRel C.aS s'.heap f g → RelG C σ' s' → FrameRel C env m' σ' s'.heap → Step (Own env) σ σ' s.heap s'.heap → Q f m' σ' → P g s'
structure HS (C : Cx) (sc : Scope) (k : Nat) (b : List Stmt) (T : ST) : Prop where
 run : ∀ (env : Env) (A : Around) (s : Shared) (m : Loc) (σ : View) (Q : Fl → Loc → View → Prop) (P : Flow → Shared → Prop) (E : Value → Shared → Prop),
  EnvOk env sc → AOk C A k → RelG C σ s → FrameRel C env m σ s.heap → T m σ Q → AftS C env σ s Q P → wpAny (model C.prog C.w) A (execs b env) P E s
structure HS1 (C : Cx) (sc : Scope) (k : Nat) (b : Stmt) (T : ST) : Prop where
 run : ∀ (env : Env) (A : Around) (s : Shared) (m : Loc) (σ : View) (Q : Fl → Loc → View → Prop) (P : Flow → Shared → Prop) (E : Value → Shared → Prop),
  EnvOk env sc → AOk C A k → RelG C σ s → FrameRel C env m σ s.heap → T m σ Q → AftS C env σ s Q P → wpAny (model C.prog C.w) A (exec b env) P E s
section
variable {C : Cx} {sc : Scope} {k : Nat}
theorem FrameRel.ownT {env : Env} {m : Loc} {σ : View} {h : Heap} (F : FrameRel C env m σ h) : ∀ b o, Own env b → h.get? b = some o → ¬ IsT o := by
 rintro b o (rfl | ⟨n, hn⟩) ho ⟨_, it, n', hd⟩
 ·obtain ⟨mm, ⟨o', es, ep, ho', hd', _⟩, _⟩ := F.ns
  rw [ho] at ho'; cases ho'; rw [hd] at hd'; cases hd'
 ·obtain ⟨v, o', ho', hd'⟩ := F.cells n b hn
  rw [ho] at ho'; cases ho'; rw [hd] at hd'; cases hd'
theorem Step.tupsO {env : Env} {m : Loc} {σ σ' : View} {s : Shared} {h' : Heap} (F : FrameRel C env m σ s.heap) (R : RelG C σ s) (S : Step (Own env) σ σ' s.heap h') : TupKeep s.heap h' := S.tups R F.ownT
theorem Step.own {env : Env} {σ σ' : View} {h h' : Heap} (S : Step no σ σ' h h') : Step (Own env) σ σ' h h' := S.mono fun _ _ _ z => z.elim
noncomputable def sNil : ST := fun m σ Q => Q .next m σ
noncomputable def sSeq (T U : ST) : ST := fun m σ Q => T m σ fun f m₁ σ₁ => match f with
 | .next => U m₁ σ₁ Q
 | f => Q f m₁ σ₁
theorem HS.nil : HS C sc k [] sNil := ⟨fun _ _ s m σ _ _ _ _ _ R F q hP => wpAny_execs_nil (hP .next .next m σ s .next R F Step.refl q)⟩
theorem HS.cons {st : Stmt} {b : List Stmt} {T U : ST} (h1 : HS1 C sc k st T) (h2 : HS C sc k b U) : HS C sc k (st :: b) (sSeq T U) := by
 refine ⟨?_⟩; intro env A s m σ Q P E en ao R F q hP
 refine wpAny_execs_cons (h1.run env A s m σ _ _ E en ao R F q fun f g m₁ σ₁ s₁ hf R₁ F₁ S₁ q₁ => ?_)
 cases hf with
 | next => exact h2.run env A s₁ m₁ σ₁ Q P E en ao R₁ F₁ q₁ fun f g m₂ σ₂ s₂ hf R₂ F₂ S₂ q₂ => hP f g m₂ σ₂ s₂ hf R₂ F₂ (S₁.trans S₂) q₂
 | brk => exact hP _ _ m₁ σ₁ s₁ .brk R₁ F₁ S₁ q₁
 | cont => exact hP _ _ m₁ σ₁ s₁ .cont R₁ F₁ S₁ q₁
 | ret hv => exact hP _ _ m₁ σ₁ s₁ (.ret hv) R₁ F₁ S₁ q₁
theorem store_local {env : Env} {A : Around} {s : Shared} {m : Loc} {σ : View} {x : String} {v : V} {w : Value} {P : Unit → Shared → Prop} {E : Value → Shared → Prop} (en : EnvOk env sc) (R : RelG C σ s) (F : FrameRel C env m σ s.heap)
  (hl : sc.names.lookup (Str.ofString x) = some .local) (hv : VRel C.aS s.heap v w)
  (h : ∀ s', RelG C σ s' → FrameRel C env (put m x v) σ s'.heap → Step (fun b => b = env.locals) σ σ s.heap s'.heap → P () s') : wpAny (model C.prog C.w) A (storeName env (Str.ofString x) w) P E s := by
 obtain ⟨mm, hn, hm⟩ := F.ns
 have kl := en.of hl
 refine wpAny_storeName_local kl hn (fun h' hn' hs' => ?_) (by rw [en.k]; rfl)
 obtain ⟨oL, esL, epL, hoL, hdL, _⟩ := id hn
 have kt : TupKeep s.heap h' := fun b o e ht => (hs'.2 b (by rintro rfl; rw [hoL] at e; cases e; obtain ⟨_, _, _, hd⟩ := ht; rw [hdL] at hd; cases hd)).trans e
 have kc : ∀ c v, s.heap.IsCell c v → h'.IsCell c v := fun c v ⟨o, ho, hd⟩ => ⟨o, (hs'.2 c (by rintro rfl; rw [hoL] at ho; cases ho; rw [hdL] at hd; cases hd)).trans ho, hd⟩
 refine h _ ?_ ?_ ?_
 ·refine ⟨let ⟨_, _, d, e⟩ := R.rest; ⟨h', s.toks + 1, d, by rw [e]⟩, fun b o e => ?_, fun a o e => ?_, R.apart⟩
  ·exact (hs'.2 b (by rintro rfl; rw [F.baseL] at e; cases e)).trans (R.base b o e)
  ·exact (R.view a o e).keep kt fun o' e' => (hs'.2 a (by rintro rfl; rw [F.sepL] at e; cases e)).trans e'
 ·refine ⟨⟨_, hn', fun y u e ky => ?_⟩, fun y u e => ?_, fun n c e => ?_, F.sepL, F.baseL, F.baseC, F.dist, F.has⟩
  ·by_cases hy : y = x
   ·subst hy; rw [put_same] at e; cases e; exact ⟨w, by simp, hv.keep kt⟩
   ·rw [put_ne hy] at e
    obtain ⟨w', h1, h2⟩ := hm y u e ky
    exact ⟨w', by simp [show ¬ Str.ofString y = Str.ofString x from fun z => hy (ofString_inj z), h1], h2.keep kt⟩
  ·by_cases hy : y = x
   ·subst hy; exact .inl kl
   ·rw [put_ne hy] at e
    rcases F.cel y u e with z | ⟨z, c, w', h1, h2, h3⟩
    ·exact .inl z
    ·exact .inr ⟨z, c, w', h1, kc _ _ h2, h3.keep kt⟩
  ·obtain ⟨v, hv⟩ := F.cells n c e; exact ⟨v, kc _ _ hv⟩
 ·exact .of (fun b o e n q => (hs'.2 b q).trans e) (Nat.le_of_eq hs'.1.symm) fun _ a b => absurd a b
theorem store_cell {env : Env} {A : Around} {s : Shared} {m : Loc} {σ : View} {x : String} {v : V} {w : Value} {P : Unit → Shared → Prop} {E : Value → Shared → Prop} (en : EnvOk env sc) (R : RelG C σ s) (F : FrameRel C env m σ s.heap)
  (hl : sc.names.lookup (Str.ofString x) = some .cell) (hv : VRel C.aS s.heap v w)
  (h : ∀ s', RelG C σ s' → FrameRel C env (put m x v) σ s'.heap → Step (Own env) σ σ s.heap s'.heap → P () s') : wpAny (model C.prog C.w) A (storeName env (Str.ofString x) w) P E s := by
 have kl := en.of hl
 obtain ⟨c₀, hc₀⟩ := F.has _ (.inl kl)
 obtain ⟨v₀, hv₀⟩ := F.cells _ _ hc₀
 refine wpAny_storeName_cell en.k kl hc₀ hv₀ fun h' hc' hs' => ?_
 obtain ⟨oc, hoc, hdc⟩ := id hv₀
 have kt : TupKeep s.heap h' := fun b o e ht => (hs'.2 b (by rintro rfl; rw [hoc] at e; cases e; obtain ⟨_, _, _, hd⟩ := ht; rw [hdc] at hd; cases hd)).trans e
 have kc : ∀ c v, c ≠ c₀ → s.heap.IsCell c v → h'.IsCell c v := fun c v hne ⟨o, ho, hd⟩ => ⟨o, (hs'.2 c hne).trans ho, hd⟩
 obtain ⟨mm, hn, hm⟩ := F.ns
 have hL : env.locals ≠ c₀ := by
  rintro e
  obtain ⟨oL, _, _, hoL, hdL, _⟩ := hn
  rw [e, hoc] at hoL; cases hoL; rw [hdc] at hdL; cases hdL
 have hσ : σ c₀ = Option.none := by
  cases z : σ c₀ with
  | none => rfl
  | some o' => obtain ⟨ob, h1, _, h3⟩ := (R.view c₀ o' z).shape; rw [hoc] at h1; cases h1; exact absurd hdc (h3 _)
 refine h _ ?_ ?_ ?_
 ·refine ⟨let ⟨_, _, d, e⟩ := R.rest; ⟨h', s.toks, d, by rw [e]⟩, fun b o e => ?_, fun a o e => ?_, R.apart⟩
  ·exact (hs'.2 b (by rintro rfl; rw [F.baseC _ _ hc₀] at e; cases e)).trans (R.base b o e)
  ·exact (R.view a o e).keep kt fun o' e' => (hs'.2 a (by rintro rfl; rw [hσ] at e; cases e)).trans e'
 ·refine ⟨⟨mm, hn.sameBut hs' hL, fun y u e ky => ?_⟩, fun y u e => ?_, fun n c e => ?_, F.sepL, F.baseL, F.baseC, F.dist, F.has⟩
  ·have hy : y ≠ x := by rintro rfl; rw [kl] at ky; cases ky
   rw [put_ne hy] at e
   obtain ⟨w', h1, h2⟩ := hm y u e ky
   exact ⟨w', h1, h2.keep kt⟩
  ·by_cases hy : y = x
   ·subst hy; rw [put_same] at e; cases e; exact .inr ⟨.inl kl, c₀, w, hc₀, hc', hv.keep kt⟩
   ·rw [put_ne hy] at e
    rcases F.cel y u e with z | ⟨z, c, w', h1, h2, h3⟩
    ·exact .inl z
    ·exact .inr ⟨z, c, w', h1, kc _ _ (by rintro rfl; exact hy (ofString_inj (name_of_addr F.dist (mem_of_lookup h1) (mem_of_lookup hc₀)))) h2, h3.keep kt⟩
  ·by_cases hc : c = c₀
   ·subst hc; exact ⟨_, hc'⟩
   ·obtain ⟨v, hv⟩ := F.cells n c e; exact ⟨v, kc _ _ hc hv⟩
 ·exact .of (fun b o e n q => (hs'.2 b fun z => q (.inr ⟨_, z ▸ hc₀⟩)).trans e) (Nat.le_of_eq hs'.1.symm) fun _ a b => absurd a b
noncomputable def Var (sc : Scope) (x : String) : Prop := sc.names.lookup (Str.ofString x) = some .local ∨ sc.names.lookup (Str.ofString x) = some .cell
theorem store {env : Env} {A : Around} {s : Shared} {m : Loc} {σ : View} {x : String} {v : V} {w : Value} {P : Unit → Shared → Prop} {E : Value → Shared → Prop} (en : EnvOk env sc) (R : RelG C σ s) (F : FrameRel C env m σ s.heap)
  (hl : Var sc x) (hv : VRel C.aS s.heap v w)
  (h : ∀ s', RelG C σ s' → FrameRel C env (put m x v) σ s'.heap → Step (Own env) σ σ s.heap s'.heap → P () s') : wpAny (model C.prog C.w) A (storeName env (Str.ofString x) w) P E s :=
 hl.elim (fun z => store_local en R F z hv fun s' R' F' S' => h s' R' F' (S'.mono fun _ _ _ q => .inl q)) fun z => store_cell en R F z hv h
noncomputable def sSet (x : String) (T : ET) : ST := fun m σ Q => T m σ fun v σ' => Q .next (put m x v) σ'
theorem HS1.set {x : String} {p pos : Pos} {value : Expr} {T : ET} (hx : Var sc x) (he : HE C sc k value T) (hs : ∀ env, EnvOk env sc → swapsWith value (some (.Name (Str.ofString x) p)) pos.line env = pure false) : HS1 C sc k (.Assign [.Name (Str.ofString x) p] value pos) (sSet x T) := by
 refine ⟨?_⟩; intro env A s m σ Q P E en ao R F q hP
 refine wpAny_Assign_Name (he.run env A s m σ _ _ E en ao R F q fun v w σ₁ s₁ hv R₁ S₁ q₁ => ?_) (hs env en)
 exact store en R₁ (F.step R S₁) hx hv fun s₂ R₂ F₂ S₂ => hP .next .next _ σ₁ s₂ .next R₂ F₂ ((S₁.own).trans S₂) q₁
noncomputable def sExpr (T : ET) : ST := fun m σ Q => T m σ fun _ σ' => Q .next m σ'
theorem HS1.expr {pos : Pos} {value : Expr} {T : ET} (he : HE C sc k value T) (hs : ∀ env, EnvOk env sc → swapsWith value Option.none pos.line env = pure false) : HS1 C sc k (.Expr value pos) (sExpr T) := by
 refine ⟨?_⟩; intro env A s m σ Q P E en ao R F q hP
 have hi : interactive env = false := by unfold interactive; rw [en.k]; rfl
 rw [exec_Expr env value pos hi (hs env en)]
 refine wpAny_bind (wpAny_standAt (wpAny_bind (he.run env A s m σ _ _ E en ao R F q fun v w σ₁ s₁ hv R₁ S₁ q₁ => ?_)))
 exact wpAny_dropValue (hP .next .next m σ₁ s₁ .next R₁ (F.step R S₁) S₁.own q₁)
noncomputable def sIf (B : BT) (T U : ST) : ST := fun m σ Q => B m σ fun b σ' => if b then T m σ' Q else U m σ' Q
theorem HS1.ite {pos : Pos} {test : Expr} {a b : List Stmt} {B : BT} {T U : ST} (hb : HB C sc k test B) (h1 : HS C sc k a T) (h2 : HS C sc k b U) : HS1 C sc k (.If test a b pos) (sIf B T U) := by
 refine ⟨?_⟩; intro env A s m σ Q P E en ao R F q hP
 refine wpAny_If (hb.run env A s m σ _ _ E en ao R F q fun b σ₁ s₁ R₁ S₁ q₁ => ?_)
 cases b with
 | true => simp only [if_true] at q₁ ⊢; exact h1.run env A s₁ m σ₁ Q P E en ao R₁ (F.step R S₁) q₁ fun f g m₂ σ₂ s₂ hf R₂ F₂ S₂ q₂ => hP f g m₂ σ₂ s₂ hf R₂ F₂ (S₁.own.trans S₂) q₂
 | false => simp only [Bool.false_eq_true, if_false] at q₁ ⊢; exact h2.run env A s₁ m σ₁ Q P E en ao R₁ (F.step R S₁) q₁ fun f g m₂ σ₂ s₂ hf R₂ F₂ S₂ q₂ => hP f g m₂ σ₂ s₂ hf R₂ F₂ (S₁.own.trans S₂) q₂
noncomputable def sRet (T : ET) : ST := fun m σ Q => T m σ fun v σ' => Q (.ret v) m σ'
theorem HS1.ret {pos : Pos} {value : Expr} {T : ET} (he : HE C sc k value T) : HS1 C sc k (.Return (some value) pos) (sRet T) := by
 refine ⟨?_⟩; intro env A s m σ Q P E en ao R F q hP
 exact wpAny_Return_some (he.run env A s m σ _ _ E en ao R F q fun v w σ₁ s₁ hv R₁ S₁ q₁ => hP (.ret v) (.ret w) m σ₁ s₁ (.ret hv) R₁ (F.step R S₁) S₁.own q₁)
end
end Mine
end
noncomputable section
namespace Mine
open PySem
abbrev Spec := List V → View → (V → View → Prop) → Prop
noncomputable def FnSound (C : Cx) (j : Nat) (f : Addr) (spec : Spec) : Prop :=
 ∀ (A : Around) (s : Shared) (σ : View) (vs : List V) (ws : List Value) (Q : V → View → Prop) (P : Value → Shared → Prop) (E : Value → Shared → Prop),
  AOk C A (j + 1) → RelG C σ s → VRels C.aS s.heap vs ws → spec vs σ Q → Aft C σ s Q P → codeAny (model C.prog C.w) A (.call (.ref f) ⟨ws, []⟩) (fun r s' => match r with | .ok (.ret v) => P v s' | .ok _ => False | .error e => E e s') s
noncomputable def none' : Loc := fun _ => Option.none
noncomputable def bindM : List String → List V → Loc → Loc
 | x :: xs, v :: vs, m => bindM xs vs (put m x v)
 | _, _, m => m
theorem cellsFrom_has {x : Str} : ∀ (names : List (Str × NameKind)) (n : Nat) (acc : List (Str × Addr)), (names.lookup x = some .cell ∨ ∃ c, acc.lookup x = some c) → ∃ c, (cellsFrom n names acc).lookup x = some c
 | [], _, _, h => h.elim (fun e => by cases e) id
 | (y, q) :: r, n, acc, h => by
  unfold cellsFrom
  by_cases hq : q = .cell
  ·rw [if_pos (by simp [hq])]
   refine cellsFrom_has r _ _ ?_
   by_cases hy : x = y
   ·exact .inr ⟨n, by simp [hy]⟩
   ·have hb : (x == y) = false := by simp [hy]
    refine h.imp (fun e => ?_) fun ⟨c, e⟩ => ⟨c, ?_⟩
    ·rw [List.lookup_cons, hb] at e; exact e
    ·rw [List.lookup_cons, hb]; exact e
  ·rw [if_neg (by simpa using hq)]
   refine cellsFrom_has r _ _ ?_
   by_cases hy : x = y
   ·refine .inr (h.elim (fun e => ?_) id)
    rw [List.lookup_cons, show (x == y) = true by simp [hy]] at e
    exact absurd (Option.some.inj e) hq
   ·have hb : (x == y) = false := by simp [hy]
    refine h.imp (fun e => ?_) id
    rw [List.lookup_cons, hb] at e; exact e
section
variable {C : Cx}
theorem bound_vars {h : Heap} (kindOf : Str → Option NameKind) : ∀ (xs : List String) (vs : List V) (ws : List Value) (m : Loc) (mL mC : Str → Option Value),
  (∀ x ∈ xs, kindOf (Str.ofString x) = some .local ∨ kindOf (Str.ofString x) = some .cell) → VRels C.aS h vs ws →
  (∀ x v, m x = some v → (kindOf (Str.ofString x) = some .local ∧ ∃ w, mL (Str.ofString x) = some w ∧ VRel C.aS h v w) ∨ (kindOf (Str.ofString x) = some .cell ∧ ∃ w, mC (Str.ofString x) = some w ∧ VRel C.aS h v w)) →
  ∀ x v, bindM xs vs m x = some v → (kindOf (Str.ofString x) = some .local ∧ ∃ w, bindL kindOf ((xs.map Str.ofString).zip ws) mL (Str.ofString x) = some w ∧ VRel C.aS h v w) ∨
   (kindOf (Str.ofString x) = some .cell ∧ ∃ w, bindC kindOf ((xs.map Str.ofString).zip ws) mC (Str.ofString x) = some w ∧ VRel C.aS h v w)
 | [], _, _, _, _, _, _, _, hm => by simpa [bindM, bindL, bindC] using hm
 | x :: xs, [], _, _, _, _, _, .nil, hm => by simpa [bindM, bindL, bindC] using hm
 | x :: xs, v :: vs, w :: ws, m, mL, mC, hk, .cons hv hvs, hm => by
  simp only [bindM, List.map_cons, List.zip_cons_cons, bindL, bindC]
  refine bound_vars kindOf xs vs ws _ _ _ (fun y hy => hk y (.tail _ hy)) hvs fun y u e => ?_
  by_cases hy : y = x
  ·subst hy
   rw [put_same] at e; cases e
   rcases hk y (.head _) with z | z
   ·exact .inl ⟨z, w, by simp [z], hv⟩
   ·exact .inr ⟨z, w, by simp [z], hv⟩
  ·rw [put_ne hy] at e
   have hne : ¬ Str.ofString y = Str.ofString x := fun z => hy (ofString_inj z)
   rcases hm y u e with ⟨z, w', h1, h2⟩ | ⟨z, w', h1, h2⟩
   ·refine .inl ⟨z, w', ?_, h2⟩
    split <;> simp [hne, h1]
   ·refine .inr ⟨z, w', ?_, h2⟩
    split <;> simp [hne, h1]
theorem FnSound.mk (O : C.Ok) {f : Addr} {o : Obj} {fd : FuncData} {body : List Stmt} {xs : List String} {sc : Scope} {j : Nat} {spec : Spec} {T : ST}
  (ho : C.hB.get? f = some o) (hd : o.data = .func fd) (hcd : C.hB.CodeRec fd.code fd.qualname) (hb : fd.body = .stmts body) (hsc : fd.scope = sc) (hcl : fd.closure = []) (hg : fd.globals = mainGlobals) (hbi : fd.builtins = builtinsNs)
  (hk : sc.kind = .function) (hfr : ∀ p ∈ sc.names, p.2 ≠ .free) (hco : sc.isCoroutine = false) (hgen : sc.isGenerator = false)
  (hbind : ∀ ws : List Value, ws.length = xs.length → bindArgs fd ⟨ws, []⟩ = pure ((xs.map Str.ofString).zip ws))
  (hloc : ∀ x ∈ xs, sc.names.lookup (Str.ofString x) = some .local ∨ sc.names.lookup (Str.ofString x) = some .cell)
  (hT : HS C sc j body T)
  (hspec : ∀ vs σ Q, spec vs σ Q → vs.length = xs.length ∧ T (bindM xs vs none') σ fun f _ σ' => match f with | .ret v => Q v σ' | .next => Q .none σ' | _ => False) : FnSound C j f spec := by
 intro A s σ vs ws Q P E ao R hvs hs hP
 subst hsc
 obtain ⟨hlen, q⟩ := hspec vs σ Q hs
 have hlw : ws.length = xs.length := by rw [← hvs.length]; exact hlen
 refine (codeAny_call_cells (fd := fd) (body := body) (binds := (xs.map Str.ofString).zip ws) (Nat.lt_of_le_of_lt (Nat.le_trans (Nat.le_add_right _ _) (Nat.le_add_right _ _)) ao.depth) (R.base _ _ ho) hd (O.nolimit.keeps R.base) (hcd.keeps R.base) hb (hbind ws hlw) hcl ?_ ?_ hco hgen hk)
 ·intro x hx
  have : x.1 ∈ xs.map Str.ofString := (List.of_mem_zip (a := x.1) (b := x.2) hx).1
  obtain ⟨y, hy, e⟩ := List.mem_map.mp this
  rw [← e]
  refine (hloc y hy).imp id fun z => ⟨z, ?_⟩
  obtain ⟨c, hc⟩ := cellsFrom_has (x := Str.ofString y) fd.scope.names (s.heap.objs.size + 1) [] (.inl z)
  rw [hc]; rfl
 ·intro s₁ x
  generalize henv : callEnvC fd s.heap.objs.size f = env at x ⊢
  have eS : env.scope = fd.scope := by rw [← henv]; rfl
  have eL : env.locals = s.heap.objs.size := by rw [← henv]; rfl
  have eC : env.cells = cellsFrom (s.heap.objs.size + 1) fd.scope.names [] := by rw [← henv]; rfl
  have en : EnvOk env fd.scope := ⟨eS, hk, by rw [← henv]; exact hg, by rw [← henv]; exact hbi⟩
  obtain ⟨h₁, tk₁, e₁⟩ := x.toInCall.same
  have keep := x.toInCall.keep
  have R₁ : RelG C σ s₁ := by
   rw [e₁]
   exact R.grow (fun b o e => by have := keep b o e; rw [e₁] at this; exact this)
  have hz : s.heap.objs.size ≤ s₁.heap.objs.size := Nat.le_of_lt (by have := x.toInCall.ns.lt; rw [eL] at this; exact this)
  have kt : TupKeep s.heap s₁.heap := fun b o e _ => keep b o e
  have vars := bound_vars (C := C) (h := s₁.heap) env.kindOf xs vs ws none' (fun _ => Option.none) (fun _ => Option.none)
   (fun y hy => by unfold Env.kindOf; rw [eS]; exact hloc y hy) (hvs.keep kt) (fun _ _ e => by cases e)
  have lookupC : ∀ n, env.kindOf n = some .cell → ∃ c, env.cells.lookup n = some c := fun n hn => by
   rw [eC]; exact cellsFrom_has _ _ _ (.inl (by unfold Env.kindOf at hn; rw [eS] at hn; exact hn))
  have lookupF : ∀ n, env.kindOf n = some .cell ∨ env.kindOf n = some .free → ∃ c, env.cells.lookup n = some c := fun n hn => hn.elim (lookupC n) fun z => by
   unfold Env.kindOf at z; rw [eS] at z; exact absurd rfl (hfr _ (mem_of_lookup z))
  have fresh : ∀ c, s.heap.objs.size ≤ c → C.hB.get? c = Option.none := fun c hc => R.baseNone (get_none_of_size hc)
  have F₁ : FrameRel C env (bindM xs vs none') σ s₁.heap := by
   refine ⟨⟨_, x.toInCall.ns, fun y v e ky => ?_⟩, fun y v e => ?_, fun n c hc => ?_, R.freshNone (get_none_of_size (Nat.le_of_eq eL.symm)), fresh _ (Nat.le_of_eq eL.symm), fun n c hc => ?_, x.apart, lookupF⟩
   ·rcases vars y v e with ⟨_, w, h1, h2⟩ | ⟨z, _⟩
    ·exact ⟨w, h1, h2⟩
    ·rw [z] at ky; cases ky
   ·rcases vars y v e with ⟨z, _⟩ | ⟨z, w, h1, h2⟩
    ·exact .inl z
    ·obtain ⟨c, hc⟩ := lookupC _ z
     exact .inr ⟨.inl z, c, w, hc, h1 ▸ x.cell _ c hc, h2⟩
   ·exact ⟨_, x.cell n c hc⟩
   ·exact fresh c (Nat.le_of_lt (by have := x.above n c (mem_of_lookup hc); rw [eL] at this; exact this))
  refine hT.run env _ s₁ _ σ _ _ _ en ⟨by show A.handled = _; exact ao.handled, by show A.depth + 1 + 3 * j + 3 < _; exact up1 ao.depth (by decide), by show A.units + 3 + 10 * j + 20 < _; exact up1 ao.units (by decide)⟩ R₁ F₁ q fun fl g m' σ' s' hf R' F' S' q' => ?_
  have S₀ : Step no σ σ' s.heap s'.heap :=
   ⟨fun b o e n _ => S'.keepL b o (keep b o e) n (fun z => by
     have hlt := Heap.lt_size e
     rcases z with z | ⟨n', z⟩
     ·rw [z, eL] at hlt; exact Nat.lt_irrefl _ hlt
     ·have := x.above n' b (mem_of_lookup z); rw [eL] at this; exact Nat.lt_irrefl _ (Nat.lt_trans hlt this)),
    Nat.le_trans hz S'.size, fun b n m => Nat.le_trans hz (S'.new b n m)⟩
  cases hf with
  | next => exact hP .none .none σ' s' .none R' S₀ q'
  | ret hv => exact hP _ _ σ' s' hv R' S₀ q'
  | brk => exact q'.elim
  | cont => exact q'.elim
end
end Mine
end
noncomputable section
namespace Mine
open PySem
section
variable {C : Cx} {sc : Scope} {k : Nat}
noncomputable def plainArgs (es : List Expr) : Bool := es.all notStar
theorem starEach_any {es : List Expr} {env : Env} {pos : Pos} (h : plainArgs es = true) : (backTo pos (starEach es env)).any (·.1) = false := by
 induction es with
 | nil => rfl
 | cons e r ih =>
  simp only [plainArgs, List.all_cons, Bool.and_eq_true] at h
  rw [starEach_plain h.1]
  show ((false, _) :: backTo pos (starEach r env)).any (·.1) = false
  rw [List.any_cons, ih h.2]; rfl
theorem evalArgs_of {f : Value} {es : List Expr} {env : Env} {pos : Pos} {M : Model} {A : Around} {s : Shared} {Q : Args → Shared → Prop} {E : Value → Shared → Prop} (h : plainArgs es = true)
  (hs : wpAny M A (spliced (backTo pos (starEach es env))) (fun vs s' => Q ⟨vs, []⟩ s') E s) : wpAny M A (evalArgs f true (backTo pos (starEach es env)) []) Q E s := by
 cases es with
 | nil =>
  unfold evalArgs
  show wpAny M A (spliced [] >>= _) Q E s
  refine wpAny_bind (wpAny_mono hs (fun vs s' h' => ?_) fun _ _ x => x)
  refine wpAny_holding ?_
  exact wpAny_bind (wpAny_pure (wpAny_bind (wpAny_pure (wpAny_pure h'))))
 | cons e r =>
  simp only [plainArgs, List.all_cons, Bool.and_eq_true] at h
  rw [starEach_plain h.1] at hs ⊢
  exact Calls.evalArgs_plain hs
noncomputable def eCall (spec : Spec) (L : LT) : ET := fun m σ Q => L m σ fun vs σ' => spec vs σ' Q
theorem HE.call (O : C.Ok) {f : String} {a : Addr} {o : Obj} {fd : FuncData} {np pos : Pos} {es : List Expr} {L : LT} {spec : Spec} {j : Nat} (hf : FnSound C j a spec) (hj : j < k)
  (hn : sc.names.lookup (Str.ofString f) = some .globalImplicit) (hg : C.mg (Str.ofString f) = some (.ref a)) (ho : C.hB.get? a = some o) (hd : o.data = .func fd) (hdb : (Str.ofString f == ("__debug__" : Str)) = false)
  (hl : HL C sc k es L) (hp : plainArgs es = true) : HE C sc k (.Call (.Name (Str.ofString f) np) es [] pos) (eCall spec L) := by
 refine ⟨?_⟩; intro env A s m σ Q P E en ao R F q hP
 refine wpAny_Call_NameR (Calls.Name_function_global en.k (en.of hn) (Calls.loadGlobal_global (mg := C.mg) (by rw [en.globals]; exact O.g.keeps R.base) hg ?_) hdb)
 refine Calls.callWith_function (o := o) (fd := fd) (evalArgs_of hp (hl.run env A s m σ pos _ _ E en ao R F q fun vs ws σ₁ s₁ hv R₁ S₁ q₁ => ⟨⟨R₁.base _ _ ho, hd⟩, ?_⟩))
 exact wpAny_call (hf A s₁ σ₁ vs ws Q P E (ao.le hj) R₁ hv q₁ fun v w σ' s' hv' R' S' q' => hP v w σ' s' hv' R' (S₁.trans S') q')
noncomputable def OpN (C : Cx) (k : Nat) (t : List Value → Sem Value) (op : Spec) : Prop :=
 ∀ (A : Around) (s : Shared) (σ : View) (vs : List V) (ws : List Value) (Q : V → View → Prop) (P E : Value → Shared → Prop), AOk C A k → RelG C σ s → VRels C.aS s.heap vs ws → op vs σ Q → Aft C σ s Q P →
  wpAny (model C.prog C.w) A (t ws) P E s
theorem HE.builtin (O : C.Ok) {f : String} {id : String} {np pos : Pos} {es : List Expr} {L : LT} {op : Spec} (hop : OpN C k (fun ws => PySem.call (.builtin id) ws) op)
  (hn : sc.names.lookup (Str.ofString f) = some .globalImplicit) (hg : C.mg (Str.ofString f) = Option.none) (hb : C.mb (Str.ofString f) = some (.builtin id)) (hdb : (Str.ofString f == ("__debug__" : Str)) = false)
  (hl : HL C sc k es L) (hp : plainArgs es = true) : HE C sc k (.Call (.Name (Str.ofString f) np) es [] pos) (eCall op L) := by
 refine ⟨?_⟩; intro env A s m σ Q P E en ao R F q hP
 refine wpAny_Call_NameR (Calls.Name_function_global en.k (en.of hn) (Calls.loadGlobal_builtin (mg := C.mg) (mb := C.mb) (by rw [en.globals]; exact O.g.keeps R.base) hg (by rw [en.builtins]; exact O.b.keeps R.base) hb ?_) hdb)
 refine Calls.callWith_builtin (starEach_any hp) (evalArgs_of hp (hl.run env A s m σ pos _ _ E en ao R F q fun vs ws σ₁ s₁ hv R₁ S₁ q₁ => ?_))
 exact hop A s₁ σ₁ vs ws Q P E ao R₁ hv q₁ fun v w σ' s' hv' R' S' q' => hP v w σ' s' hv' R' (S₁.trans S') q'
theorem HE.btype (O : C.Ok) {f : String} {id : String} {np pos : Pos} {es : List Expr} {L : LT} {op : Spec} (hop : OpN C k (fun ws => PySem.call (.type id) ws) op)
  (hn : sc.names.lookup (Str.ofString f) = some .globalImplicit) (hg : C.mg (Str.ofString f) = Option.none) (hb : C.mb (Str.ofString f) = some (.type id)) (hdb : (Str.ofString f == ("__debug__" : Str)) = false)
  (hl : HL C sc k es L) (hp : plainArgs es = true) : HE C sc k (.Call (.Name (Str.ofString f) np) es [] pos) (eCall op L) := by
 refine ⟨?_⟩; intro env A s m σ Q P E en ao R F q hP
 refine wpAny_Call_NameR (Calls.Name_function_global en.k (en.of hn) (Calls.loadGlobal_builtin (mg := C.mg) (mb := C.mb) (by rw [en.globals]; exact O.g.keeps R.base) hg (by rw [en.builtins]; exact O.b.keeps R.base) hb ?_) hdb)
 refine callWith_type (starEach_any hp) (evalArgs_of hp (hl.run env A s m σ pos _ _ E en ao R F q fun vs ws σ₁ s₁ hv R₁ S₁ q₁ => ?_))
 exact hop A s₁ σ₁ vs ws Q P E ao R₁ hv q₁ fun v w σ' s' hv' R' S' q' => hP v w σ' s' hv' R' (S₁.trans S') q'
structure It (C : Cx) (k : Nat) (I : Addr) (items : List V) (inv : View → Prop) (St : Nat → Heap → Prop) : Prop where
 frame : ∀ i h h', St i h → (∀ o, h.get? I = some o → h'.get? I = some o) → TupKeep h h' → St i h'
 live : ∀ i h, St i h → ∃ o, h.get? I = some o ∧ ¬ IsT o ∧ ∀ v, o.data ≠ .cell v
 flds : ∀ i h, St i h → ∀ o, h.get? I = some o → ∀ es ep, o.data ≠ .dict es ep
 next : ∀ (A : Around) (σ : View) (s : Shared) (i : Nat) (v : V) (Q : Option Value → Shared → Prop) (E : Value → Shared → Prop), AOk C A k → RelG C σ s → inv σ → St i s.heap → items[i]? = some v →
  (∀ w h' tk, VRel C.aS h' v w → St (i + 1) h' → Heap.ExtBut I s.heap h' → Q (some w) { s with heap := h', toks := tk }) → wpAny (model C.prog C.w) A (pyNext (.ref I)) Q E s
 done : ∀ (A : Around) (σ : View) (s : Shared) (Q : Option Value → Shared → Prop) (E : Value → Shared → Prop), AOk C A k → RelG C σ s → inv σ → St items.length s.heap →
  (∀ h' tk, Heap.ExtBut I s.heap h' → Q Option.none { s with heap := h', toks := tk }) → wpAny (model C.prog C.w) A (pyNext (.ref I)) Q E s
 self : ∀ (A : Around) (s : Shared) (i : Nat) (Q : Value → Shared → Prop) (E : Value → Shared → Prop), St i s.heap → Q (.ref I) s → wpAny (model C.prog C.w) A (pyIter (.ref I)) Q E s
 own : ∀ (A : Around) (s : Shared) (i : Nat) (t : Expr) (w : Value) (Q : Unit → Shared → Prop) (E : Value → Shared → Prop), St i s.heap → Q () s → wpAny (model C.prog C.w) A (letOwnedTupleGo t (.ref I) w) Q E s
abbrev IT := Loc → View → (List V → (View → Prop) → View → Prop) → Prop
structure HI (C : Cx) (sc : Scope) (k : Nat) (e : Expr) (T : IT) : Prop where
 run : ∀ (env : Env) (A : Around) (s : Shared) (m : Loc) (σ : View) (Q : List V → (View → Prop) → View → Prop) (P : Value → Shared → Prop) (E : Value → Shared → Prop),
  EnvOk env sc → AOk C A k → RelG C σ s → FrameRel C env m σ s.heap → T m σ Q →
  (∀ items inv I St σ' s', It C k I items inv St → St 0 s'.heap → s.heap.objs.size ≤ I → σ' I = Option.none → RelG C σ' s' → Step no σ σ' s.heap s'.heap → Q items inv σ' → P (.ref I) s') →
  wpAny (model C.prog C.w) A (eval e env) (fun x s₁ => wpAny (model C.prog C.w) A (pyIter x) P E s₁) E s
theorem draw_rel {σ : View} {s : Shared} {h' : Heap} {tk : Nat} {I : Addr} (R : RelG C σ s) (hx : Heap.ExtBut I s.heap h') (hσ : σ I = Option.none) (hb : C.hB.get? I = Option.none) (hI : ∃ o, s.heap.get? I = some o ∧ ¬ IsT o ∧ ∀ v, o.data ≠ .cell v) :
  RelG C σ { s with heap := h', toks := tk } := by
 obtain ⟨oI, hoI, hT, _⟩ := hI
 have kt : TupKeep s.heap h' := fun b o e ht => hx b o (by rintro rfl; rw [hoI] at e; cases e; exact hT ht) e
 exact ⟨let ⟨_, _, d, e⟩ := R.rest; ⟨h', tk, d, by rw [e]⟩, fun b o e => hx b o (by rintro rfl; rw [hb] at e; cases e) (R.base b o e),
  fun a o e => (R.view a o e).keep kt fun o' e' => hx a o' (by rintro rfl; rw [hσ] at e; cases e) e', R.apart⟩
theorem draw_frame {env : Env} {m : Loc} {σ : View} {s : Shared} {h' : Heap} {I : Addr} (F : FrameRel C env m σ s.heap) (hx : Heap.ExtBut I s.heap h') (hI : ∃ o, s.heap.get? I = some o ∧ ¬ IsT o ∧ ∀ v, o.data ≠ .cell v) (hL : I ≠ env.locals) : FrameRel C env m σ h' := by
 obtain ⟨oI, hoI, hT, hC⟩ := hI
 have kt : TupKeep s.heap h' := fun b o e ht => hx b o (by rintro rfl; rw [hoI] at e; cases e; exact hT ht) e
 have kc : ∀ c v, s.heap.IsCell c v → h'.IsCell c v := fun c v ⟨o, ho, hd⟩ => ⟨o, hx c o (by rintro rfl; rw [hoI] at ho; cases ho; exact hC _ hd) ho, hd⟩
 obtain ⟨mm, hn, hm⟩ := F.ns
 refine ⟨⟨mm, hn.extBut hx (Ne.symm hL), fun y u e ky => ?_⟩, fun y u e => ?_, fun n c e => ?_, F.sepL, F.baseL, F.baseC, F.dist, F.has⟩
 ·obtain ⟨w, h1, h2⟩ := hm y u e ky; exact ⟨w, h1, h2.keep kt⟩
 ·rcases F.cel y u e with z | ⟨z, c, w', h1, h2, h3⟩
  ·exact .inl z
  ·exact .inr ⟨z, c, w', h1, kc _ _ h2, h3.keep kt⟩
 ·obtain ⟨v, hv⟩ := F.cells n c e; exact ⟨v, kc _ _ hv⟩
inductive Tgt where
 | name (x : String)
 | tup (xs : List String)
noncomputable def bindT : Tgt → V → Loc → Option Loc
 | .name x, v, m => some (put m x v)
 | .tup xs, .tup vs, m => if xs.length = vs.length then some (bindM xs vs m) else Option.none
 | .tup _, _, _ => Option.none
noncomputable def OwnL (loc : Bool) (env : Env) (b : Addr) : Prop := b = env.locals ∨ (loc = false ∧ ∃ n, env.cells.lookup n = some b)
structure HT (C : Cx) (sc : Scope) (k : Nat) (loc : Bool) (t : Expr) (g : Tgt) : Prop where
 run : ∀ (env : Env) (A : Around) (s : Shared) (m m' : Loc) (σ : View) (v : V) (w : Value) (P : Unit → Shared → Prop) (E : Value → Shared → Prop),
  EnvOk env sc → AOk C A k → RelG C σ s → FrameRel C env m σ s.heap → VRel C.aS s.heap v w → bindT g v m = some m' →
  (∀ s', RelG C σ s' → FrameRel C env m' σ s'.heap → Step (OwnL loc env) σ σ s.heap s'.heap → P () s') → wpAny (model C.prog C.w) A (assign t env w) P E s
theorem HT.name {x : String} {pos : Pos} (hx : sc.names.lookup (Str.ofString x) = some .local) : HT C sc k true (.Name (Str.ofString x) pos) (.name x) := by
 refine ⟨?_⟩; intro env A s m m' σ v w P E en ao R F hv hb hP
 cases hb
 exact wpAny_assign_Name (store_local en R F hx hv fun s' R' F' S' => hP s' R' F' (S'.mono fun _ _ _ z => .inl z))
theorem HT.cell {x : String} {pos : Pos} (hx : sc.names.lookup (Str.ofString x) = some .cell) : HT C sc k false (.Name (Str.ofString x) pos) (.name x) := by
 refine ⟨?_⟩; intro env A s m m' σ v w P E en ao R F hv hb hP
 cases hb
 exact wpAny_assign_Name (store_cell en R F hx hv fun s' R' F' S' => hP s' R' F' (S'.mono fun _ _ _ z => z.imp id fun z => ⟨rfl, z⟩))
noncomputable def forL (g : Tgt) (inv : View → Prop) (T : ST) : List V → ST
 | [] => fun m σ Q => inv σ ∧ Q .next m σ
 | v :: r => fun m σ Q => inv σ ∧ ∃ m', bindT g v m = some m' ∧ T m' σ fun f m₁ σ₁ => match f with
  | .next => forL g inv T r m₁ σ₁ Q
  | .cont => forL g inv T r m₁ σ₁ Q
  | .brk => Q .next m₁ σ₁
  | .ret u => Q (.ret u) m₁ σ₁
noncomputable def sFor (g : Tgt) (I : IT) (T : ST) : ST := fun m σ Q => I m σ fun items inv σ' => forL g inv T items m σ' Q
inductive ForInv (C : Cx) (env : Env) (σ : View) (h : Heap) (I : Addr) (items : List V) (St : Nat → Heap → Prop) (L : List V → Loc → View → Prop) (n : Nat) (s' : Shared) : Prop
 | mk (i : Nat) (m' : Loc) (σ' : View) (rest : List V) (e1 : items.drop i = rest) (e2 : i ≤ items.length) (e3 : n = rest.length + 1) (st : St i s'.heap) (hσ : σ' I = Option.none) (R : RelG C σ' s') (F : FrameRel C env m' σ' s'.heap)
   (S : Step (fun b => Own env b ∨ b = I) σ σ' h s'.heap) (q : L rest m' σ') : ForInv C env σ h I items St L n s'
theorem HS1.for {target iter : Expr} {body : List Stmt} {pos : Pos} {g : Tgt} {I : IT} {T : ST} {loc : Bool} (ht : HT C sc k loc target g) (hi : HI C sc k iter I) (hb : HS C sc k body T)
  (hf : ∀ env x, foldedSetIterable iter env x = pure x) : HS1 C sc k (.For target iter body [] pos) (sFor g I T) := by
 refine ⟨?_⟩; intro env A s m σ Q P E en ao R F q hP
 rw [exec_For]
 refine wpAny_bind (wpAny_standAt ?_)
 have start : wpAny (model C.prog C.w) A (eval iter env) (fun x s₁ => wpAny (model C.prog C.w) A (pyIter x) (fun it s₂ => codeAny (model C.prog C.w) A (.forLoop target it body [] env) (fun r s' => match r with | .ok f => P f s' | .error e => cameBackBy (model C.prog C.w) A env E e s') s₂) E s₁) E s := by
  refine hi.run env A s m σ _ _ E en ao R F q fun items inv I St σ₀ s₀ hit st₀ hI hσ₀ R₀ S₀ q₀ => ?_
  have F₀ := F.step R S₀
  obtain ⟨mm, hn, _⟩ := F.ns
  have hIL : I ≠ env.locals := fun e => absurd hn.lt (Nat.not_lt.mpr (e ▸ hI))
  have hIb : C.hB.get? I = Option.none := R.baseNone (get_none_of_size hI)
  have back : ∀ {σ' : View} {h' : Heap}, Step (fun b => Own env b ∨ b = I) σ σ' s.heap h' → Step (Own env) σ σ' s.heap h' := fun S =>
   S.mono fun b o e z => z.elim id fun z => absurd (Heap.lt_size e) (Nat.not_lt.mpr (z ▸ hI))
  refine codeAny_forLoop_any
   (ForInv C env σ s.heap I items St fun rest m' σ' => forL g inv T rest m' σ' Q) ?_ _
   ⟨0, m, σ₀, items, by simp, by simp, rfl, st₀, hσ₀, R₀, F₀, S₀.mono fun _ _ _ z => z.elim, q₀⟩
  rintro n s' ⟨i, m', σ', rest, e1, e2, rfl, st, hσ', R', F', S', q'⟩
  have drew : ∀ {h' : Heap}, Heap.ExtBut I s'.heap h' → s'.heap.objs.size ≤ h'.objs.size → Step (fun b => Own env b ∨ b = I) σ' σ' s'.heap h' := fun hx hsz =>
   .of (fun b o e _ q => hx b o (fun z => q (.inr z)) e) hsz fun _ a b => absurd a b
  cases rest with
  | nil =>
   have hil : i = items.length := drop_nil e1 e2
   subst hil
   refine with_size (hit.done A σ' s' _ _ ao R' q'.1 st fun h' tk hx hsz => ?_)
   exact wpAny_execs_nil (hP .next .next m' σ' _ .next (draw_rel (tk := tk) R' hx hσ' hIb (hit.live _ _ st)) (draw_frame F' hx (hit.live _ _ st) hIL) (back (S'.trans (drew hx hsz))) q'.2)
  | cons v r =>
   obtain ⟨hinv, m₁, hm₁, q'⟩ := q'
   have hiv : items[i]? = some v := by
    have : (items.drop i)[0]? = some v := by rw [e1]; rfl
    simpa using this
   have hilt : i < items.length := drop_lt e1
   refine with_size (hit.next A σ' s' i v _ _ ao R' hinv st hiv fun w h₁ tk₁ hv st₁ hx hsz => ?_)
   have R₁ := draw_rel (tk := tk₁) R' hx hσ' hIb (hit.live _ _ st)
   have F₁ := draw_frame F' hx (hit.live _ _ st) hIL
   have S₁ := S'.trans (drew hx hsz)
   refine hit.own A _ (i + 1) target w _ _ st₁ ?_
   refine ht.run env A _ m' m₁ σ' v w _ _ en ao R₁ F₁ hv hm₁ fun s₂ R₂ F₂ S₂L => ?_
   have S₂ : Step (Own env) σ' σ' h₁ s₂.heap := S₂L.mono fun _ _ _ z => z.imp id fun z => z.2
   have S₂' : Step (fun b => Own env b ∨ b = I) σ' σ' h₁ s₂.heap := S₂.mono fun _ _ _ z => .inl z
   have st₂ : St (i + 1) s₂.heap := hit.frame _ _ _ st₁ (fun o e => S₂.keep I o e hσ' (fun z => by
    rcases z with z | ⟨n, z⟩
    ·exact hIL z
    ·obtain ⟨u, ou, hou, hdu⟩ := F₁.cells n I z
     obtain ⟨o', ho', _, hc'⟩ := hit.live _ _ st₁
     have : ou = o' := Option.some.inj (hou.symm.trans ho')
     exact hc' u (this ▸ hdu)) (hit.flds _ _ st₁ o e)) (S₂.tupsO F₁ R₁)
   refine hb.run env A s₂ m₁ σ' _ _ _ en ao R₂ F₂ q' fun f fl m₃ σ₃ s₃ hf R₃ F₃ S₃ q₃ => ?_
   have S₃' : Step (fun b => Own env b ∨ b = I) σ' σ₃ s₂.heap s₃.heap := S₃.mono fun _ _ _ z => .inl z
   have SS := (S₁.trans S₂').trans S₃'
   have go : forL g inv T r m₃ σ₃ Q → ∃ k', k' < (v :: r).length + 1 ∧ ForInv C env σ s.heap I items St (fun rest m' σ' => forL g inv T rest m' σ' Q) k' s₃ := fun q₃ => by
    refine ⟨r.length + 1, Nat.lt_succ_self _, i + 1, m₃, σ₃, r, ?_, hilt, rfl, ?_, ?_, R₃, F₃, SS, q₃⟩
    ·rw [← List.tail_drop, e1]; rfl
    ·refine hit.frame _ _ _ st₂ (fun o e => S₃.keep I o e hσ' (fun z => ?_) (hit.flds _ _ st₂ o e)) (S₃.tupsO F₂ R₂)
     rcases z with z | ⟨n, z⟩
     ·exact hIL z
     ·obtain ⟨u, ou, hou, hdu⟩ := F₂.cells n I z
      obtain ⟨o', ho', _, hc'⟩ := hit.live _ _ st₂
      have : ou = o' := Option.some.inj (hou.symm.trans ho')
      exact hc' u (this ▸ hdu)
    ·cases z : σ₃ I with
     | none => rfl
     | some o =>
      obtain ⟨o', ho', _⟩ := hit.live _ _ st₂
      exact absurd (Heap.lt_size ho') (Nat.not_lt.mpr (S₃.new I hσ' (by rw [z]; simp)))
   cases hf with
   | next => exact go q₃
   | cont => exact go q₃
   | brk => exact hP .next .next m₃ σ₃ s₃ .next R₃ F₃ (back SS) q₃
   | ret hv => exact hP _ _ m₃ σ₃ s₃ (.ret hv) R₃ F₃ (back SS) q₃
 refine wpAny_bind (wpAny_mono start (fun x s₁ h₁ => wpAny_bind (wpAny_of_eq (hf env x) (wpAny_bind (wpAny_standAt (wpAny_bind (wpAny_holding (wpAny_mono h₁ (fun it s₂ h₂ => wpAny_runOwn h₂) fun _ _ h' => h'))))))) fun _ _ h' => h')
end
end Mine
end
noncomputable section
namespace Mine
open PySem
noncomputable def Hd (A : Around) (h : Heap) : Prop := A.handled = none ∨ ∃ e o vs, A.handled = some (.ref e) ∧ h.get? e = some o ∧ o.data = .fields vs ∧ vs[2]? = some .none
section
variable {prog : Program} {w : World} {A : Around} {E : Value → Shared → Prop} {s : Shared}
theorem entry_unchain : entryFor table "proto.unchain" = some Builtin.«proto.unchain» := entryFor_of_fast (by kernel_rfl)
theorem plain_unchain : plainId "proto.unchain" = true := by decide +kernel
theorem unchain_end {e : Addr} {x : Value} {o : Obj} {vs : Array Value} {Q : Value → Shared → Prop} (ho : s.heap.get? e = some o) (hd : o.data = .fields vs) (h2 : vs[2]? = some .none) (h : Q .none s) :
  wpAny (model prog w) A (runValue (.builtin "proto.unchain" ⟨[x, .ref e, .ref e, .bool false], []⟩)) Q E s := by
 refine wpAny_runValue (codeAny_builtin entry_unchain ?_)
 rw [Around.under_plainId plain_unchain _]
 unfold Builtin.«proto.unchain»
 dsimp only
 refine wpAny_bind (wpAny_field ho hd h2 ?_)
 rw [if_pos (by decide)]
 exact wpAny_pure h
theorem stopH {Q : Option Value → Shared → Prop} {P : Fin → Shared → Prop} (hh : Hd A s.heap) (h : ∀ h', (∀ b o, s.heap.get? b = some o → h'.get? b = some o) → Q none { s with heap := h' }) :
  wpAny (model prog w) A.in1 (do
    let e ← newExc (Value.type "StopIteration") []
    raiseNew e) P (fun e s' => wpAny (model prog w) A (do
     let b ← isInstance e (Value.type "StopIteration")
     if b = true then pure none else throw e) Q E s') s := by
 refine wpAny_bind ?_
 simp only [newExc, newTuple]
 refine wpAny_bind (wpAny_newObj_type ?_ (by size_fits))
 refine wpAny_bind (m := firstArgMember _ _) (wpAny_of_eq (a := Value.none) (by first | rfl | (simp only [firstArgMember]; rfl)) ?_)
 refine wpAny_newObj_type ?_ (by size_fits)
 simp only [raiseNew]
 refine wpAny_bind (wpAny_handled ?_)
 rcases hh with hh | ⟨e, o, vs, hh, ho, hd, h2⟩
 ·rw [show A.in1.handled = none from hh]
  refine wpAny_bind (wpAny_pure (wpAny_throw ?_))
  refine wpAny_bind (wpAny_isInstance (T := "StopIteration") (b := true) ⟨_, Heap.get?_push_size _ rfl, rfl⟩ isSubtype_stop ?_)
  exact wpAny_pure (h _ fun b o e => Heap.get?_push_of_some _ (Heap.get?_push_of_some _ e))
 ·rw [show A.in1.handled = some (.ref e) from hh]
  dsimp only
  have hlt := Heap.lt_size ho
  have hne : e ≠ s.heap.objs.size + 1 := Nat.ne_of_lt (Nat.lt_succ_of_lt hlt)
  rw [Heap.size_push]
  rw [if_pos (by simp [hne])]
  have ho2 := Heap.get?_push_of_some (h := s.heap.push { cls := .type "tuple", dict := none, data := .seq ([] : List Value).toArray }) { cls := .type "StopIteration", dict := none, data := .fields (#[.ref s.heap.objs.size, .none, .none, .none, .bool false, .none] ++ ownMembersOf (.type "StopIteration") []) } (Heap.get?_push_of_some _ ho)
  refine wpAny_bind (wpAny_holding (unchain_end ho2 hd h2 ?_))
  have hn := Heap.get?_push_size (s.heap.push { cls := .type "tuple", dict := none, data := .seq ([] : List Value).toArray }) (o := { cls := .type "StopIteration", dict := none, data := .fields (#[.ref s.heap.objs.size, .none, .none, .none, .bool false, .none] ++ ownMembersOf (.type "StopIteration") []) }) rfl
  rw [Heap.size_push] at hn
  refine wpAny_bind (show wpAny _ _ (setField (.ref (s.heap.objs.size + 1)) 2 (.ref e)) _ _ _ from wpAny_setField hn rfl (by rw [Array.size_append]; show 2 < 6 + _; exact Nat.le_add_left _ _) (wpAny_throw ?_))
  have hd3 := Obj.data_mapFields (o := { cls := .type "StopIteration", dict := none, data := .fields (#[.ref s.heap.objs.size, .none, .none, .none, .bool false, .none] ++ ownMembersOf (.type "StopIteration") []) }) rfl (·.setIfInBounds 2 (Value.ref e))
  have hn3 := Heap.get?_update_self (Obj.mapFields (·.setIfInBounds 2 (Value.ref e))) hn (Obj.isFreed_of_fields hd3)
  refine wpAny_bind (wpAny_isInstance (T := "StopIteration") (b := true) ⟨_, hn3, Obj.cls_mapFields _ _⟩ isSubtype_stop ?_)
  refine wpAny_pure (h _ fun b o e => ?_)
  rw [Heap.get?_update_other _ _ (Ne.symm (Nat.ne_of_lt (Nat.lt_succ_of_lt (Heap.lt_size e))))]
  exact Heap.get?_push_of_some _ (Heap.get?_push_of_some _ e)
theorem list_endH {it l : Addr} {i : Nat} {items : Array Value} {Q : Option Value → Shared → Prop} (hh : Hd A s.heap)
  (hit : s.heap.IsListIter it l i) (hl : s.heap.IsList l items) (hx : items[i]? = none) (hie : ∀ e, A.handled = some (.ref e) → e ≠ it)
  (hQ : ∀ h', Heap.ExtBut it s.heap h' → Q none { s with heap := h' }) : wpAny (model prog w) A (pyNext (.ref it)) Q E s := by
 obtain ⟨o, ho, hc, hd⟩ := id hit
 obtain ⟨ol, hol, _, nl, hdl⟩ := hl
 unfold pyNext
 refine wpAny_bind (wpAny_attempt (wpAny_callSpecial?_slot (name := Str.ofString "__next__") hit.typeIs slot_listiter_next
  (wpAny_call_entry slot_listiter_next hit.typeIs entry_listiter_next ?_ (args_listiter_next _))))
 show wpAny _ _ (field (.ref it) 0 >>= _) _ _ s
 refine wpAny_bind (wpAny_field ho hd (x := .ref l) rfl ?_)
 show wpAny _ _ (if (Value.ref l == Value.none) = true then _ else _) _ _ s
 rw [if_neg (show ¬ ((Value.ref l == Value.none) = true) from Bool.false_ne_true)]
 show wpAny _ _ (field (.ref it) 1 >>= _) _ _ s
 refine wpAny_bind (wpAny_field ho hd (x := .int i 0) rfl ?_)
 show wpAny _ _ (seqItems? (.ref l) >>= _) _ _ s
 refine wpAny_bind (wpAny_seqItems hol hdl ?_)
 simp only [Int.toNat_natCast, hx]
 refine wpAny_bind (wpAny_rule (wpAny_bind (wpAny_setField ho hd (by simp) ?_)))
 refine stopH ?_ fun h' hk => hQ h' fun b o' hb e => hk b o' ((Heap.SameBut.update s.heap it _).extBut b o' hb e)
 rcases hh with hh | ⟨e, o', vs, hh, ho', hd', h2⟩
 ·exact .inl hh
 ·exact .inr ⟨e, o', vs, hh, (Heap.get?_update_other _ _ (Ne.symm (hie e hh))).trans ho', hd', h2⟩
theorem tuple_endH {it t : Addr} {i : Nat} {items : Array Value} {Q : Option Value → Shared → Prop} (hh : Hd A s.heap)
  (hit : s.heap.IsTupleIter it t i) (ht : s.heap.IsTuple t items) (hx : items[i]? = none) (hie : ∀ e, A.handled = some (.ref e) → e ≠ it)
  (hQ : ∀ h', Heap.ExtBut it s.heap h' → Q none { s with heap := h' }) : wpAny (model prog w) A (pyNext (.ref it)) Q E s := by
 obtain ⟨o, ho, hc, hd⟩ := id hit
 obtain ⟨ol, hol, _, nl, hdl⟩ := ht
 unfold pyNext
 refine wpAny_bind (wpAny_attempt (wpAny_callSpecial?_slot (name := Str.ofString "__next__") hit.typeIs F.slot_tuple_iterator_next
  (wpAny_call_entry F.slot_tuple_iterator_next hit.typeIs F.entry_tuple_iterator_next ?_ (F.args_tuple_iterator_next_1 _))))
 show wpAny _ _ (field (.ref it) 0 >>= _) _ _ s
 refine wpAny_bind (wpAny_field ho hd (x := .ref t) rfl ?_)
 show wpAny _ _ (if (Value.ref t == Value.none) = true then _ else _) _ _ s
 rw [if_neg (show ¬ ((Value.ref t == Value.none) = true) from Bool.false_ne_true)]
 show wpAny _ _ (field (.ref it) 1 >>= _) _ _ s
 refine wpAny_bind (wpAny_field ho hd (x := .int i 0) rfl ?_)
 show wpAny _ _ (seqItems? (.ref t) >>= _) _ _ s
 refine wpAny_bind (wpAny_seqItems hol hdl ?_)
 simp only [Int.toNat_natCast, hx]
 refine wpAny_bind (wpAny_rule (wpAny_bind (wpAny_setField ho hd (by simp) ?_)))
 refine stopH ?_ fun h' hk => hQ h' fun b o' hb e => hk b o' ((Heap.SameBut.update s.heap it _).extBut b o' hb e)
 rcases hh with hh | ⟨e, o', vs, hh, ho', hd', h2⟩
 ·exact .inl hh
 ·exact .inr ⟨e, o', vs, hh, (Heap.get?_update_other _ _ (Ne.symm (hie e hh))).trans ho', hd', h2⟩
theorem assignH {env : Env} {elts : List Expr} {x1 : Nat} {pos : Pos} {t : Addr} {items : Array Value} {Q : Unit → Shared → Prop} (hh : Hd A s.heap) (ht : s.heap.IsTuple t items)
  (hn : (assignEach elts env).length = items.size) (hstar : (assignEach elts env).findIdx? (·.1) = none)
  (h : ∀ h', Heap.ExtBut s.heap.objs.size s.heap h' → wpAny (model prog w) A (assignInOrder ((assignEach elts env).map (·.2)) items.toList) Q E { s with heap := h' }) :
  wpAny (model prog w) A (assign (.Tuple elts x1 pos) env (.ref t)) Q E s := by
 rw [arm_assign_Tuple]
 refine wpAny_bind (wpAny_standAt ?_)
 unfold unpack
 rw [hn, hstar]
 refine wpAny_bind (wpAny_holding ?_)
 have hlt : t ≠ s.heap.objs.size := by obtain ⟨o, ho, _⟩ := ht; exact Nat.ne_of_lt (Heap.lt_size ho)
 unfold unpackItems
 refine wpAny_bind ?_
 unfold notIterableAtAll
 refine wpAny_bind (wpAny_specialOf ht.typeIs F.slot_tuple_iter.lookup ?_)
 refine wpAny_pure ?_
 simp only [Bool.false_eq_true, if_false]
 refine wpAny_bind (wpAny_holding (wpAny_pyIter_tuple ht ?_))
 refine wpAny_bind (wpAny_holding (wpAny_draw_tuple hlt items.size 0 _ _ ⟨_, Heap.get?_push_size _ rfl, rfl, rfl⟩ (ht.push _) (by exact Nat.le_of_not_lt fun hg => lin [(items.size)] [(1, (.a (.v 0) (.n 1)), (.a (.n 0) (.v 0)))] rfl hg) fun h₁ hit₁ hs₁ => ?_))
 have hall : List.take items.size (List.drop 0 items.toList) = items.toList := by
  rw [List.drop_zero]; exact List.take_of_length_le (by simp)
 rw [hall]
 rw [if_neg (by simp)]
 have ht₁ : h₁.IsTuple t items := (ht.push _).extBut hs₁.extBut hlt
 have hd₁ : Hd A h₁ := by
  rcases hh with hh | ⟨e, o', vs, hh, ho', hd', h2⟩
  ·exact .inl hh
  ·exact .inr ⟨e, o', vs, hh, hs₁.extBut e o' (Nat.ne_of_lt (Heap.lt_size ho')) (Heap.get?_push_of_some _ ho'), hd', h2⟩
 refine wpAny_bind (wpAny_holding (tuple_endH hd₁ hit₁ ht₁ (by simp) (fun e he => ?_) fun h₂ he₂ => ?_))
 ·rcases hh with hh | ⟨e', o', vs, hh, ho', hd', h2⟩
  ·rw [hh] at he; cases he
  ·rw [hh] at he; cases he; exact Nat.ne_of_lt (Heap.lt_size ho')
 simp only [Option.isSome_none, Bool.false_eq_true, if_false]
 exact wpAny_pure (h h₂ fun b o hb e => he₂ b o hb (hs₁.extBut b o hb (Heap.get?_push_of_some _ e)))
end
end Mine
end
noncomputable section
namespace Mine
open PySem
section
variable {C : Cx} {sc : Scope} {k : Nat}
theorem own_plain {I : Addr} {o : Obj} {n : String} {A : Around} {s : Shared} {t : Expr} {w : Value} {Q : Unit → Shared → Prop} {E : Value → Shared → Prop} (ho : s.heap.get? I = some o) (hc : o.cls = .type n)
  (hn : ["enumerate", "zip", "dict_itemiterator", "dict_reverseitemiterator", "odict_iterator", "itertools.zip_longest", "itertools.pairwise"].contains n = false) (q : Q () s) : wpAny (model C.prog C.w) A (letOwnedTupleGo t (.ref I) w) Q E s := by
 have fin : ∀ vs a, wpAny (model C.prog C.w) A (if (["enumerate", "zip", "dict_itemiterator", "dict_reverseitemiterator", "odict_iterator", "itertools.zip_longest", "itertools.pairwise"].contains n && (vs : Array Value)[0]? == some (rawInt a)) = true then (do rule "for.unpacks-the-owned-tuple"; updateField I 0 .none) else pure ()) Q E s := fun vs a => by
  rw [hn, Bool.false_and, if_neg Bool.false_ne_true]; exact wpAny_pure q
 cases t <;> first | exact wpAny_pure q | skip
 all_goals
  cases w <;> first | exact wpAny_pure q | skip
  refine wpAny_bind (wpAny_load ho ?_)
  rw [hc]
  cases hd : o.data <;> first | exact wpAny_pure q | exact fin _ _
theorem AOk.hd {A : Around} {σ : View} {s : Shared} (ao : AOk C A k) (O : C.Ok) (R : RelG C σ s) : Hd A s.heap := by
 cases z : C.held with
 | none => exact .inl (ao.none z)
 | some e =>
  obtain ⟨o, vs, h1, h2, h3⟩ := O.heldOk e z
  exact .inr ⟨e, o, vs, by rw [ao.handled, z]; rfl, R.base _ _ h1, h2, h3⟩
theorem AOk.ne {A : Around} {σ : View} {s : Shared} {I : Addr} {oI : Obj} {a b : Value} (ao : AOk C A k) (O : C.Ok) (R : RelG C σ s) (hI : s.heap.get? I = some oI) (hd : oI.data = .fields #[a, b]) : ∀ e, A.handled = some (.ref e) → e ≠ I := by
 rintro e he rfl
 rw [ao.handled] at he
 cases z : C.held with
 | none => rw [z] at he; cases he
 | some e' =>
  rw [z] at he; cases he
  obtain ⟨o, vs, h1, h2, h3⟩ := O.heldOk _ z
  have := R.base _ _ h1
  rw [hI] at this; cases this
  rw [hd] at h2; cases h2; cases h3
theorem it_list (O : C.Ok) (I a : Addr) (xs : List V) : It C k I xs (fun σ => σ a = some (.list xs)) (fun i h => h.IsListIter I a i) where
 frame := fun i h h' st kI _ => st.at kI
 live := fun i h ⟨o, ho, hc, hd⟩ => ⟨o, ho, (fun ⟨_, _, _, h2⟩ => by rw [hd] at h2; cases h2), (fun v h2 => by rw [hd] at h2; cases h2)⟩
 flds := fun i h ⟨o, ho, hc, hd⟩ o' ho' es ep z => by rw [ho] at ho'; cases ho'; rw [hd] at z; cases z
 next := fun A σ s i v Q E ao R inv st hv hQ => by
  obtain ⟨_, ws, h1, h2⟩ := R.view a _ inv
  obtain ⟨w, hw, hr⟩ := h2.get hv
  refine wpAny_pyNext_list_item st h1.isList (x := w) (by simpa using hw) fun h' st' hs' => hQ w h' s.toks (hr.keep ?_) st' hs'.extBut
  obtain ⟨o, ho, hc, hd⟩ := st
  exact fun b ob e ht => hs'.extBut b ob (by rintro rfl; rw [ho] at e; cases e; obtain ⟨_, _, _, h2⟩ := ht; rw [hd] at h2; cases h2) e
 done := fun A σ s Q E ao R inv st hQ => by
  obtain ⟨_, ws, h1, h2⟩ := R.view a _ inv
  obtain ⟨oI, hoI, _, hdI⟩ := id st
  exact list_endH (ao.hd O R) st h1.isList (by have := h2.length; simp [this]) (ao.ne O R hoI hdI) fun h' hx => hQ h' s.toks hx
 self := fun A s i Q E st q => wpAny_pyIter_listiter st q
 own := fun A s i t w Q E ⟨o, ho, hc, hd⟩ q => own_plain ho hc (by decide) q
theorem it_script (O : C.Ok) (I : Addr) : It C k I (C.ns.map .int) (fun _ => True) (fun i h => h.IsListIter I C.aS i) where
 frame := fun i h h' st kI _ => st.at kI
 live := fun i h ⟨o, ho, hc, hd⟩ => ⟨o, ho, (fun ⟨_, _, _, h2⟩ => by rw [hd] at h2; cases h2), (fun v h2 => by rw [hd] at h2; cases h2)⟩
 flds := fun i h ⟨o, ho, hc, hd⟩ o' ho' es ep z => by rw [ho] at ho'; cases ho'; rw [hd] at z; cases z
 next := fun A σ s i v Q E ao R inv st hv hQ => by
  obtain ⟨ws, h1, h2, h3⟩ := O.script
  rw [List.getElem?_map] at hv
  obtain ⟨n, hn, rfl⟩ := Option.map_eq_some_iff.mp hv
  obtain ⟨t, ht⟩ := h3 i n hn
  refine wpAny_pyNext_list_item st (h1.at fun o e => R.base _ _ e) (x := .int n t) (by simpa using ht) fun h' st' hs' => hQ _ h' s.toks (.int n t) st' hs'.extBut
 done := fun A σ s Q E ao R inv st hQ => by
  obtain ⟨ws, h1, h2, h3⟩ := O.script
  obtain ⟨oI, hoI, _, hdI⟩ := id st
  exact list_endH (ao.hd O R) st (h1.at fun o e => R.base _ _ e) (by simp at h2; simp [h2]) (ao.ne O R hoI hdI) fun h' hx => hQ h' s.toks hx
 self := fun A s i Q E st q => wpAny_pyIter_listiter st q
 own := fun A s i t w Q E ⟨o, ho, hc, hd⟩ q => own_plain ho hc (by decide) q
theorem it_tup (O : C.Ok) (I a : Addr) (vs : List V) (ws : List Value) : It C k I vs (fun _ => True) (fun i h => h.IsTupleIter I a i ∧ h.IsTuple a ws.toArray ∧ VRels C.aS h vs ws) where
 frame := fun i h h' st kI kt => ⟨st.1.at kI, let ⟨o, ho, hc, n, r⟩ := st.2.1; ⟨o, kt a o ho ⟨hc, _, n, r⟩, hc, n, r⟩, st.2.2.keep kt⟩
 live := fun i h ⟨⟨o, ho, hc, hd⟩, _⟩ => ⟨o, ho, (fun ⟨_, _, _, h2⟩ => by rw [hd] at h2; cases h2), (fun v h2 => by rw [hd] at h2; cases h2)⟩
 flds := fun i h ⟨⟨o, ho, hc, hd⟩, _⟩ o' ho' es ep z => by rw [ho] at ho'; cases ho'; rw [hd] at z; cases z
 next := fun A σ s i v Q E ao R inv st hv hQ => by
  obtain ⟨w, hw, hr⟩ := st.2.2.get hv
  obtain ⟨o, ho, hc, hd⟩ := id st.1
  have kt : ∀ h', Heap.SameBut I s.heap h' → TupKeep s.heap h' := fun h' hs' b ob e ht => hs'.extBut b ob (by rintro rfl; rw [ho] at e; cases e; obtain ⟨_, _, _, h2⟩ := ht; rw [hd] at h2; cases h2) e
  refine wpAny_pyNext_tuple_item st.1 st.2.1 (x := w) (by simpa using hw) fun h' st' hs' => hQ w h' s.toks (hr.keep (kt h' hs')) ⟨st', ?_, st.2.2.keep (kt h' hs')⟩ hs'.extBut
  obtain ⟨o, ho, hc, n, r⟩ := st.2.1
  exact ⟨o, kt h' hs' a o ho ⟨hc, _, n, r⟩, hc, n, r⟩
 done := fun A σ s Q E ao R inv st hQ => tuple_endH (ao.hd O R) st.1 st.2.1 (by have := st.2.2.length; simp [this]) (let ⟨_, hoI, _, hdI⟩ := st.1; ao.ne O R hoI hdI) fun h' hx => hQ h' s.toks hx
 self := fun A s i Q E st q => wpAny_pyIter_tupleiter st.1 q
 own := fun A s i t w Q E ⟨⟨o, ho, hc, hd⟩, _⟩ q => own_plain ho hc (by decide) q
noncomputable def signs (x : Str) : List V := x.cps.toList.map fun c => .str ⟨#[c]⟩
theorem it_str (hz : C.held = none) (I : Addr) (cls : String) (x : Str) (t : Tok) (hcls : cls = "str_ascii_iterator" ∨ cls = "str_iterator") : It C k I (signs x) (fun _ => True) (fun i h => h.IsStrIter I cls x t i) where
 frame := fun i h h' ⟨o, ho, r⟩ kI _ => ⟨o, kI o ho, r⟩
 live := fun i h ⟨o, ho, hc, hd⟩ => ⟨o, ho, (fun ⟨_, _, _, h2⟩ => by rw [hd] at h2; cases h2), (fun v h2 => by rw [hd] at h2; cases h2)⟩
 flds := fun i h ⟨o, ho, hc, hd⟩ o' ho' es ep z => by rw [ho] at ho'; cases ho'; rw [hd] at z; cases z
 next := fun A σ s i v Q E ao R inv st hv hQ => by
  unfold signs at hv
  rw [List.getElem?_map] at hv
  obtain ⟨c, hc, rfl⟩ := Option.map_eq_some_iff.mp hv
  rcases hcls with rfl | rfl
  ·exact wpAny_pyNext_ascii_item st (c := c) (by simpa using hc) fun h' st' hs' => hQ _ h' _ (.str _ _) st' hs'.extBut
  ·exact wpAny_pyNext_wide_item st (c := c) (by simpa using hc) fun h' st' hs' => hQ _ h' _ (.str _ _) st' hs'.extBut
 done := fun A σ s Q E ao R inv st hQ => by
  rcases hcls with rfl | rfl
  ·exact wpAny_pyNext_ascii_end (ao.none hz) st (by simp [signs]) fun h' hx => hQ h' s.toks hx
  ·exact wpAny_pyNext_wide_end (ao.none hz) st (by simp [signs]) fun h' hx => hQ h' s.toks hx
 self := fun A s i Q E st q => by
  rcases hcls with rfl | rfl
  ·exact wpAny_pyIter_striter_ascii st q
  ·exact wpAny_pyIter_striter_wide st q
 own := fun A s i t w Q E ⟨o, ho, hc, hd⟩ q => by
  rcases hcls with rfl | rfl
  ·exact own_plain ho hc (by decide) q
  ·exact own_plain ho hc (by decide) q
theorem it_dict (hz : C.held = none) (I d : Addr) (kvs : List (Str × V)) (ep : Nat) : It C k I (kvs.map fun p => .str p.1) (fun σ => σ d = some (.dict kvs ep)) (fun i h => h.IsKeyIter I d i kvs.length ep) where
 frame := fun i h h' st kI _ => st.at kI
 live := fun i h ⟨o, ho, hc, hd⟩ => ⟨o, ho, (fun ⟨_, _, _, h2⟩ => by rw [hd] at h2; cases h2), (fun v h2 => by rw [hd] at h2; cases h2)⟩
 flds := fun i h ⟨o, ho, hc, hd⟩ o' ho' es ep z => by rw [ho] at ho'; cases ho'; rw [hd] at z; cases z
 next := fun A σ s i v Q E ao R inv st hv hQ => by
  obtain ⟨_, kws, h1, h2⟩ := R.view d _ inv
  rw [List.getElem?_map] at hv
  obtain ⟨⟨key, u⟩, hku, rfl⟩ := Option.map_eq_some_iff.mp hv
  obtain ⟨w, hw, _⟩ := PRel.get h2 hku
  have st' : s.heap.IsKeyIter I d i kws.length ep := by rw [← h2.length]; exact st
  refine wpAny_pyNext_dict_item st' h1 hw fun kv h' hkey hit' hs' => hQ kv h' s.toks ?_ (by rw [h2.length]; exact hit') hs'.extBut
  cases kv with
  | str y t =>
   have : y = key := by simpa [strKind, Value.isStrOf] using hkey
   subst this; exact .str _ _
  | _ => simp [strKind, Value.isStrOf] at hkey
 done := fun A σ s Q E ao R inv st hQ => by
  obtain ⟨_, kws, h1, h2⟩ := R.view d _ inv
  have e : (kvs.map fun p : Str × V => V.str p.1).length = kws.length := by rw [List.length_map, h2.length]
  have st' : s.heap.IsKeyIter I d kws.length kws.length ep := by rw [← e]; simpa using st
  exact wpAny_pyNext_dict_end (ao.none hz) st' h1 (by simp) fun h' hx => hQ h' s.toks hx
 self := fun A s i Q E st q => wpAny_pyIter_keyiter st q
 own := fun A s i t w Q E ⟨o, ho, hc, hd⟩ q => own_plain ho hc (by decide) q
noncomputable def rangeL (a : Int) (n : Nat) : List V := (List.range n).map fun (i : Nat) => .int (a + i)
theorem it_range (hz : C.held = none) (I : Addr) (a : Int) (n : Nat) : It C k I (rangeL a n) (fun _ => True) (fun i h => IsRangeIter h I (a + (i : Nat) * 1) ((n : Int) - (i : Nat)) 1) where
 frame := fun i h h' st kI _ => kI _ st
 live := fun i h st => ⟨_, st, fun ⟨_, _, _, h2⟩ => by simp at h2, fun v h2 => by simp at h2⟩
 flds := fun i h st o' ho' es ep z => by rw [st] at ho'; cases ho'; cases z
 next := fun A σ s i v Q E ao R inv st hv hQ => by
  unfold rangeL at hv
  rw [List.getElem?_map] at hv
  obtain ⟨j, hj, rfl⟩ := Option.map_eq_some_iff.mp hv
  have hjn := List.getElem?_eq_some_iff.mp hj
  obtain ⟨hlt, hji⟩ := hjn
  simp at hji hlt
  subst hji
  refine wpAny_pyNext_range_item st (Int.sub_pos_of_lt (Int.ofNat_lt.mpr hlt)) fun h' hit' hs' => ?_
  have e1 : a + ((i + 1 : Nat) : Int) * 1 = a + (i : Int) * 1 + 1 := by rw [Int.mul_one, Int.mul_one, Int.add_assoc]; rfl
  have e2 : (n : Int) - ((i + 1 : Nat) : Int) = (n : Int) - (i : Int) - 1 := by rw [Int.sub_sub]; rfl
  refine hQ _ h' _ ?_ (by rw [e1, e2]; exact hit') hs'.extBut
  rw [Int.mul_one]; exact .int _ _
 done := fun A σ s Q E ao R inv st hQ => wpAny_pyNext_range_end (ao.none hz) st (by simp [rangeL]) fun h' hx => hQ h' s.toks hx
 self := fun A s i Q E st q => wpAny_pyIter_rangeiter st q
 own := fun A s i t w Q E st q => own_plain st rfl (by decide) q
noncomputable def iterRef (a : Addr) (σ : View) (Q : List V → (View → Prop) → View → Prop) (o : Option AObj) : Prop := match o with
 | some (.list xs) => Q xs (fun σ => σ a = some (.list xs)) σ
 | some (.dict kvs ep) => Q (kvs.map fun p => .str p.1) (fun σ => σ a = some (.dict kvs ep)) σ
 | _ => False
noncomputable def iterOf (ns : List Int) : V → View → (List V → (View → Prop) → View → Prop) → Prop
 | .str x, σ, Q => Q (signs x) (fun _ => True) σ
 | .tup vs, σ, Q => Q vs (fun _ => True) σ
 | .script, σ, Q => Q (ns.map .int) (fun _ => True) σ
 | .ref a, σ, Q => iterRef a σ Q (σ a)
 | _, _, _ => False
noncomputable def iOf (ns : List Int) (T : ET) : IT := fun m σ Q => T m σ fun v σ' => iterOf ns v σ' Q
theorem HI.of (O : C.Ok) (hz : C.held = none) {e : Expr} {T : ET} (he : HE C sc k e T) : HI C sc k e (iOf C.ns T) := by
 refine ⟨?_⟩; intro env A s m σ Q P E en ao R F q hP
 refine he.run env A s m σ _ _ E en ao R F q fun v w σ₁ s₁ hv R₁ S₁ q₁ => ?_
 have fr : s.heap.objs.size ≤ s₁.heap.objs.size := S₁.size
 have hn := R₁.freshNone (size_none s₁.heap)
 have Rp : ∀ o, RelG C σ₁ { s₁ with heap := s₁.heap.push o } := fun o => R₁.grow (tk := s₁.toks) push_old
 have Sp : ∀ o, Step no σ σ₁ s.heap (s₁.heap.push o) := fun o => S₁.trans .push
 cases hv with
 | none => exact q₁.elim
 | bool => exact q₁.elim
 | int => exact q₁.elim
 | ty => exact q₁.elim
 | str x t =>
  cases ha : x.cps.all (· < 128)
  ·exact wpAny_pyIter_wide ha (hP _ _ _ _ σ₁ _ (it_str hz _ "str_iterator" x t (.inr rfl)) ⟨_, Heap.get?_push_size _ rfl, rfl, rfl⟩ fr hn (Rp _) (Sp _) q₁)
  ·exact wpAny_pyIter_ascii ha (hP _ _ _ _ σ₁ _ (it_str hz _ "str_ascii_iterator" x t (.inl rfl)) ⟨_, Heap.get?_push_size _ rfl, rfl, rfl⟩ fr hn (Rp _) (Sp _) q₁)
 | script =>
  obtain ⟨ws, h1, h2, h3⟩ := O.script
  exact wpAny_pyIter_list (h1.at fun o e => R₁.base _ _ e) (hP _ _ _ _ σ₁ _ (it_script O _) ⟨_, Heap.get?_push_size _ rfl, rfl, rfl⟩ fr hn (Rp _) (Sp _) q₁)
 | tup ht hvs =>
  exact wpAny_pyIter_tuple ht (hP _ _ _ _ σ₁ _ (it_tup O _ _ _ _) ⟨⟨_, Heap.get?_push_size _ rfl, rfl, rfl⟩, ht.push _, hvs.keep fun _ _ e _ => push_old _ _ e⟩ fr hn (Rp _) (Sp _) q₁)
 | ref a =>
  replace q₁ : iterRef a σ₁ Q (σ₁ a) := q₁
  cases hx : σ₁ a with
  | none => rw [hx] at q₁; exact False.elim q₁
  | some o =>
  rw [hx] at q₁
  cases o <;> first | exact False.elim q₁ | skip
  ·rename_i xs
   obtain ⟨_, ws, h1, h2⟩ := R₁.view a _ hx
   exact wpAny_pyIter_list h1.isList (hP _ _ _ _ σ₁ _ (it_list O _ a xs) ⟨_, Heap.get?_push_size _ rfl, rfl, rfl⟩ fr hn (Rp _) (Sp _) q₁)
  ·rename_i kvs ep
   obtain ⟨_, kws, h1, h2⟩ := R₁.view a _ hx
   refine wpAny_pyIter_dict (O.noMods (R₁.apart a (by rw [hx]; simp))) h1 (hP _ _ _ _ σ₁ _ (it_dict hz _ a kvs ep) ⟨_, Heap.get?_push_size _ rfl, rfl, by rw [← h2.length]; rfl⟩ fr hn (Rp _) (Sp _) q₁)
noncomputable def rangeOf : List V → View → (List V → (View → Prop) → View → Prop) → Prop
 | v :: r, σ, Q => isI v fun a => match r with
  | [] => (-(2 ^ 62) ≤ a ∧ a < 2 ^ 62) ∧ Q (rangeL 0 a.toNat) (fun _ => True) σ
  | u :: r => on1 (u :: r) fun u => isI u fun b => (-(2 ^ 62) ≤ a ∧ a < 2 ^ 62 ∧ -(2 ^ 62) ≤ b ∧ b < 2 ^ 62) ∧ Q (rangeL a (b - a).toNat) (fun _ => True) σ
 | _, _, _ => False
noncomputable def iRange (L : LT) : IT := fun m σ Q => L m σ fun vs σ' => rangeOf vs σ' Q
theorem HI.range (O : C.Ok) (hz : C.held = none) {np pos : Pos} {es : List Expr} {L : LT} (hl : HL C sc k es L) (hp : plainArgs es = true)
  (hn : sc.names.lookup (Str.ofString "range") = some .globalImplicit) (hg : C.mg (Str.ofString "range") = Option.none) (hb : C.mb (Str.ofString "range") = some (.type "range")) :
  HI C sc k (.Call (.Name (Str.ofString "range") np) es [] pos) (iRange L) := by
 refine ⟨?_⟩; intro env A s m σ Q P E en ao R F q hP
 refine wpAny_Call_NameR (Calls.Name_function_global en.k (en.of hn) (Calls.loadGlobal_builtin (mg := C.mg) (mb := C.mb) (by rw [en.globals]; exact O.g.keeps R.base) hg (by rw [en.builtins]; exact O.b.keeps R.base) hb ?_) (by decide))
 refine callWith_type (starEach_any hp) (evalArgs_of hp (hl.run env A s m σ pos _ _ E en ao R F q fun vs ws σ₁ s₁ hv R₁ S₁ q₁ => ?_))
 have fr : s.heap.objs.size ≤ s₁.heap.objs.size + 1 := Nat.le_succ_of_le S₁.size
 have hσ : σ₁ (s₁.heap.objs.size + 1) = Option.none := R₁.freshNone (get_none_of_size (Nat.le_succ _))
 have go : ∀ (a b : Int) (o : Obj) (tk : Nat) (t u v : Tok), -(2 ^ 62) ≤ a → a < 2 ^ 62 → -(2 ^ 62) ≤ b → b < 2 ^ 62 → o = { cls := .type "range", data := .fields #[.int a t, .int b u, .int 1 v] } → Q (rangeL a (b - a).toNat) (fun _ => True) σ₁ →
   wpAny (model C.prog C.w) A (pyIter (.ref s₁.heap.objs.size)) P E { s₁ with heap := s₁.heap.push o, toks := tk } := by
  rintro a b o tk t u v h1 h2 h3 h4 rfl q₁
  refine wpAny_pyIter_range (IsRange.new ..) (small_one h1 h2 h3 h4) ?_
  have hsz : Builtin.Range.rangeSize a b 1 = ((b - a).toNat : Int) := by rw [rangeSize_one]; split <;> omega
  have hit := it_range (C := C) (k := k) hz (s₁.heap.objs.size + 1) a (b - a).toNat
  have R₂ : RelG C σ₁ { s₁ with heap := (s₁.heap.push { cls := .type "range", data := .fields #[.int a t, .int b u, .int 1 v] }).push { cls := .type "range_iterator", data := .fields #[rawInt a, rawInt (Builtin.Range.rangeSize a b 1), rawInt 1] }, toks := tk } :=
   R₁.grow fun _ _ e => push_old _ _ (push_old _ _ e)
  have e := Heap.get?_push_size (s₁.heap.push { cls := .type "range", data := .fields #[.int a t, .int b u, .int 1 v] }) (o := { cls := .type "range_iterator", data := .fields #[rawInt a, rawInt (Builtin.Range.rangeSize a b 1), rawInt 1] }) rfl
  rw [Heap.size_push] at e
  have this := hP _ _ _ _ σ₁ _ hit (by
    show IsRangeIter ((s₁.heap.push { cls := .type "range", data := .fields #[.int a t, .int b u, .int 1 v] }).push { cls := .type "range_iterator", data := .fields #[rawInt a, rawInt (Builtin.Range.rangeSize a b 1), rawInt 1] }) _ _ _ _
    unfold IsRangeIter
    rw [e, hsz]; simp) fr hσ R₂ ((S₁.trans .push).trans .push) q₁
  rw [Heap.size_push]
  exact this
 show wpAny _ A (PySem.call (.type "range") ([] ++ ws)) _ _ _
 rw [List.nil_append]
 cases hv with
 | nil => exact False.elim q₁
 | cons h1 r =>
  obtain ⟨n, rfl, q₂⟩ := isI.elim q₁
  clear q₁
  cases h1 with | int _ t =>
  cases r with
  | nil =>
   have q₁ := q₂
   refine call_range_1 (go 0 _ _ _ _ _ _ (by decide) (by decide) q₁.1.1 q₁.1.2 rfl ?_)
   rw [Int.sub_zero]; exact q₁.2
  | cons h2 r =>
   obtain ⟨u, e, q₃⟩ := on1.elim q₂
   cases e
   obtain ⟨b, rfl, q₁⟩ := isI.elim q₃
   cases r with | nil => cases h2 with | int _ u =>
   exact call_range_2 (go _ _ _ _ _ _ _ q₁.1.1 q₁.1.2.1 q₁.1.2.2.1 q₁.1.2.2.2 rfl q₁.2)
end
end Mine
end
noncomputable section
namespace Mine
open PySem
noncomputable def clo (cells : List (Str × Addr)) : List (Str × NameKind) → List (Str × Addr) → List (Str × Addr)
 | [], acc => acc
 | (n, q) :: r, acc => if q == .free then clo cells r ((n, (cells.lookup n).getD 0) :: acc) else clo cells r acc
theorem closure_eq {env : Env} {scope : Scope} (h : ∀ p ∈ scope.names, p.2 = .free → ∃ c, env.cells.lookup p.1 = some c) : closureFor scope env = pure (clo env.cells scope.names []) := by
 unfold closureFor
 have key : ∀ (l : List (Str × NameKind)) (acc : List (Str × Addr)), (∀ p ∈ l, p.2 = .free → ∃ c, env.cells.lookup p.1 = some c) →
   (forIn l acc fun p r => (if (p.2 == NameKind.free) = true then do let c ← cellOf env p.1; pure (ForInStep.yield ((p.1, c) :: r)) else pure (ForInStep.yield r) : Sem (ForInStep (List (Str × Addr))))) = pure (clo env.cells l acc) := by
  intro l
  induction l with
  | nil => intro acc _; rfl
  | cons p r ih =>
   intro acc hp
   rw [List.forIn_cons]
   obtain ⟨n, q⟩ := p
   unfold clo
   cases hq : (q == NameKind.free) with
   | true =>
    obtain ⟨c, hc⟩ := hp (n, q) (.head _) (by simpa using hq)
    simp only [cellOf, hc, if_true, pure_bind, Option.getD_some]
    exact ih _ fun p hp' => hp p (.tail _ hp')
   | false =>
    simp only [Bool.false_eq_true, if_false, pure_bind]
    exact ih _ fun p hp' => hp p (.tail _ hp')
 have := key scope.names [] h
 simpa using congrArg (fun t => t >>= fun cs => (pure cs : Sem _)) this
theorem clo_lookup {cells : List (Str × Addr)} : ∀ (l : List (Str × NameKind)) (acc : List (Str × Addr)), (∀ p ∈ l, p.2 = .free → ∃ c, cells.lookup p.1 = some c) → ∀ n,
  ((clo cells l acc).lookup n = if (n, NameKind.free) ∈ l then cells.lookup n else acc.lookup n)
 | [], acc, _, n => by simp [clo]
 | (y, q) :: r, acc, h, n => by
  unfold clo
  have ih := fun acc => clo_lookup r acc (fun p hp => h p (.tail _ hp)) n
  cases hq : (q == NameKind.free) with
  | true =>
   have hq' : q = .free := by simpa using hq
   obtain ⟨c, hc⟩ := h (y, q) (.head _) hq'
   rw [if_pos rfl, ih]
   subst hq'
   by_cases hr : (n, NameKind.free) ∈ r
   ·simp [hr]
   ·rw [if_neg hr]
    by_cases hy : n = y
    ·subst hy; simp [hc]
    ·have : (n == y) = false := by simp [hy]
     simp [hr, hy, List.lookup_cons, this]
  | false =>
   have hq' : q ≠ .free := by simpa using hq
   rw [if_neg Bool.false_ne_true, ih]
   have : ((n, NameKind.free) ∈ (y, q) :: r) ↔ (n, NameKind.free) ∈ r := by simp [Ne.symm hq']
   simp [this]
theorem clo_dist {cells : List (Str × Addr)} (hd : cells.Pairwise fun x y => x.2 ≠ y.2) : ∀ (l : List (Str × NameKind)) (acc : List (Str × Addr)), (∀ p ∈ l, p.2 = .free → ∃ c, cells.lookup p.1 = some c) → (l.map (·.1)).Nodup →
  (∀ p ∈ acc, cells.lookup p.1 = some p.2 ∧ p.1 ∉ l.map (·.1)) → acc.Pairwise (fun x y => x.2 ≠ y.2) → (clo cells l acc).Pairwise fun x y => x.2 ≠ y.2
 | [], acc, _, _, _, h => by simpa [clo] using h
 | (y, q) :: r, acc, h, hn, ha, hp => by
  unfold clo
  rw [List.map_cons, List.nodup_cons] at hn
  cases hq : (q == NameKind.free) with
  | true =>
   obtain ⟨c, hc⟩ := h (y, q) (.head _) (by simpa using hq)
   rw [if_pos rfl]
   refine clo_dist hd r _ (fun p hp => h p (.tail _ hp)) hn.2 ?_ ?_
   ·intro p hp'
    rcases List.mem_cons.mp hp' with rfl | hp'
    ·exact ⟨by simp [hc], hn.1⟩
    ·exact ⟨(ha p hp').1, fun z => (ha p hp').2 (.tail _ z)⟩
   ·refine List.pairwise_cons.mpr ⟨fun p hp' e => ?_, hp⟩
    rw [hc] at e
    simp only [Option.getD_some] at e
    have := name_of_addr hd (mem_of_lookup hc) (mem_of_lookup (e ▸ (ha p hp').1))
    exact (ha p hp').2 (by rw [← this]; exact .head _)
  | false =>
   rw [if_neg Bool.false_ne_true]
   exact clo_dist hd r acc (fun p hp => h p (.tail _ hp)) hn.2 (fun p hp' => ⟨(ha p hp').1, fun z => (ha p hp').2 (.tail _ z)⟩) hp
noncomputable def rkind (sc : Scope) (n : Str) (q : NameKind) : NameKind := if (q == .free && sc.kind == .function && sc.names.lookup n == some .cell) then .cell else q
noncomputable def relS (sc scope : Scope) : Scope := { scope with names := scope.names.map fun p => (p.1, rkind sc p.1 p.2) }
theorem relabel_eq {cs : Scope} {env : Env} : relabel cs env = relS env.scope cs := by
 unfold relabel relS Env.kindOf rkind
 congr 1
 refine List.map_congr_left fun p _ => ?_
 obtain ⟨n, q⟩ := p
 dsimp only
 split <;> rfl
theorem lookup_rel {sc : Scope} : ∀ (l : List (Str × NameKind)) (n : Str), (l.map fun p => (p.1, rkind sc p.1 p.2)).lookup n = (l.lookup n).map (rkind sc n)
 | [], n => rfl
 | (y, q) :: r, n => by
  rw [List.map_cons, List.lookup_cons, List.lookup_cons]
  by_cases hy : n = y
  ·subst hy; simp
  ·have hb : (n == y) = false := by simp [hy]
   simp only [hb]
   exact lookup_rel r n
theorem relS_free {sc : Scope} {l : List (Str × NameKind)} {n : Str} (h : l.lookup n = some .free) : (l.map fun p => (p.1, rkind sc p.1 p.2)).lookup n = some .cell ∨ (l.map fun p => (p.1, rkind sc p.1 p.2)).lookup n = some .free := by
 rw [lookup_rel, h, Option.map_some]
 unfold rkind
 split
 ·exact .inl rfl
 ·exact .inr rfl
theorem relS_cell {sc : Scope} {l : List (Str × NameKind)} {n : Str} (h : (l.map fun p => (p.1, rkind sc p.1 p.2)).lookup n = some .cell) : (n, NameKind.free) ∈ l ∨ (n, NameKind.cell) ∈ l := by
 rw [lookup_rel] at h
 obtain ⟨q, hq, e⟩ := Option.map_eq_some_iff.mp h
 unfold rkind at e
 split at e
 ·rename_i hc
  have : q = .free := by simp at hc; exact hc.1.1
  subst this
  exact .inl (mem_of_lookup hq)
 ·subst e; exact .inr (mem_of_lookup hq)
theorem relS_freeInv {sc : Scope} {l : List (Str × NameKind)} {n : Str} (h : (l.map fun p => (p.1, rkind sc p.1 p.2)).lookup n = some .free) : (n, NameKind.free) ∈ l := by
 rw [lookup_rel] at h
 obtain ⟨q, hq, e⟩ := Option.map_eq_some_iff.mp h
 unfold rkind at e
 split at e
 ·cases e
 ·subst e; exact mem_of_lookup hq
section
variable {C : Cx} {sc : Scope} {k : Nat}
structure HTs (C : Cx) (sc : Scope) (k : Nat) (ifs : List Expr) (B : BT) : Prop where
 run : ∀ (env : Env) (A : Around) (s : Shared) (m : Loc) (σ : View) (Q : Bool → View → Prop) (P : Bool → Shared → Prop) (E : Value → Shared → Prop),
  EnvOk env sc → AOk C A k → RelG C σ s → FrameRel C env m σ s.heap → B m σ Q →
  (∀ b σ' s', RelG C σ' s' → Step no σ σ' s.heap s'.heap → Q b σ' → P b s') →
  wpAny (model C.prog C.w) A (forIn ifs true fun c r => if r = true then do let ok ← isTrue c env (eval c env); pure (ForInStep.yield ok) else pure (ForInStep.yield r)) P E s
theorem HTs.nil : HTs C sc k [] tT := ⟨fun _ _ s _ σ _ _ _ _ _ R _ q hP => wpAny_tests_nil (hP true σ s R Step.refl q)⟩
theorem HTs.one {c : Expr} {B : BT} (h : HB C sc k c B) : HTs C sc k [c] B := ⟨fun env A s m σ Q P E en ao R F q hP => wpAny_tests_one (h.run env A s m σ Q P E en ao R F q hP)⟩
noncomputable def only (fv : List String) (m : Loc) : Loc := fun x => if x ∈ fv then m x else Option.none
noncomputable def compL (g : Tgt) (inv : View → Prop) (B : BT) (T : ET) (m : Loc) : List V → List V → View → (List V → View → Prop) → Prop
 | [], acc, σ, Q => inv σ ∧ Q acc σ
 | v :: r, acc, σ, Q => inv σ ∧ ∃ m', bindT g v m = some m' ∧ B m' σ fun b σ₁ => if b then T m' σ₁ fun y σ₂ => acc.length < 1048576 ∧ compL g inv B T m r (acc ++ [y]) σ₂ Q else compL g inv B T m r acc σ₁ Q
noncomputable def eComp (fv : List String) (g : Tgt) (I : IT) (B : BT) (T : ET) : ET := fun m σ Q => I m σ fun items inv σ' => compL g inv B T (only fv m) items [] σ' fun ys σ'' => newL ys σ'' Q
noncomputable def Tgt.names : Tgt → List String
 | .name x => [x]
 | .tup xs => xs
theorem bindM_other : ∀ (xs : List String) (vs : List V) (m : Loc) (y : String), y ∉ xs → bindM xs vs m y = m y
 | [], _, _, _, _ => by simp [bindM]
 | x :: xs, [], _, _, _ => by simp [bindM]
 | x :: xs, v :: vs, m, y, h => by
  simp only [bindM]
  rw [bindM_other xs vs _ y (fun z => h (.tail _ z))]
  exact put_ne (fun z => h (by rw [z]; exact .head _))
theorem bindT_other {g : Tgt} {v : V} {m m' : Loc} (h : bindT g v m = some m') {y : String} (hy : y ∉ g.names) : m' y = m y := by
 cases g with
 | name x => cases h; exact put_ne (fun z => hy (by simp [Tgt.names, z]))
 | tup xs =>
  cases v <;> simp [bindT] at h
  obtain ⟨_, rfl⟩ := h
  exact bindM_other _ _ _ _ hy
theorem FrameRel.weaken {env : Env} {m m' : Loc} {σ : View} {h : Heap} (F : FrameRel C env m' σ h) (hw : ∀ x v, m x = some v → m' x = some v) : FrameRel C env m σ h :=
 ⟨let ⟨mm, h1, h2⟩ := F.ns; ⟨mm, h1, fun x v e q => h2 x v (hw x v e) q⟩, fun x v e => F.cel x v (hw x v e), F.cells, F.sepL, F.baseL, F.baseC, F.dist, F.has⟩
theorem compLoop_any {A : Around} {R : Result → Shared → Prop} {s : Shared} {elt target iter : Expr} {ifs : List Expr} {scope : Scope} {pos : Pos} {it acc : Value} {env : Env} (I : Nat → Shared → Prop)
  (turn : ∀ n s, I n s → wpAny (model C.prog C.w) A (pyNext it) (fun r s₁ => match r with
   | Option.none => R (.ok .next) s₁
   | some v => wpAny (model C.prog C.w) A (letOwnedTupleGo target it v) (fun _ s₁' => wpAny (model C.prog C.w) A (assign target env v) (fun _ s₂ =>
     wpAny (model C.prog C.w) A (forIn ifs true fun c r => if r = true then do let ok ← isTrue c env (eval c env); pure (ForInStep.yield ok) else pure (ForInStep.yield r)) (fun ok s₃ =>
      if ok = true then wpAny (model C.prog C.w) A (eval elt env) (fun x s₄ =>
       wpAny (model C.prog C.w) A (call (.builtin "list.append") [acc, x]) (fun _ s₅ => ∃ m, m < n ∧ I m s₅) (notedBy (model C.prog C.w) A env fun e s' => R (.error e) s') s₄) (notedBy (model C.prog C.w) A env fun e s' => R (.error e) s') s₃
      else ∃ m, m < n ∧ I m s₃) (notedBy (model C.prog C.w) A env fun e s' => R (.error e) s') s₂) (notedBy (model C.prog C.w) A env fun e s' => R (.error e) s') s₁') (notedBy (model C.prog C.w) A env fun e s' => R (.error e) s') s₁) (notedBy (model C.prog C.w) A env fun e s' => R (.error e) s') s)
  (n : Nat) (h : I n s) : codeAny (model C.prog C.w) A (.compLoop (.ListComp elt [⟨target, iter, ifs, 0⟩] scope pos) 0 it acc env) R s := by
 refine codeAny_loop rfl I (fun n s hI => ?_) n h
 show wpAny _ A ((compTurn (.ListComp elt [⟨target, iter, ifs, 0⟩] scope pos) 0 it acc env).onRaise (fun x => do noteFrame x env; theTreesLotGoes x)) _ _ s
 refine wpAny_noted ?_
 rw [compTurn_list]
 refine wpAny_bind (wpAny_standAt (wpAny_bind (wpAny_mono (turn n s hI) (fun r s₁ h₁ => ?_) fun _ _ h' => h')))
 cases r with
 | none => exact wpAny_pure h₁
 | some v =>
  refine wpAny_bind (wpAny_mono h₁ (fun _ s₁' h₁' => ?_) fun _ _ h' => h')
  refine wpAny_bind (wpAny_mono h₁' (fun _ s₂ h₂ => wpAny_bind (wpAny_mono h₂ (fun ok s₃ h₃ => ?_) fun _ _ h' => h')) fun _ _ h' => h')
  cases ok with
  | false => exact wpAny_pure ⟨rfl, h₃⟩
  | true => exact wpAny_bind (wpAny_bind (wpAny_mono h₃ (fun x s₄ h₄ => wpAny_bind (wpAny_mono h₄ (fun _ s₅ h₅ => wpAny_pure (wpAny_pure ⟨rfl, h₅⟩)) fun _ _ h' => h')) fun _ _ h' => h'))
structure CompOk (sc cs : Scope) (fv : List String) (g : Tgt) : Prop where
 kind : cs.kind = .function
 nocell : ∀ y ∈ cs.names, y.2 ≠ .cell
 names : ∀ y ∈ cs.names, y.2 = .local → cs.names.lookup y.1 = some .local
 nodup : (cs.names.map (·.1)).Nodup
 frees : ∀ p ∈ cs.names, p.2 = .free → ∃ x ∈ fv, Str.ofString x = p.1
 frs : ∀ x ∈ fv, (Str.ofString x, NameKind.free) ∈ cs.names ∧ (sc.names.lookup (Str.ofString x) = some .cell ∨ sc.names.lookup (Str.ofString x) = some .free)
 tgt : ∀ x ∈ g.names, x ∉ fv
noncomputable def FrameHas (env : Env) (x : String) : Prop := ∃ c, env.cells.lookup (Str.ofString x) = some c
theorem mem_lookup_nodup {α : Type} : ∀ {l : List (Str × α)} {n : Str} {c : α}, (l.map (·.1)).Nodup → (n, c) ∈ l → l.lookup n = some c
 | p :: r, n, c, hn, hm => by
  rw [List.map_cons, List.nodup_cons] at hn
  rcases List.mem_cons.mp hm with e | hm
  ·subst e; simp
  ·have : n ≠ p.1 := fun e => hn.1 (e ▸ List.mem_map_of_mem hm)
   rw [List.lookup_cons, show (n == p.1) = false by simp [this]]
   exact mem_lookup_nodup hn.2 hm
theorem plain_nd {h : Heap} {a : Addr} {xs : Array Value} (hp : h.PlainList a xs) (o : Obj) (e : h.get? a = some o) : ∀ es ep, o.data ≠ .dict es ep := by
 obtain ⟨n, hn⟩ := hp
 rw [hn] at e; cases e
 intro es ep z; cases z
inductive CompInv (C : Cx) (cenv : Env) (σ₂ : View) (h : Heap) (I H : Addr) (m : Loc) (items : List V) (St : Nat → Heap → Prop) (L : List V → List V → View → Prop) (n : Nat) (s' : Shared) : Prop
 | mk (i : Nat) (ys : List V) (ws : List Value) (σ' : View) (rest : List V) (e1 : items.drop i = rest) (e2 : i ≤ items.length) (e3 : n = rest.length + 1) (st : St i s'.heap) (hI : σ' I = Option.none) (hD : σ' h.objs.size = Option.none) (R : RelG C σ' s')
   (F : FrameRel C cenv m σ' s'.heap) (hp : s'.heap.PlainList h.objs.size (List.toArray ws)) (hv : VRels C.aS s'.heap ys ws) (hl : ys.length ≤ 1048576) (S : Step (fun b => b = I ∨ b = h.objs.size ∨ b = H) σ₂ σ' h s'.heap) (q : L rest ys σ') : CompInv C cenv σ₂ h I H m items St L n s'
theorem comp_core {env : Env} {A : Around} {s₀ s₂ : Shared} {m : Loc} {σ₀ σ₂ : View} {elt iter target : Expr} {ifs : List Expr} {cs : Scope} {pos : Pos} {fv : List String} {g : Tgt} {B : BT} {T : ET} {I : Addr} {items : List V} {inv : View → Prop} {St : Nat → Heap → Prop}
  {Q : List V → View → Prop} {RR : Value → Addr → Result → Shared → Prop} {E : Value → Shared → Prop}
  (ok : CompOk sc cs fv g) (hhas : ∀ x ∈ fv, FrameHas env x) (ht : HT C (relS sc cs) k true target g) (hB : HTs C (relS sc cs) k ifs B) (hT : HE C (relS sc cs) k elt T)
  (en : EnvOk env sc) (ao : AOk C A k) (R₀ : RelG C σ₀ s₀) (S : Step no σ₀ σ₂ s₀.heap s₂.heap) (R₂ : RelG C σ₂ s₂) (F : FrameRel C env m σ₂ s₂.heap) (hit : It C k I items inv St) (st : St 0 s₂.heap) (hI : s₀.heap.objs.size ≤ I) (hσI : σ₂ I = Option.none)
  (q : compL g inv B T (only fv m) items [] σ₂ Q)
  (hRR : ∀ D C' ys ws mm σ' s', Heap.Ns s'.heap C' mm → s₂.heap.objs.size ≤ C' → s₂.heap.objs.size ≤ D → D ≠ C' → σ' D = Option.none → σ' C' = Option.none → s'.heap.PlainList D (List.toArray ws) → VRels C.aS s'.heap ys ws → RelG C σ' s' →
   ys.length ≤ 1048576 → Step no σ₀ σ' s₀.heap s'.heap → Step (fun b => b = I) σ₂ σ' s₂.heap s'.heap → Q ys σ' → RR (.ref D) C' (.ok .next) s') :
  wpAny (model C.prog C.w) A (newList []) (fun acc s₃ => wpAny (model C.prog C.w) A (newFunctionEnv cs env.globals (clo env.cells cs.names []) [] env.qual Option.none .none (some env)) (fun cenv s₄ =>
   codeAny (model C.prog C.w) A (.compStart (.ListComp elt [⟨target, iter, ifs, 0⟩] cs pos) 0 (.ref I) acc { cenv with scope := relabel cs env }) (RR acc cenv.locals) s₄) E s₃) E s₂ := by
 have hfree : ∀ p ∈ cs.names, p.2 = .free → ∃ c, env.cells.lookup p.1 = some c := fun p hp hq => by
  obtain ⟨x, hx, e⟩ := ok.frees p hp hq
  rw [← e]; exact hhas x hx
 refine wpAny_newObj_type (wpAny_newFunctionEnv ok.nocell (by intro y hy; simp at hy) (fun h₁ hns₁ hsb₁ => ?_) ok.kind)
 dsimp only at hns₁ hsb₁ ⊢
 generalize hH2 : s₂.heap.push { cls := .type "list", dict := Option.none, data := .seq ([] : List Value).toArray } = H2 at hns₁ hsb₁ ⊢
 have hC : H2.objs.size = s₂.heap.objs.size + 1 := by rw [← hH2, Heap.size_push]
 have hDC : s₂.heap.objs.size ≠ H2.objs.size := by rw [hC]; exact Nat.ne_of_lt (Nat.lt_succ_self _)
 have old : ∀ b o, s₂.heap.get? b = some o → h₁.get? b = some o := fun b o e => hsb₁.extBut b o (by rw [hC]; exact Nat.ne_of_lt (Nat.lt_succ_of_lt (Heap.lt_size e))) (Heap.get?_push_of_some _ (hH2 ▸ Heap.get?_push_of_some _ e))
 have hacc : h₁.PlainList s₂.heap.objs.size (List.toArray []) := ⟨_, hsb₁.extBut _ _ hDC (Heap.get?_push_of_some _ (hH2 ▸ Heap.get?_push_size _ rfl))⟩
 have hsz₁ : h₁.objs.size = s₂.heap.objs.size + 2 := by rw [hsb₁.1, Heap.size_push, hC]
 have R₁ : RelG C σ₂ { s₂ with heap := h₁, toks := s₂.toks + ([] : List (Str × Value)).length } := R₂.grow old
 have cl := clo_lookup (cells := env.cells) cs.names [] hfree
 have kindF : ∀ x ∈ fv, (relS sc cs).names.lookup (Str.ofString x) = some .cell ∨ (relS sc cs).names.lookup (Str.ofString x) = some .free := fun x hx =>
  relS_free (mem_lookup_nodup ok.nodup (ok.frs x hx).1)
 have hLC : (compEnvC cs (clo env.cells cs.names []) H2.objs.size env).locals = H2.objs.size := rfl
 have eS : (compEnvC cs (clo env.cells cs.names []) H2.objs.size env).scope = relS sc cs := by show relabel cs env = _; rw [relabel_eq, en.scope]
 have eCl : (compEnvC cs (clo env.cells cs.names []) H2.objs.size env).cells = clo env.cells cs.names [] := rfl
 have enC : EnvOk (compEnvC cs (clo env.cells cs.names []) H2.objs.size env) (relS sc cs) := ⟨eS, ok.kind, en.globals, en.builtins⟩
 have memF : ∀ n c, (clo env.cells cs.names []).lookup n = some c → (n, NameKind.free) ∈ cs.names ∧ env.cells.lookup n = some c := fun n c e => by
  rw [cl n] at e
  split at e
  ·exact ⟨by assumption, e⟩
  ·simp at e
 have kc : ∀ c v, s₂.heap.IsCell c v → h₁.IsCell c v := fun c v ⟨o, ho, hd⟩ => ⟨o, old c o ho, hd⟩
 have F₁ : FrameRel C (compEnvC cs (clo env.cells cs.names []) H2.objs.size env) (only fv m) σ₂ h₁ := by
  refine ⟨⟨_, hns₁, fun x v e kx => ?_⟩, fun x v e => ?_, fun n c e => ?_, R₂.freshNone (get_none_of_size (by rw [hLC, hC]; exact Nat.le_succ _)), R₂.baseNone (get_none_of_size (by rw [hLC, hC]; exact Nat.le_succ _)), fun n c e => ?_, ?_, fun n e => ?_⟩
  ·unfold only at e
   split at e
   ·rename_i hx
    rcases kindF x hx with z | z <;> (rw [enC.of z] at kx; cases kx)
   ·cases e
  ·unfold only at e
   split at e
   ·rename_i hx
    rcases F.cel x v e with z | ⟨z, c, w, h1, h2, h3⟩
    ·exfalso
     rcases (ok.frs x hx).2 with y | y <;> (rw [en.of y] at z; cases z)
    ·refine .inr ⟨?_, c, w, ?_, kc _ _ h2, h3.keep fun b o e _ => old b o e⟩
     ·exact (kindF x hx).imp (fun z => enC.of z) fun z => enC.of z
     ·rw [eCl, cl, if_pos (ok.frs x hx).1]; exact h1
   ·cases e
  ·obtain ⟨v, hv⟩ := F.cells n c (memF n c e).2
   exact ⟨v, kc _ _ hv⟩
  ·exact F.baseC n c (memF n c e).2
  ·exact clo_dist F.dist cs.names [] hfree ok.nodup (fun p hp => by cases hp) List.Pairwise.nil
  ·have go : (n, NameKind.free) ∈ cs.names → ∃ c, (clo env.cells cs.names []).lookup n = some c := fun z => by
    obtain ⟨c, hc⟩ := hfree _ z rfl
    exact ⟨c, by rw [cl, if_pos z]; exact hc⟩
   rcases e with e | e
   ·have e' : (relS sc cs).names.lookup n = some .cell := by unfold Env.kindOf at e; rw [eS] at e; exact e
    rcases relS_cell e' with z | z
    ·exact go z
    ·exact absurd rfl (ok.nocell _ z)
   ·have e' : (relS sc cs).names.lookup n = some .free := by unfold Env.kindOf at e; rw [eS] at e; exact e
    exact go (relS_freeInv e')
 have hI2 : I < s₂.heap.objs.size := by obtain ⟨o, ho, _⟩ := hit.live _ _ st; exact Heap.lt_size ho
 have st₁ : St 0 h₁ := hit.frame _ _ _ st (fun o e => old I o e) (fun b o e _ => old b o e)
 have S₁ : Step (fun b => b = I ∨ b = s₂.heap.objs.size ∨ b = H2.objs.size) σ₂ σ₂ s₂.heap h₁ := .grow old (by rw [hsz₁]; exact Nat.le_add_right _ _)
 have hσD : σ₂ s₂.heap.objs.size = Option.none := R₂.freshNone (size_none _)
 have hIb : C.hB.get? I = Option.none := R₀.baseNone (get_none_of_size hI)
 have hIL : I ≠ H2.objs.size := by rw [hC]; exact Nat.ne_of_lt (Nat.lt_succ_of_lt hI2)
 have wk : ∀ {v m'}, bindT g v (only fv m) = some m' → ∀ x u, only fv m x = some u → m' x = some u := fun hb x u e => by
  rw [bindT_other hb]; exact e
  intro hx
  unfold only at e
  rw [if_neg (ok.tgt x hx)] at e; cases e
 have loop : ∀ s₃ : Shared, s₃ = { s₂ with heap := h₁, toks := s₂.toks + ([] : List (Str × Value)).length } →
   codeAny (model C.prog C.w) A (.compLoop (.ListComp elt [⟨target, iter, ifs, 0⟩] cs pos) 0 (.ref I) (.ref s₂.heap.objs.size) (compEnvC cs (clo env.cells cs.names []) H2.objs.size env)) (RR (.ref s₂.heap.objs.size) H2.objs.size) s₃ := by
  rintro s₃ rfl
  generalize compEnvC cs (clo env.cells cs.names []) H2.objs.size env = cenv at hLC eS eCl enC F₁ ⊢
  refine compLoop_any
   (CompInv C cenv σ₂ s₂.heap I H2.objs.size (only fv m) items St fun rest ys σ' => compL g inv B T (only fv m) rest ys σ' Q) ?_ _
   ⟨0, [], [], σ₂, items, by simp, by simp, rfl, st₁, hσI, hσD, R₁, F₁, hacc, .nil, by simp, S₁, q⟩
  rintro n s' ⟨i, ys, ws, σ', rest, e1, e2, rfl, st', hσ', hσD', R', F', hp', hv', hl', S', q'⟩
  have nT : ∀ o, s'.heap.get? s₂.heap.objs.size = some o → ¬ IsT o ∧ ∀ v, o.data ≠ .cell v := fun o ho => by
   obtain ⟨n, hn⟩ := hp'; rw [hn] at ho; cases ho; exact ⟨by simp [IsT], by simp⟩
  have drew : ∀ {h' : Heap}, Heap.ExtBut I s'.heap h' → s'.heap.objs.size ≤ h'.objs.size → Step (fun b => b = I ∨ b = s₂.heap.objs.size ∨ b = H2.objs.size) σ' σ' s'.heap h' := fun hx hsz =>
   .of (fun b o e _ q => hx b o (fun z => q (.inl z)) e) hsz fun _ a b => absurd a b
  have ktI : ∀ {h' : Heap}, Heap.ExtBut I s'.heap h' → TupKeep s'.heap h' := fun hx b o e ht => hx b o (by
   rintro rfl; obtain ⟨oI, hoI, hT, _⟩ := hit.live _ _ st'; rw [hoI] at e; cases e; exact hT ht) e
  cases rest with
  | nil =>
   have hil : i = items.length := drop_nil e1 e2
   subst hil
   refine with_size (hit.done A σ' s' _ _ ao R' q'.1 st' fun h' tk hx hsz => ?_)
   have R₃ := draw_rel (tk := tk) R' hx hσ' hIb (hit.live _ _ st')
   have F₃ := draw_frame F' hx (hit.live _ _ st') (by rw [hLC]; exact hIL)
   have S₃ := S'.trans (drew hx hsz)
   obtain ⟨mm, hmm, _⟩ := F₃.ns
   rw [hLC] at hmm
   have sep := F₃.sepL
   rw [hLC] at sep
   refine hRR _ _ ys ws mm σ' _ hmm (by rw [hC]; exact Nat.le_succ _) (Nat.le_refl _) hDC hσD' sep (hp'.extBut hx (Nat.ne_of_gt hI2)) (hv'.keep (ktI hx)) R₃ hl' (((S.mono fun _ _ _ z => z.elim).trans S₃).mono fun b o e z => ?_) (S₃.mono fun b o e z => ?_) q'.2
   ·have := Heap.lt_size e
    have hh := S.size
    rcases z with z | z | z
    ·exact absurd this (by rw [z]; exact Nat.not_lt.mpr hI)
    ·exact absurd this (by rw [z]; exact Nat.not_lt.mpr hh)
    ·exact absurd this (by rw [z, hC]; exact Nat.not_lt.mpr (Nat.le_succ_of_le hh))
   ·have := Heap.lt_size e
    rcases z with z | z | z
    ·exact z
    ·exact absurd this (by rw [z]; exact Nat.lt_irrefl _)
    ·exact absurd this (by rw [z, hC]; exact Nat.not_lt.mpr (Nat.le_succ _))
  | cons v r =>
   obtain ⟨hinv, m₁, hm₁, q'⟩ := q'
   have hiv : items[i]? = some v := by
    have : (items.drop i)[0]? = some v := by rw [e1]; rfl
    simpa using this
   have hilt : i < items.length := drop_lt e1
   refine with_size (hit.next A σ' s' i v _ _ ao R' hinv st' hiv fun w h₂ tk₂ hv st₂ hx hsz => ?_)
   have R₃ := draw_rel (tk := tk₂) R' hx hσ' hIb (hit.live _ _ st')
   have F₃ := draw_frame F' hx (hit.live _ _ st') (by rw [hLC]; exact hIL)
   have S₃ := S'.trans (drew hx hsz)
   have hp₃ := hp'.extBut hx (Nat.ne_of_gt hI2)
   have hv₃ := hv'.keep (ktI hx)
   refine hit.own A _ (i + 1) target w _ _ st₂ ?_
   refine ht.run cenv A _ (only fv m) m₁ σ' v w _ _ enC ao R₃ F₃ hv hm₁ fun s₄ R₄ F₄ S₄ => ?_
   have S₄' : Step (fun b => b = H2.objs.size) σ' σ' h₂ s₄.heap := S₄.mono fun b _ _ z => z.elim (fun z => by rw [hLC] at z; exact z) fun z => by cases z.1
   have kt₄ : TupKeep h₂ s₄.heap := S₄'.tups (s := { s' with heap := h₂, toks := tk₂ }) R₃ fun b o z e => by
    subst z; rw [← hLC] at e; exact F₃.ownT _ o (.inl rfl) e
   have st₄ : St (i + 1) s₄.heap := hit.frame _ _ _ st₂ (fun o e => S₄'.keep I o e hσ' hIL (hit.flds _ _ st₂ o e)) kt₄
   have hp₄ : s₄.heap.PlainList s₂.heap.objs.size (List.toArray ws) := hp₃.at fun o e => S₄'.keep _ o e hσD' hDC (plain_nd hp₃ o e)
   have hv₄ := hv₃.keep kt₄
   have S₅ : Step (fun b => b = I ∨ b = s₂.heap.objs.size ∨ b = H2.objs.size) σ₂ σ' s₂.heap s₄.heap := S₃.trans (S₄'.mono fun _ _ _ z => .inr (.inr z))
   refine hB.run cenv A s₄ m₁ σ' _ _ _ enC ao R₄ F₄ q' fun b σ₅ s₅ R₅ Sb q₅ => ?_
   have sepI : ∀ {σa σb : View} {sa : Shared} {hb : Heap}, Step no σa σb sa.heap hb → St (i + 1) sa.heap → σa I = Option.none → σb I = Option.none := fun {σa σb sa hb} Sx stx hx => by
    cases z : σb I with
    | none => rfl
    | some o =>
     obtain ⟨o', ho', _⟩ := hit.live _ _ stx
     exact absurd (Heap.lt_size ho') (Nat.not_lt.mpr (Sx.new I hx (by rw [z]; simp)))
   have sepD : ∀ {σa σb : View} {sa : Shared} {hb : Heap}, Step no σa σb sa.heap hb → sa.heap.PlainList s₂.heap.objs.size (List.toArray ws) → σa s₂.heap.objs.size = Option.none → σb s₂.heap.objs.size = Option.none := fun {σa σb sa hb} Sx hpx hx => by
    cases z : σb s₂.heap.objs.size with
    | none => rfl
    | some o =>
     obtain ⟨n', hn'⟩ := hpx
     exact absurd (Heap.lt_size hn') (Nat.not_lt.mpr (Sx.new _ hx (by rw [z]; simp)))
   have st₅ : St (i + 1) s₅.heap := hit.frame _ _ _ st₄ (fun o e => Sb.keep I o e hσ' (fun z => z) (hit.flds _ _ st₄ o e)) (Sb.tupsN R₄)
   have hp₅ : s₅.heap.PlainList s₂.heap.objs.size (List.toArray ws) := hp₄.at fun o e => Sb.keep _ o e hσD' (fun z => z) (plain_nd hp₄ o e)
   have hv₅ := hv₄.keep (Sb.tupsN R₄)
   have F₅ := F₄.step R₄ Sb
   have hσ₅ := sepI Sb st₄ hσ'
   have hσD₅ := sepD Sb hp₄ hσD'
   have S₆ := S₅.trans (Sb.mono fun _ _ _ z => z.elim)
   have dr : items.drop (i + 1) = r := by rw [← List.tail_drop, e1]; rfl
   cases b with
   | false =>
    simp only [Bool.false_eq_true, if_false] at q₅ ⊢
    exact ⟨r.length + 1, Nat.lt_succ_self _, i + 1, ys, ws, σ₅, r, dr, hilt, rfl, st₅, hσ₅, hσD₅, R₅, F₅.weaken (wk hm₁), hp₅, hv₅, hl', S₆, q₅⟩
   | true =>
    simp only [if_true] at q₅ ⊢
    refine hT.run cenv A s₅ m₁ σ₅ _ _ _ enC ao R₅ F₅ q₅ fun y wy σ₆ s₆ hy R₆ Sc q₆ => ?_
    obtain ⟨hlen, q₆⟩ := q₆
    have st₆ : St (i + 1) s₆.heap := hit.frame _ _ _ st₅ (fun o e => Sc.keep I o e hσ₅ (fun z => z) (hit.flds _ _ st₅ o e)) (Sc.tupsN R₅)
    have hp₆ : s₆.heap.PlainList s₂.heap.objs.size (List.toArray ws) := hp₅.at fun o e => Sc.keep _ o e hσD₅ (fun z => z) (plain_nd hp₅ o e)
    have hv₆ := hv₅.keep (Sc.tupsN R₅)
    have hσ₆ := sepI Sc st₅ hσ₅
    have hσD₆ := sepD Sc hp₅ hσD₅
    have F₆ := F₅.step R₅ Sc
    refine wpAny_list_append_plain hp₆ (fun h₇ hp₇ hs₇ => ?_) (by rw [List.size_toArray, ← hv₆.length, sizeLine_eq]; exact Nat.le_trans hl' (by decide))
    have nD : ∀ o, s₆.heap.get? s₂.heap.objs.size = some o → ¬ IsT o ∧ ∀ v, o.data ≠ .cell v := fun o ho => by
     obtain ⟨n, hn⟩ := hp₆; rw [hn] at ho; cases ho; exact ⟨by simp [IsT], by simp⟩
    obtain ⟨oD, hoD⟩ : ∃ o, s₆.heap.get? s₂.heap.objs.size = some o := let ⟨n, hn⟩ := hp₆; ⟨_, hn⟩
    have kt₇ : TupKeep s₆.heap h₇ := fun b o e ht => hs₇.extBut b o (by rintro rfl; exact (nD o e).1 ht) e
    have R₇ : RelG C σ₆ { s₆ with heap := h₇ } := draw_rel (tk := s₆.toks) R₆ hs₇.extBut hσD₆ (R₂.baseNone (size_none _)) ⟨oD, hoD, nD oD hoD⟩
    have F₇ : FrameRel C cenv m₁ σ₆ h₇ := draw_frame F₆ hs₇.extBut ⟨oD, hoD, nD oD hoD⟩ (by rw [hLC]; exact hDC)
    have st₇ : St (i + 1) h₇ := hit.frame _ _ _ st₆ (fun o e => hs₇.extBut I o (Nat.ne_of_lt hI2) e) kt₇
    refine ⟨r.length + 1, Nat.lt_succ_self _, i + 1, ys ++ [y], ws ++ [wy], σ₆, r, dr, hilt, rfl, st₇, hσ₆, hσD₆, R₇, F₇.weaken (wk hm₁), by simpa using hp₇, (hv₆.append (.cons hy .nil)).keep kt₇, by simp; exact Nat.le_of_lt_succ hlen, (S₆.trans (Sc.mono fun _ _ _ z => z.elim)).trans ?_, q₆⟩
    exact .of (fun b o e _ q => hs₇.extBut b o (fun z => q (.inr (.inl z))) e) (Nat.le_of_eq hs₇.1.symm) fun _ a b => absurd a b
 exact codeAny_compStart_list (loop _ rfl) (hit.self A _ 0 _ _ st₁ (loop _ rfl))
theorem has_fv {env : Env} {m : Loc} {σ : View} {h : Heap} {cs : Scope} {fv : List String} {g : Tgt} (ok : CompOk sc cs fv g) (en : EnvOk env sc) (F : FrameRel C env m σ h) : ∀ x ∈ fv, FrameHas env x := fun x hx =>
 F.has _ ((ok.frs x hx).2.imp (fun z => en.of z) fun z => en.of z)
theorem RelG.enter {σ : View} {s : Shared} {D : Addr} {o : AObj} (R : RelG C σ s) (hD : C.hB.get? D = Option.none) (ho : ObjRel C s.heap D o) : RelG C (upd σ D o) s :=
 ⟨R.rest, R.base, fun a o' e => by
  by_cases h : a = D
  ·subst h; rw [upd_same] at e; cases e; exact ho
  ·rw [upd_ne h] at e; exact R.view a o' e,
   fun a ha => by
  by_cases h : a = D
  ·subst h; exact hD
  ·rw [upd_ne h] at ha; exact R.apart a ha⟩
theorem Step.enter {own : Addr → Prop} {σ σ' : View} {h h' : Heap} {D : Addr} {o : AObj} (S : Step own σ σ' h h') (hD : h.objs.size ≤ D) : Step own σ (upd σ' D o) h h' :=
 ⟨S.keepL, S.size, fun b n z => by
  by_cases hb : b = D
  ·subst hb; exact hD
  ·rw [upd_ne hb] at z; exact S.new b n z⟩
theorem HE.comp {elt iter target : Expr} {ifs : List Expr} {cs : Scope} {pos : Pos} {fv : List String} {g : Tgt} {I : IT} {B : BT} {T : ET} (ok : CompOk sc cs fv g)
  (hi : HI C sc k iter I) (ht : HT C (relS sc cs) k true target g) (hB : HTs C (relS sc cs) k ifs B) (hT : HE C (relS sc cs) k elt T) (hf : ∀ env x, foldedSetIterable iter env x = pure x) :
  HE C sc k (.ListComp elt [⟨target, iter, ifs, 0⟩] cs pos) (eComp fv g I B T) := by
 refine ⟨?_⟩; intro env A s m σ Q P E en ao R F q hP
 have hfree : ∀ p ∈ cs.names, p.2 = .free → ∃ c, env.cells.lookup p.1 = some c := fun p hp hq => by
  obtain ⟨x, hx, e⟩ := ok.frees p hp hq
  rw [← e]; exact has_fv ok en F x hx
 rw [eval_ListComp]
 refine wpAny_comprehension_free (use := Option.none) rfl (hf env) (closure_eq hfree) ok.kind ok.names (hi.run env A s m σ _ _ E en ao R F q fun items inv I St σ₂ s₂ hit st hI hσI R₂ S₂ q₂ => ?_)
 refine comp_core (RR := fun acc C' => compPost (model C.prog C.w) A E Option.none P acc C') ok (has_fv ok en F) ht hB hT en ao R S₂ R₂ (F.step R S₂) hit st hI hσI q₂ ?_
 intro D C' ys ws mm σ' s' hmm hC' hD hDC hσD hσC hp hv R' hly S' SI q'
 refine ⟨mm, hmm, fun h'' hs'' => ?_⟩
 have nT : ∀ o, s'.heap.get? C' = some o → ¬ IsT o ∧ ∀ v, o.data ≠ .cell v := fun o ho => by
  obtain ⟨o', es, ep, ho', hd', _⟩ := hmm; rw [ho'] at ho; cases ho; exact ⟨by simp [IsT, hd'], by simp [hd']⟩
 obtain ⟨oC, hoC⟩ : ∃ o, s'.heap.get? C' = some o := let ⟨o', _, _, ho', _⟩ := hmm; ⟨o', ho'⟩
 have hC0 : s.heap.objs.size ≤ C' := Nat.le_trans S₂.size hC'
 have hD0 : s.heap.objs.size ≤ D := Nat.le_trans S₂.size hD
 have kt : TupKeep s'.heap h'' := fun b o e ht => hs''.extBut b o (by rintro rfl; exact (nT o e).1 ht) e
 have R₃ : RelG C σ' { s' with heap := h'' } := draw_rel (tk := s'.toks) R' hs''.extBut hσC (R.baseNone (get_none_of_size hC0)) ⟨oC, hoC, nT oC hoC⟩
 have R₄ := R₃.enter (D := D) (o := .list ys) (R.baseNone (get_none_of_size hD0)) ⟨by exact Nat.le_trans hly (by decide), ws, hp.extBut hs''.extBut hDC, hv.keep kt⟩
 have S₃ : Step (fun b => b = C') σ' σ' s'.heap h'' := .of (fun b o e _ q => hs''.extBut b o q e) (Nat.le_of_eq hs''.1.symm) fun _ a b => absurd a b
 have S₄ : Step no σ σ' s.heap h'' := ((S'.mono fun _ _ _ z => z.elim).trans S₃).mono fun b o e z => absurd (Heap.lt_size e) (by rw [z]; exact Nat.not_lt.mpr hC0)
 exact hP _ _ _ _ (.ref D) R₄ (S₄.enter hD0) (q' D hσD)
theorem HS1.setComp {elt iter target : Expr} {ifs : List Expr} {cs : Scope} {pos p spos : Pos} {x : String} {fv : List String} {g : Tgt} {I : IT} {B : BT} {T : ET} (ok : CompOk sc cs fv g)
  (hi : HI C sc k iter I) (ht : HT C (relS sc cs) k true target g) (hB : HTs C (relS sc cs) k ifs B) (hT : HE C (relS sc cs) k elt T) (hf : ∀ env x, foldedSetIterable iter env x = pure x)
  (hx : sc.names.lookup (Str.ofString x) = some .local) (hsw : ∀ env, EnvOk env sc → swapsWith (.ListComp elt [⟨target, iter, ifs, 0⟩] cs pos) (some (.Name (Str.ofString x) p)) spos.line env = pure true) :
  HS1 C sc k (.Assign [.Name (Str.ofString x) p] (.ListComp elt [⟨target, iter, ifs, 0⟩] cs pos) spos) (sSet x (eComp fv g I B T)) := by
 refine ⟨?_⟩; intro env A s m σ Q P E en ao R F q hP
 have hfree : ∀ p ∈ cs.names, p.2 = .free → ∃ c, env.cells.lookup p.1 = some c := fun p hp hq => by
  obtain ⟨x, hx, e⟩ := ok.frees p hp hq
  rw [← e]; exact has_fv ok en F x hx
 rw [exec_Assign_Name_used _ _ _ _ (hsw env en)]
 refine wpAny_bind (wpAny_standAt (wpAny_bind ?_))
 show wpAny _ A (do let _ ← comprehension (.ListComp elt [⟨target, iter, ifs, 0⟩] cs pos) cs env _ (newList []) false (eval iter env) (some (assign (.Name (Str.ofString x) p) env))) _ _ s
 refine wpAny_bind (wpAny_mono (wpAny_comprehension_free (use := some (assign (.Name (Str.ofString x) p) env)) (Q := fun _ s' => P .next s') rfl (hf env) (closure_eq hfree) ok.kind ok.names (hi.run env A s m σ _ _ E en ao R F q fun items inv I St σ₂ s₂ hit st hI hσI R₂ S₂ q₂ => ?_))
  (fun _ s' hq => wpAny_pure (wpAny_pure hq)) fun _ _ e => e)
 refine comp_core (RR := fun acc C' => compPost (model C.prog C.w) A E (some (assign (.Name (Str.ofString x) p) env)) (fun _ s' => P .next s') acc C') ok (has_fv ok en F) ht hB hT en ao R S₂ R₂ (F.step R S₂) hit st hI hσI q₂ ?_
 intro D C' ys ws mm σ' s' hmm hC' hD hDC hσD hσC hp hv R' hly S' SI q'
 have hC0 : s.heap.objs.size ≤ C' := Nat.le_trans S₂.size hC'
 have hD0 : s.heap.objs.size ≤ D := Nat.le_trans S₂.size hD
 have R₃ := R'.enter (D := D) (o := .list ys) (R.baseNone (get_none_of_size hD0)) ⟨by exact Nat.le_trans hly (by decide), ws, hp, hv⟩
 have S₃ := S'.enter (o := .list ys) hD0
 have F₃ := F.step R S₃
 have hCL : C' ≠ env.locals := fun e => by
  obtain ⟨mL, hmL, _⟩ := F.ns
  exact absurd hmL.lt (by rw [← e]; exact Nat.not_lt.mpr hC0)
 refine wpAny_assign_Name (store_local en R₃ F₃ hx (.ref D) fun s₄ R₄ F₄ S₄ => ?_)
 have hσ₃C : upd σ' D (.list ys) C' = Option.none := by rw [upd_ne (Ne.symm hDC)]; exact hσC
 have hmm4 : s₄.heap.Ns C' mm := Like.ns hmm fun o e => S₄.keepL C' o e hσ₃C hCL
 refine ⟨mm, hmm4, fun h'' hs'' => ?_⟩
 have nT : ∀ o, s₄.heap.get? C' = some o → ¬ IsT o ∧ ∀ v, o.data ≠ .cell v := fun o ho => by
  obtain ⟨o', es, ep, ho', hd', _⟩ := hmm4; rw [ho'] at ho; cases ho; exact ⟨by simp [IsT, hd'], by simp [hd']⟩
 obtain ⟨oC, hoC⟩ : ∃ o, s₄.heap.get? C' = some o := let ⟨o', _, _, ho', _⟩ := hmm4; ⟨o', ho'⟩
 have R₅ := draw_rel (tk := s₄.toks) R₄ hs''.extBut hσ₃C (R.baseNone (get_none_of_size hC0)) ⟨oC, hoC, nT oC hoC⟩
 have F₅ := draw_frame F₄ hs''.extBut ⟨oC, hoC, nT oC hoC⟩ hCL
 have S₅ : Step (fun b => b = env.locals ∨ b = C') (upd σ' D (.list ys)) (upd σ' D (.list ys)) s'.heap h'' := (S₄.mono fun _ _ _ z => .inl z).trans (.of (fun b o e _ q => hs''.extBut b o (fun z => q (.inr z)) e) (Nat.le_of_eq hs''.1.symm) fun _ a b => absurd a b)
 have S₆ : Step (Own env) σ (upd σ' D (.list ys)) s.heap h'' := ((S₃.mono fun _ _ _ z => z.elim).trans S₅).mono fun b o e z => z.elim .inl fun z => absurd (Heap.lt_size e) (by rw [z]; exact Nat.not_lt.mpr hC0)
 exact hP .next .next _ _ _ .next R₅ F₅ S₆ (q' D hσD)
end
end Mine
end
noncomputable section
namespace Mine
open PySem
section
variable {C : Cx} {sc : Scope} {k : Nat}
noncomputable def isSlice : Expr → Bool
 | .Slice .. => true
 | _ => false
theorem item_tree {A : Around} {s : Shared} {slice : Expr} {o i : Value} {T id : String} {P E : Value → Shared → Prop} (hsl : isSlice slice = false) (hT : s.TypeIs o T)
  (hl : typeLookup (.type T) "__getitem__" = pure (some (.builtin id))) (hg : wpAny (model C.prog C.w) A (getItem o i) P E s) :
  wpAny (model C.prog C.w) A (getitemInPython o >>= fun b => subscripted slice b o i) P E s := by
 refine wpAny_bind ?_
 rw [getitemInPython_of_ne hT.not_modules]
 refine wpAny_bind (wpAny_specialOf hT hl ?_)
 refine wpAny_pure ?_
 have : subscripted slice false o i = operate [o, i] (getItem o i) := by
  unfold subscripted
  cases slice <;> first | rfl | cases hsl
 rw [this]
 exact wpAny_operating hg
noncomputable def idx (i : Int) (n : Nat) : Option Nat := if 0 ≤ i then (if i < n then some i.toNat else Option.none) else (if -(n : Int) ≤ i then some (i + n).toNat else Option.none)
noncomputable def opItem (ns : List Int) : O2
 | .str x, .int i, σ, Q => x.length < 16777217 ∧ ∃ j c, idx i x.length = some j ∧ x.cps.toList[j]? = some c ∧ Q (.str ⟨#[c]⟩) σ
 | .script, .int i, σ, Q => ∃ j n, 0 ≤ i ∧ idx i ns.length = some j ∧ ns[j]? = some n ∧ Q (.int n) σ
 | .tup vs, .int i, σ, Q => vs.length < 16777217 ∧ ∃ j v, idx i vs.length = some j ∧ vs[j]? = some v ∧ Q v σ
 | .ref a, .int i, σ, Q => ∃ xs j v, σ a = some (.list xs) ∧ idx i xs.length = some j ∧ xs[j]? = some v ∧ Q v σ
 | _, _, _, _ => False
theorem neg_lo {i : Int} {n : Nat} (h : -(n : Int) ≤ i) : 0 ≤ i + n := by have := Int.add_le_add_right h n; rwa [Int.add_left_neg] at this
theorem neg_hi {i : Int} {n : Nat} (h : i < 0) : i + n < n := by have := Int.add_lt_add_right h (n : Int); rwa [Int.zero_add] at this
theorem nat_lt {i : Int} {n : Nat} (h0 : 0 ≤ i) (h : i < n) : i.toNat < n := by obtain ⟨m, rfl⟩ := Int.eq_ofNat_of_zero_le h0; exact Int.ofNat_lt.mp h
theorem lt_nat {i : Int} {n : Nat} (h0 : 0 ≤ i) (h : i.toNat < n) : i < n := by obtain ⟨m, rfl⟩ := Int.eq_ofNat_of_zero_le h0; exact Int.ofNat_lt.mpr h
theorem fits {n : Nat} {i N : Int} (h1 : -(n : Int) ≤ i) (h2 : i < n) (hz : n ≤ 16777216) (hN : ((16777216 : Nat) : Int) ≤ N) : -N ≤ i ∧ i < N :=
 ⟨Int.le_trans (Int.neg_le_neg (Int.le_trans (Int.ofNat_le.mpr hz) hN)) h1, Int.lt_of_lt_of_le h2 (Int.le_trans (Int.ofNat_le.mpr hz) hN)⟩
theorem idx_seq {i : Int} {n j : Nat} (h : idx i n = some j) : seqIndex? i n = some j := by
 unfold idx at h
 unfold seqIndex?
 split at h
 ·split at h
  ·cases h
   rename_i h1 h2
   simp [Int.not_lt.mpr h1, h1, h2]
  ·cases h
 ·split at h
  ·cases h
   rename_i h1 h2
   have : i < 0 := by exact Int.not_le.mp h1
   simp only [this, if_true]
   rw [if_pos (by simp only [Bool.and_eq_true, decide_eq_true_eq]; exact ⟨neg_lo h2, neg_hi this⟩)]
  ·cases h
theorem idx_lt {i : Int} {n j : Nat} (h : idx i n = some j) : j < n ∧ -(n : Int) ≤ i ∧ i < n := by
 unfold idx at h
 split at h
 ·split at h
  ·rename_i h1 h2; cases h; exact ⟨nat_lt h1 h2, Int.le_trans (Int.neg_nonpos_of_nonneg (Int.natCast_nonneg n)) h1, h2⟩
  ·cases h
 ·split at h
  ·rename_i h1 h2; cases h; exact ⟨nat_lt (neg_lo h2) (neg_hi (Int.not_le.mp h1)), h2, Int.lt_of_lt_of_le (Int.not_le.mp h1) (Int.natCast_nonneg n)⟩
  ·cases h
theorem get_list {A : Around} {s : Shared} {a : Addr} {ws : List Value} {i : Int} {t : Tok} {j : Nat} {w : Value} {P E : Value → Shared → Prop} (hl : s.heap.IsList a ws.toArray) (hi : idx i ws.length = some j) (hw : ws[j]? = some w) (hz : ws.length ≤ 16777216) (q : P w s) :
  wpAny (model C.prog C.w) A (getItem (.ref a) (.int i t)) P E s := by
 have hlt := idx_lt hi
 by_cases h0 : 0 ≤ i
 ·have : j = i.toNat := by unfold idx at hi; rw [if_pos h0] at hi; split at hi <;> cases hi; rfl
  subst this
  exact wpAny_getItem_list hl h0 (fits hlt.2.1 hlt.2.2 hz (by decide)).2 (by simpa using hw) q
 ·have : j = (i + ws.length).toNat := by unfold idx at hi; rw [if_neg h0] at hi; split at hi <;> cases hi; rfl
  subst this
  refine wpAny_getItem_list_neg hl (by exact Int.not_le.mp h0) (by simp; exact hlt.2.1) (fits hlt.2.1 hlt.2.2 hz (by decide)).1 (by simpa using hw) q
theorem ok_item (O : C.Ok) {slice : Expr} (hsl : isSlice slice = false) : Op2 C k (fun o i => getitemInPython o >>= fun b => subscripted slice b o i) (opItem C.ns) := by
 intro A s σ a b wa wb Q P E ao R va vb q hP
 cases a <;> first | exact q.elim | skip
 all_goals (cases b <;> first | exact q.elim | skip)
 ·rename_i x i
  cases va; cases vb
  obtain ⟨hx, j, c, hj, hc, q⟩ := q
  refine item_tree hsl (typeIs_str _ _ _) F.slot_str_getitem.lookup ?_
  have hlt := idx_lt hj
  have e : Txt.charAt x i = some c := by
   unfold Txt.charAt
   rw [idx_seq hj]
   simpa using hc
  refine SB.getItem ?_ (by rw [e]; rfl) ?_
  ·unfold fitsSsize; simp; exact fits hlt.2.1 hlt.2.2 (Nat.le_of_lt_succ hx) (by decide)
  ·have e2 : Txt.item x i = ⟨#[c]⟩ := by unfold Txt.item; rw [e]; rfl
   rw [e2]
   exact hP _ _ σ _ (.str _ _) (R.tok _) Step.refl q
 ·rename_i aa i
  cases va; cases vb
  obtain ⟨xs, j, v, hx, hj, hv, q⟩ := q
  obtain ⟨hz, ws, h1, h2⟩ := R.view aa _ hx
  obtain ⟨w, hw, hr⟩ := h2.get hv
  exact item_tree hsl h1.isList.typeIs slot_list_getitem.lookup (get_list h1.isList (by rw [← h2.length]; exact hj) hw (by rw [← h2.length]; exact hz) (hP _ _ σ s hr R Step.refl q))
 ·rename_i i
  cases va; cases vb
  obtain ⟨j, n, h0, hj, hv, q⟩ := q
  obtain ⟨ws, h1, h2, h3⟩ := O.script
  obtain ⟨t, ht⟩ := h3 j n hv
  have hl : s.heap.IsList C.aS ws := h1.at fun o e => R.base _ _ e
  have hl' : s.heap.IsList C.aS ws.toList.toArray := by simpa using hl
  exact item_tree hsl hl.typeIs slot_list_getitem.lookup (get_list hl' (by rw [h2]; exact hj) ht (by rw [h2]; exact Nat.le_trans O.few (by decide)) (hP _ _ σ s (.int n t) R Step.refl q))
 ·rename_i vs i
  cases vb
  cases va with
  | @tup _ at' ws ht hvs =>
   obtain ⟨hz, j, v, hj, hv, q⟩ := q
   obtain ⟨w, hw, hr⟩ := hvs.get hv
   have hlt := idx_lt hj
   have htt : PyProof.Rows.IsTup s.heap at' ws.toArray := ht
   refine item_tree hsl ht.typeIs (PyProof.Rows.slot_tuple_getitem).lookup (PyProof.Rows.getItem_tuple htt (fits hlt.2.1 hlt.2.2 (Nat.le_of_lt_succ hz) (by decide)).1 (fits hlt.2.1 hlt.2.2 (Nat.le_of_lt_succ hz) (by decide)).2 (by rw [List.size_toArray, ← hvs.length]; exact idx_seq hj) (by simpa using hw) (hP _ _ σ s hr R Step.refl q))
noncomputable def clip (n : Nat) (lo hi : Option Int) : Nat × Nat := (lo.elim 0 (clipAt n), hi.elim n (clipAt n) - lo.elim 0 (clipAt n))
noncomputable def pyCut {α : Type} (l : List α) (lo hi : Option Int) : List α := (l.drop (clip l.length lo hi).1).take (clip l.length lo hi).2
noncomputable def opCut (ns : List Int) (lo hi : Option Int) : O1
 | .str x, σ, Q => x.length ≤ 16777216 ∧ Q (.str ⟨(pyCut x.cps.toList lo hi).toArray⟩) σ
 | .ref a, σ, Q => ∃ xs, σ a = some (.list xs) ∧ newL (pyCut xs lo hi) σ Q
 | .script, σ, Q => newL ((pyCut ns lo hi).map .int) σ Q
 | _, _, _ => False
structure HP (C : Cx) (sc : Scope) (k : Nat) (e : Option Expr) (T : Loc → View → (Option Int → View → Prop) → Prop) : Prop where
 run : ∀ (env : Env) (A : Around) (s : Shared) (m : Loc) (σ : View) (Q : Option Int → View → Prop) (P : Value → Shared → Prop) (E : Value → Shared → Prop),
  EnvOk env sc → AOk C A k → RelG C σ s → FrameRel C env m σ s.heap → T m σ Q →
  (∀ i p σ' s', i = Option.map Prod.fst p → RelG C σ' s' → Step no σ σ' s.heap s'.heap → Q i σ' → P (partValue p) s') →
  wpAny (model C.prog C.w) A (evalPart e env) P E s
noncomputable def pNone : Loc → View → (Option Int → View → Prop) → Prop := fun _ σ Q => Q Option.none σ
noncomputable def pSome (T : ET) : Loc → View → (Option Int → View → Prop) → Prop := fun m σ Q => T m σ fun v σ' => ∃ i, v = .int i ∧ Q (some i) σ'
theorem HP.none : HP C sc k Option.none pNone := ⟨fun env A s m σ Q P E en ao R F q hP => wpAny_pure (hP Option.none Option.none σ s rfl R Step.refl q)⟩
theorem HP.some {e : Expr} {T : ET} (he : HE C sc k e T) : HP C sc k (some e) (pSome T) := ⟨fun env A s m σ Q P E en ao R F q hP =>
 he.run env A s m σ _ _ E en ao R F q fun v w σ' s' hv R' S' q' => by
  obtain ⟨i, rfl, q'⟩ := q'
  cases hv with
  | int i t => exact hP (Option.some i) (Option.some (i, t)) σ' s' rfl R' S' q'⟩
theorem cut_len {α : Type} (l : List α) (lo hi : Option Int) : (pyCut l lo hi).length ≤ l.length := by
 unfold pyCut; rw [List.length_take, List.length_drop]; exact Nat.le_trans (Nat.min_le_right _ _) (Nat.sub_le _ _)
theorem clip_le (n : Nat) (i : Int) : clipAt n i ≤ n := Int.ofNat_le.mp (by rw [clipAt_cast]; exact Int.max_le.mpr ⟨Int.natCast_nonneg _, Int.min_le_right _ _⟩)
theorem cut_all {α : Type} {l : List α} {lo hi : Option Int} (h : (clip l.length lo hi).2 = l.length) : pyCut l lo hi = l :=
 ((List.take_sublist _ _).trans (List.drop_sublist _ _)).eq_of_length (by
  rw [List.length_take, List.length_drop, h]
  refine Nat.min_eq_left (Nat.le_trans (Nat.le_of_eq h.symm) (Nat.sub_le_sub_right ?_ _))
  cases hi with
  | none => exact Nat.le_refl _
  | some i => exact clip_le _ i)
theorem VRels.cut {aS : Addr} {h : Heap} {vs : List V} {ws : List Value} (x : VRels aS h vs ws) (a b : Nat) : VRels aS h ((vs.drop a).take b) ((ws.drop a).take b) := by
 have hd : ∀ (a : Nat) {vs : List V} {ws : List Value}, VRels aS h vs ws → VRels aS h (vs.drop a) (ws.drop a) := by
  intro a
  induction a with
  | zero => intro vs ws x; exact x
  | succ a ih => intro vs ws x; cases x with
   | nil => exact .nil
   | cons _ r => exact ih r
 have ht : ∀ (b : Nat) {vs : List V} {ws : List Value}, VRels aS h vs ws → VRels aS h (vs.take b) (ws.take b) := by
  intro b
  induction b with
  | zero => intro vs ws x; exact .nil
  | succ b ih => intro vs ws x; cases x with
   | nil => exact .nil
   | cons a r => exact .cons a (ih r)
 exact ht b (hd a x)
theorem ind_one (n : Nat) (lo hi : Option Int) : Builtin.Str.strSliceIndices lo hi 1 n = sliceRange ((lo.elim 0 (clipAt n) : Nat) : Int) ((hi.elim n (clipAt n) : Nat) : Int) 1 := by
 unfold Builtin.Str.strSliceIndices
 cases lo <;> cases hi <;> simp [clipAt_cast]
theorem strCut (x : Str) (lo hi : Option Int) : ((Builtin.Str.strSliceIndices lo hi 1 x.length).filterMap (x.cps[·]?)) = pyCut x.cps.toList lo hi := by
 rw [ind_one, sliceRange_one, pick_run]
 unfold pyCut clip
 simp [Str.length]
noncomputable def eCut (ns : List Int) (T : ET) (L U : Loc → View → (Option Int → View → Prop) → Prop) : ET := fun m σ Q => T m σ fun v σ₁ => L m σ₁ fun lo σ₂ => U m σ₂ fun hi σ₃ => opCut ns lo hi v σ₃ Q
theorem HE.cut (O : C.Ok) {value : Expr} {lower upper : Option Expr} {p pos : Pos} {T : ET} {L U : Loc → View → (Option Int → View → Prop) → Prop} (hv : HE C sc k value T) (hl : HP C sc k lower L) (hu : HP C sc k upper U) :
  HE C sc k (.Subscript value (.Slice lower upper Option.none p) pos) (eCut C.ns T L U) := by
 refine ⟨?_⟩; intro env A s m σ Q P E en ao R F q hP
 rw [eval_Subscript]
 refine wpAny_bind (hv.run env A s m σ _ _ E en ao R F q fun v w σ₁ s₁ va R₁ S₁ q₁ => wpAny_bind (wpAny_holding (wpAny_Slice ?_)))
 have F₁ := F.step R S₁
 refine hl.run env A s₁ m σ₁ _ _ E en ao R₁ F₁ q₁ fun lo pl σ₂ s₂ el R₂ S₂ q₂ => ?_
 refine hu.run env A s₂ m σ₂ _ _ E en ao R₂ (F₁.step R₁ S₂) q₂ fun hi pu σ₃ s₃ eu R₃ S₃ q₃ => ?_
 rw [evalPart_none]
 refine wpAny_pure (wpAny_bind (wpAny_standAt ?_))
 have va₃ := (va.keep (S₂.tupsN R₁)).keep (S₃.tupsN R₂)
 have S₁₃ := (S₁.trans S₂).trans S₃
 have Rs : RelG C σ₃ { s₃ with heap := s₃.heap.push { cls := .type "slice", data := .fields #[partValue pl, partValue pu, .none] } } := R₃.grow (tk := s₃.toks) push_old
 have part : ∀ p : Option (Int × Tok), IsPart (partValue p) (p.map (·.1)) := fun p => by
  cases p with
  | none => exact .none
  | some x => exact .int _ _
 have go : ∀ {T id : String} {o : Value} {s : Shared}, s.TypeIs o T → typeLookup (.type T) "__getitem__" = pure (some (.builtin id)) → ∀ {i : Value}, wpAny (model C.prog C.w) A (getItem o i) P E s →
   wpAny (model C.prog C.w) A ((getitemInPython o >>= fun b => subscripted (.Slice lower upper Option.none p) b o i) >>= fun r => letTemporaryGo value o r >>= fun _ => pure r) P E s := fun {T id o s} hT hl {i} hg => by
  refine wpAny_bind (wpAny_bind ?_)
  rw [getitemInPython_of_ne hT.not_modules]
  refine wpAny_bind (wpAny_specialOf hT hl (wpAny_pure ?_))
  show wpAny _ A (operate [i, o] (getItem o i)) _ _ _
  exact wpAny_operating (wpAny_mono hg (fun r s' hr => wpAny_bind (wpAny_letTemporaryGo (wpAny_pure hr))) fun _ _ x => x)
 have fin : ∀ {o i : Value} {s : Shared}, wpAny (model C.prog C.w) A ((getitemInPython o >>= fun b => subscripted (.Slice lower upper Option.none p) b o i) >>= fun r => letTemporaryGo value o r >>= fun _ => pure r) P E s →
   wpAny (model C.prog C.w) A (getitemInPython o >>= fun b => subscripted (.Slice lower upper Option.none p) b o i >>= fun r => letTemporaryGo value o r >>= fun _ => pure r) P E s := fun h => by rwa [bind_assoc] at h
 have pick : ∀ (ws : List Value), slicePick ws.toArray lo hi Option.none = (pyCut ws lo hi).toArray := fun ws => by
  rw [slicePick_plain]; simp [pyCut, clip]
 have lists : ∀ (a : Addr) (vs : List V) (ws : List Value), s₃.heap.IsList a ws.toArray → VRels C.aS s₃.heap vs ws → vs.length ≤ 16777216 → newL (pyCut vs lo hi) σ₃ Q →
   wpAny (model C.prog C.w) A (getitemInPython (.ref a) >>= fun b => subscripted (.Slice lower upper Option.none p) b (.ref a) (.ref s₃.heap.objs.size) >>= fun r => letTemporaryGo value (.ref a) r >>= fun _ => pure r) P E { s₃ with heap := s₃.heap.push { cls := .type "slice", data := .fields #[partValue pl, partValue pu, .none] } } := fun a vs ws hla hvs hz qn => by
  refine fin (go (hla.push _).typeIs slot_list_getitem.lookup (wpAny_getItem_list_slice (lo := lo) (hi := hi) (st := Option.none) (hla.push _) (Heap.IsSliceOf.new ..) (el ▸ part pl) (eu ▸ part pu) .none (by simp) ?_ (by rw [List.size_toArray, ← hvs.length, sizeLine_eq]; exact hz)))
  rw [pick]
  have hn := size_none (s₃.heap.push { cls := .type "slice", data := .fields #[partValue pl, partValue pu, .none] })
  refine hP _ _ (upd σ₃ _ (.list (pyCut vs lo hi))) _ (.ref _) (Rs.add (tk := s₃.toks) push_old hn ⟨Nat.le_trans (cut_len vs lo hi) hz, pyCut ws lo hi, ⟨_, Heap.get?_push_size _ rfl⟩, ?_⟩) ((S₁₃.trans .push).trans .addPush) (qn _ (Rs.freshNone hn))
  have := (hvs.cut (clip vs.length lo hi).1 (clip vs.length lo hi).2).keep (h' := (s₃.heap.push { cls := .type "slice", data := .fields #[partValue pl, partValue pu, .none] }).push { cls := .type "list", data := .seq (pyCut ws lo hi).toArray }) fun _ _ e _ => push_old _ _ (push_old _ _ e)
  have e2 : pyCut ws lo hi = (ws.drop (clip vs.length lo hi).1).take (clip vs.length lo hi).2 := by unfold pyCut; rw [hvs.length]
  rw [← e2] at this
  exact this
 show wpAny _ A (getitemInPython w >>= fun b => subscripted (.Slice lower upper Option.none p) b w (.ref s₃.heap.objs.size) >>= fun r => letTemporaryGo value w r >>= fun _ => pure r) P E _
 cases va₃ with
 | none => exact q₃.elim
 | bool => exact q₃.elim
 | int => exact q₃.elim
 | ty => exact q₃.elim
 | tup => exact q₃.elim
 | script =>
  obtain ⟨ws, h1, h2, h3⟩ := O.script
  have hl : s₃.heap.IsList C.aS ws.toList.toArray := by simpa using (h1.at fun o e => R₃.base _ _ e)
  have hvs : VRels C.aS s₃.heap (C.ns.map .int) ws.toList := by
   have : ∀ (ns : List Int) (l : List Value), l.length = ns.length → (∀ (i : Nat) n, ns[i]? = Option.some n → ∃ t, l[i]? = Option.some (Value.int n t)) → VRels C.aS s₃.heap (ns.map .int) l := by
    intro ns
    induction ns with
    | nil => intro l hl _; cases l with | nil => exact .nil | cons => simp at hl
    | cons n r ih => intro l hl h; cases l with
     | nil => simp at hl
     | cons w r' =>
      obtain ⟨t, ht⟩ := h 0 n rfl
      simp at ht; subst ht
      exact .cons (.int n t) (ih r' (by simpa using hl) fun i n hi => h (i + 1) n (by simpa using hi))
   exact this _ _ h2 h3
  refine lists _ _ _ hl hvs (by have := O.few; simp; exact Nat.le_trans this (by decide)) ?_
  have e : pyCut (C.ns.map V.int) lo hi = (pyCut C.ns lo hi).map .int := by unfold pyCut; simp [List.map_take, List.map_drop]
  rw [e]; exact q₃
 | ref a =>
  obtain ⟨xs, hx, qn⟩ := q₃
  obtain ⟨hz, ws, h1, h2⟩ := R₃.view a _ hx
  exact lists a xs ws h1.isList h2 hz qn
 | str x t =>
  obtain ⟨hx, q₃⟩ := q₃
  refine fin (go (typeIs_str _ x t) _root_.PySem.F.slot_str_getitem.lookup (wpAny_getItem_str_slice (l := pl) (u := pu) (st := Option.none) ⟨_, Heap.get?_push_size _ rfl, rfl, rfl⟩ rfl ?_))
  have e1 : slicePicked x pl pu Option.none = Builtin.Str.strSliceIndices lo hi 1 x.length := by unfold slicePicked; rw [el, eu]; rfl
  have e2 := strCut x lo hi
  unfold sliceMade
  rw [e1, e2]
  have res : ∀ t' tk, P (.str ⟨(pyCut x.cps.toList lo hi).toArray⟩ t') { s₃ with heap := s₃.heap.push { cls := .type "slice", data := .fields #[partValue pl, partValue pu, .none] }, toks := tk } := fun t' tk =>
   hP _ _ σ₃ _ (.str _ _) (R₃.grow push_old) (S₁₃.trans .push) q₃
  split
  ·rename_i hc
   have hlen : (Builtin.Str.strSliceIndices lo hi 1 x.length).length = x.length := by simpa using hc
   have : (⟨(pyCut x.cps.toList lo hi).toArray⟩ : Str) = x := by
    have hh : (pyCut x.cps.toList lo hi) = x.cps.toList := by
     rw [ind_one, sliceRange_one] at hlen
     refine cut_all ?_
     have hxl : x.cps.toList.length = x.length := Array.length_toList
     rw [hxl]
     simpa [clip] using hlen
    rw [hh]
   have r := res t s₃.toks
   rw [this] at r
   exact r
  ·refine ⟨?_, res _ _⟩
   show (pyCut x.cps.toList lo hi).toArray.size ≤ sizeLine
   rw [List.size_toArray, sizeLine_eq]
   exact Nat.le_trans (cut_len x.cps.toList lo hi) (by rw [Array.length_toList]; exact hx)
end
end Mine
end
noncomputable section
namespace Mine
open PySem
section
variable {C : Cx} {sc : Scope} {k : Nat}
noncomputable def eMeth (ty : V → View → Prop) (op : Spec) (T : ET) (L : LT) : ET := fun m σ Q => T m σ fun o σ₁ => ty o σ₁ ∧ L m σ₁ fun vs σ₂ => op (o :: vs) σ₂ Q
noncomputable def TyOk (C : Cx) (T : String) (ty : V → View → Prop) : Prop := ∀ (o : V) (wo : Value) (σ : View) (s : Shared), RelG C σ s → VRel C.aS s.heap o wo → ty o σ → s.TypeIs wo T ∧ ∀ a, wo = .ref a → ∃ ob, s.heap.get? a = some ob ∧ ob.dict = Option.none
theorem HE.meth {T id : String} {name : Str} {o : Expr} {apos pos : Pos} {es : List Expr} {ty : V → View → Prop} {op : Spec} {To : ET} {L : LT} (hty : TyOk C T ty) (pa : PlainAttrs T) (slot : Slot T name id) (hmd : typeOf (.builtin id) = pure (.type "method_descriptor"))
  (hop : OpN C k (fun ws => PySem.call (.builtin id) ws) op) (ho : HE C sc k o To) (hl : HL C sc k es L) (hp : plainArgs es = true)
  (hbase : ∀ env, attributeBase o name env (eval o env) = eval o env) (hline : (apos.endLine == pos.line) = true) (hfew : es.length < 30) : HE C sc k (.Call (.Attribute o name apos) es [] pos) (eMeth ty op To L) := by
 refine ⟨?_⟩; intro env A s m σ Q P E en ao R F q hP
 have hall : (backTo pos (starEach es env)).all (fun x => !x.1) = true := by
  have := starEach_any (env := env) (pos := pos) hp
  rw [List.any_eq_false] at this
  rw [List.all_eq_true]
  intro x hx
  have := this x hx
  simp at this
  simp [this]
 refine wpAny_Call_method (hbase env) (by rw [hall]; exact decide_eq_true hfew) hline pa slot hmd ?_
 refine ho.run env A s m σ _ _ E en ao R F q fun v w σ₁ s₁ hv R₁ S₁ q₁ => ?_
 obtain ⟨h1, h2⟩ := hty v w σ₁ s₁ R₁ hv q₁.1
 refine ⟨h1, h2, Calls.callWith_builtin (starEach_any hp) (evalArgs_of hp (hl.run env A s₁ m σ₁ pos _ _ E en ao R₁ (F.step R S₁) q₁.2 fun vs ws σ₂ s₂ hvs R₂ S₂ q₂ => ?_))⟩
 exact hop A s₂ σ₂ (v :: vs) (w :: ws) Q P E ao R₂ (.cons (hv.keep (S₂.tupsN R₁)) hvs) q₂ fun v' w' σ' s' hv' R' S' q' => hP v' w' σ' s' hv' R' ((S₁.trans S₂).trans S') q'
noncomputable def tyStr : V → View → Prop
 | .str _, _ => True
 | _, _ => False
theorem tyStr_ok : TyOk C "str" tyStr := by
 intro o wo σ s R hv h
 cases hv <;> first | exact h.elim | skip
 exact ⟨typeIs_str _ _ _, fun a e => by cases e⟩
noncomputable def tyList : V → View → Prop
 | .ref a, σ => ∃ xs, σ a = some (.list xs)
 | _, _ => False
theorem tyList_ok : TyOk C "list" tyList := by
 intro o wo σ s R hv h
 cases hv <;> first | exact h.elim | skip
 obtain ⟨xs, hx⟩ := h
 obtain ⟨_, ws, h1, h2⟩ := R.view _ _ hx
 refine ⟨h1.isList.typeIs, fun b e => ?_⟩
 cases e
 obtain ⟨n, hn⟩ := h1
 exact ⟨_, hn, rfl⟩
theorem VRels.inv1 {aS : Addr} {h : Heap} {a : V} {ws : List Value} (x : VRels aS h [a] ws) : ∃ wa, ws = [wa] ∧ VRel aS h a wa := by
 cases x with
 | cons h1 r => cases r; exact ⟨_, rfl, h1⟩
theorem VRels.inv2 {aS : Addr} {h : Heap} {a b : V} {ws : List Value} (x : VRels aS h [a, b] ws) : ∃ wa wb, ws = [wa, wb] ∧ VRel aS h a wa ∧ VRel aS h b wb := by
 cases x with
 | cons h1 r => obtain ⟨wb, rfl, h2⟩ := r.inv1; exact ⟨_, _, rfl, h1, h2⟩
noncomputable def spStarts : Spec := fun vs σ Q => onSS vs fun x y => Q (.bool (Txt.startswith x y)) σ
theorem ok_starts : OpN C k (fun ws => PySem.call (.builtin "str.startswith") ws) spStarts := by
 intro A s σ vs ws Q P E ao R hv q hP
 replace q := onSS.elim q
 obtain ⟨n0, n1, rfl, q⟩ := q
 ·obtain ⟨wa, wb, rfl, h1, h2⟩ := hv.inv2
  cases h1; cases h2
  exact SC.startswith (hP _ _ σ s (.bool _) R Step.refl q)
theorem strs_of {aS : Addr} {h : Heap} : ∀ {ys : List Str} {ws : List Value}, VRels aS h (ys.map .str) ws → ∃ l : List (Str × Tok), ws = strValues l ∧ l.map (·.1) = ys
 | [], _, r => ⟨[], r.inv0, rfl⟩
 | y :: ys, _, r => by
  obtain ⟨w, ws, rfl, h1, r2⟩ := r.invC
  obtain ⟨t, rfl⟩ := h1.invStr
  obtain ⟨l, rfl, rfl⟩ := strs_of r2
  exact ⟨(y, t) :: l, rfl, rfl⟩
theorem strs_rel {aS : Addr} {h : Heap} : ∀ (l : List (Str × Tok)), VRels aS h ((l.map (·.1)).map .str) (strValues l)
 | [] => .nil
 | (x, t) :: l => .cons (.str x t) (strs_rel l)
noncomputable def spJoin : Spec := fun vs σ Q => onSR vs fun x a => ∃ ys : List Str, σ a = some (.list (ys.map .str)) ∧ (ys.map (·.length)).sum + ys.length * x.length ≤ 16777216 ∧ Q (.str (Str.join x ys)) σ
theorem foldl_len (x : Str) : ∀ (l : List Str) (n : Nat), l.foldl (fun a y => a + y.length + x.length) n = n + (l.map (·.length)).sum + l.length * x.length
 | [], n => by simp
 | y :: r, n => by
  rw [List.foldl_cons, foldl_len x r]
  simp [Nat.add_mul]; exact Nat.le_antisymm (Nat.le_of_not_lt fun hg => lin [n, (y.length), (x.length), ((List.map (fun x => x.length) r).sum), (r.length * x.length)] [(1, (.a (.a (.a (.v 0) (.a (.v 1) (.v 3))) (.a (.v 4) (.v 2))) (.n 1)), (.a (.a (.a (.a (.v 0) (.v 1)) (.v 2)) (.v 3)) (.v 4)))] rfl hg) (Nat.le_of_not_lt fun hg => lin [n, (y.length), (x.length), ((List.map (fun x => x.length) r).sum), (r.length * x.length)] [(1, (.a (.a (.a (.a (.a (.v 0) (.v 1)) (.v 2)) (.v 3)) (.v 4)) (.n 1)), (.a (.a (.v 0) (.a (.v 1) (.v 3))) (.a (.v 4) (.v 2))))] rfl hg)
theorem glued_join (x : Str) : ∀ ys : List Str, Builtin.Str.glued x ys = Str.join x ys := by
 have key : ∀ (r : List Str) (acc : Array Nat), (⟨r.foldl (fun acc p => acc ++ x.cps ++ p.cps) acc⟩ : Str) = match r with | [] => ⟨acc⟩ | _ => (⟨acc⟩ : Str) ++ x ++ Str.join x r := by
  intro r
  induction r with
  | nil => intro acc; rfl
  | cons y r ih =>
   intro acc
   rw [List.foldl_cons, ih]
   cases r with
   | nil => rfl
   | cons z r =>
    show (⟨acc ++ x.cps ++ y.cps⟩ : Str) ++ x ++ Str.join x (z :: r) = (⟨acc⟩ : Str) ++ x ++ (y ++ x ++ Str.join x (z :: r))
    have : ∀ a b : Str, a ++ b = ⟨a.cps ++ b.cps⟩ := fun _ _ => rfl
    simp only [this, Array.append_assoc]
 intro ys
 cases ys with
 | nil => rfl
 | cons y r =>
  unfold Builtin.Str.glued
  simp only [List.drop_one, List.tail_cons, List.headD_cons]
  rw [key]
  cases r with
  | nil => rfl
  | cons z r => rfl
theorem ok_join : OpN C k (fun ws => PySem.call (.builtin "str.join") ws) spJoin := by
 intro A s σ vs ws Q P E ao R hv q hP
 replace q := onSR.elim q
 obtain ⟨x, a, rfl, q⟩ := q
 ·obtain ⟨wa, wb, rfl, h1, h2⟩ := hv.inv2
  cases h1; cases h2
  obtain ⟨ys, hy, hl, q⟩ := q
  obtain ⟨_, ws, h3, h4⟩ := R.view a _ hy
  obtain ⟨l, rfl, e⟩ := strs_of h4
  refine SC.join (texts := ys) h3.isList e ?_ fun t' tk => ?_
  ·unfold JoinOk Builtin.Str.tooLong
   rw [← Array.foldl_toList, foldl_len]
   rw [sizeLine_eq]
   simp
   exact hl
  ·have : Txt.join x ys = Str.join x ys := glued_join x ys
   rw [this]
   exact hP _ _ σ _ (.str _ _) (R.tok _) Step.refl q
noncomputable def spSplit : Spec := fun vs σ Q => onSS vs fun x y => (y.length = 1 ∧ x.length ≤ 1048576) ∧ newL ((Txt.split x y).map .str) σ Q
theorem push_list {A : Around} {s : Shared} {σ : View} {xs : List V} {ws : List Value} {tk : Nat} {Q : V → View → Prop} {P : Value → Shared → Prop} (R : RelG C σ s) (hv : VRels C.aS s.heap xs ws) (hz : xs.length ≤ 16777216) (q : newL xs σ Q) (hP : Aft C σ s Q P) :
  P (.ref s.heap.objs.size) { s with heap := s.heap.push { cls := .type "list", data := .seq ws.toArray }, toks := tk } := by
 have hn := size_none s.heap
 exact hP _ _ (upd σ s.heap.objs.size (.list xs)) _ (.ref _) (R.add (tk := tk) push_old hn ⟨hz, ws, ⟨_, Heap.get?_push_size _ rfl⟩, hv.keep fun _ _ e _ => push_old _ _ e⟩) .addPush (q _ (R.freshNone hn))
theorem ok_split : OpN C k (fun ws => PySem.call (.builtin "str.split") ws) spSplit := by
 intro A s σ vs ws Q P E ao R hv q hP
 replace q := onSS.elim q
 obtain ⟨x, y, rfl, q⟩ := q
 ·obtain ⟨wa, wb, rfl, h1, h2⟩ := hv.inv2
  cases h1 with | str _ t => cases h2 with | str _ u =>
  obtain ⟨⟨hy, hx⟩, q⟩ := q
  have hy0 : (y.length == 0) = false := by simp [hy]
  have hsz : (Builtin.Str.partsBetween x (Builtin.Str.occurrences x y 0 x.length (x.length + 1)) y.length).length ≤ 1048578 := by
   rw [length_partsBetween]
   have := StrLaws.occ_length_le x y 0 x.length (x.length + 1)
   exact Nat.succ_le_succ (Nat.le_trans this (Nat.succ_le_succ hx))
  have single : Txt.split x y = [x] → P (.ref s.heap.objs.size) { s with heap := s.heap.push { cls := .type "list", data := .seq [Value.str x t].toArray } } := fun e => by
   rw [e] at q
   exact push_list (A := A) (tk := s.toks) R (.cons (.str x t) .nil) (by simp) q hP
  cases h1 : (decide (x.length < y.length) || decide (Builtin.Str.strKind x < Builtin.Str.strKind y))
  ·cases hf : (Builtin.Str.occurrences x y 0 x.length (x.length + 1)).isEmpty
   ·refine call_meets _root_.PySem.F.slot_str_split (typeIs_str _ _ _) _root_.PySem.F.entry_str_split (_root_.PySem.F.args_str_split_2 _ _) (meets_str_split_sep x y t u h1 hy0 hf (by rw [sizeLine_eq]; exact Nat.le_trans hx (by decide)) (by rw [sizeLine_eq]; exact Nat.le_trans hsz (by decide))) ?_
    have e : Txt.split x y = Builtin.Str.partsBetween x (Builtin.Str.occurrences x y 0 x.length (x.length + 1)) y.length := by unfold Txt.split; rw [h1, hf]; rfl
    rw [e] at q
    show wants P E _ { s with toks := _, heap := s.heap.push { cls := .type "list", data := .seq (strsFrom s.toks (Builtin.Str.partsBetween x (Builtin.Str.occurrences x y 0 x.length (x.length + 1)) y.length)).toArray } }
    rw [strsFrom_eq]
    refine push_list (A := A) R ?_ (by rw [List.length_map]; exact Nat.le_trans hsz (by decide)) q hP
    have := strs_rel (aS := C.aS) (h := s.heap) (numbered s.toks (Builtin.Str.partsBetween x (Builtin.Str.occurrences x y 0 x.length (x.length + 1)) y.length))
    rw [numbered_texts] at this
    exact this
   ·exact call_meets _root_.PySem.F.slot_str_split (typeIs_str _ _ _) _root_.PySem.F.entry_str_split (_root_.PySem.F.args_str_split_2 _ _) (meets_str_split_not_found x y t u h1 hy0 hf) (single (by unfold Txt.split; rw [h1, hf]; rfl))
  ·exact call_meets _root_.PySem.F.slot_str_split (typeIs_str _ _ _) _root_.PySem.F.entry_str_split (_root_.PySem.F.args_str_split_2 _ _) (meets_str_split_cannot_occur x y t u h1) (single (by unfold Txt.split; rw [h1]; rfl))
noncomputable def lenRef (σ : View) (Q : V → View → Prop) : Option AObj → Prop
 | some (.list xs) => Q (.int xs.length) σ
 | some (.dict kvs _) => Q (.int kvs.length) σ
 | some (.idict kvs _) => Q (.int kvs.length) σ
 | _ => False
noncomputable def spLen (ns : List Int) : Spec
 | [.str x], σ, Q => x.length ≤ 16777216 ∧ Q (.int x.length) σ
 | [.ref a], σ, Q => lenRef σ Q (σ a)
 | [.tup vs], σ, Q => vs.length ≤ 16777216 ∧ Q (.int vs.length) σ
 | [.script], σ, Q => Q (.int ns.length) σ
 | _, _, _ => False
theorem big63 {n : Nat} (h : n ≤ 16777216) : (n : Int) < 2 ^ 63 := Int.lt_of_le_of_lt (Int.ofNat_le.mpr h) (by decide)
theorem ok_len (O : C.Ok) : OpN C k (fun ws => PySem.call (.builtin "len") ws) (spLen C.ns) := by
 intro A s σ vs ws Q P E ao R hv q hP
 cases vs with
 | nil => exact (show False from q).elim
 | cons v r =>
 cases r with
 | cons u r => cases v <;> exact (show False from q).elim
 | nil =>
 obtain ⟨wa, rfl, h1⟩ := hv.inv1
 have fin : ∀ (n : Int) (t tk : Tok), Q (.int n) σ → P (.int n t) { s with toks := tk } := fun n t tk q => hP _ _ σ _ (.int _ _) (R.tok _) Step.refl q
 clear hP
 cases h1 with
 | str x t => exact _root_.PySem.P.len_str (Int.not_le.mpr (big63 q.1)) (fin _ _ _ q.2)
 | ref a =>
  have q : lenRef σ Q (σ a) := q
  cases hx : σ a with
  | none => rw [hx] at q; exact q.elim
  | some o =>
   rw [hx] at q
   cases o with
   | list xs =>
    obtain ⟨hz, ws, h1, h2⟩ := R.view _ _ hx
    have e := h2.length
    refine Calls.call_len_list h1.isList (by rw [List.size_toArray, ← e]; exact big63 hz) ?_
    rw [List.size_toArray, ← e]
    exact fin _ _ _ q
   | dict kvs ep =>
    obtain ⟨hz, ws, h1, h2⟩ := R.view _ _ hx
    have e := h2.length
    refine call_len_dict (O.noMods (R.apart _ (by rw [hx]; simp))) h1.dictOf (by rw [← e]; exact big63 hz) ?_
    rw [← e]
    exact fin _ _ _ q
   | idict kvs ep =>
    obtain ⟨hz, ws, h1, h2⟩ := R.view _ _ hx
    have e := h2.length
    refine call_len_dict (O.noMods (R.apart _ (by rw [hx]; simp))) h1.dictOf (by rw [← e]; exact big63 hz) ?_
    rw [← e]
    exact fin _ _ _ q
   | _ => exact (show False from q).elim
 | @tup vs a ws ht hvs =>
  have e := hvs.length
  refine PyProof.Rows.len_tuple (show PyProof.Rows.IsTup s.heap a ws.toArray from ht) (by rw [List.size_toArray, ← e]; exact big63 q.1) ?_
  rw [List.size_toArray, ← e]
  exact fin _ _ _ q.2
 | script =>
  obtain ⟨ws, h1, h2, h3⟩ := O.script
  have hl : s.heap.IsList C.aS ws := h1.at fun o e => R.base _ _ e
  have e : (ws.size : Int) = C.ns.length := by rw [← h2]; simp
  refine Calls.call_len_list hl (by rw [e]; exact big63 (Nat.le_trans O.few (by decide))) ?_
  rw [e]
  exact fin _ _ _ q
 | _ => exact (show False from q).elim
noncomputable def isi : V → View → String → Option Bool
 | .bool _, _, T => if T = "bool" then some true else if T = "int" then some true else if T ∈ ["str", "list", "dict", "tuple"] then some false else Option.none
 | .int _, _, T => if T = "int" then some true else if T ∈ ["bool", "str", "list", "dict", "tuple"] then some false else Option.none
 | .str _, _, T => if T = "str" then some true else if T ∈ ["bool", "int", "list", "dict", "tuple"] then some false else Option.none
 | .tup _, _, T => if T = "tuple" then some true else if T ∈ ["bool", "int", "list", "dict", "str"] then some false else Option.none
 | .ref a, σ, T => match σ a with
  | some (.list _) => if T = "list" then some true else if T ∈ ["bool", "int", "tuple", "dict", "str"] then some false else Option.none
  | some (.dict _ _) => if T = "dict" then some true else if T ∈ ["bool", "int", "tuple", "list", "str"] then some false else Option.none
  | _ => Option.none
 | _, _, _ => Option.none
noncomputable def spIsi : Spec := fun vs σ Q => onVT vs fun v T => ∃ r, isi v σ T = some r ∧ Q (.bool r) σ
theorem all5 {M : String → Prop} {a b c d e : String} (h1 : M a) (h2 : M b) (h3 : M c) (h4 : M d) (h5 : M e) : ∀ T ∈ [a, b, c, d, e], M T := by
 intro T h
 simp only [List.mem_cons, List.not_mem_nil, or_false] at h
 rcases h with rfl | rfl | rfl | rfl | rfl <;> assumption
theorem all4 {M : String → Prop} {a b c d : String} (h1 : M a) (h2 : M b) (h3 : M c) (h4 : M d) : ∀ T ∈ [a, b, c, d], M T := by
 intro T h
 simp only [List.mem_cons, List.not_mem_nil, or_false] at h
 rcases h with rfl | rfl | rfl | rfl <;> assumption
theorem isi_kind {M : String → Prop} {r : Bool} {T t : String} {l : List String} (hr : (if T = t then some true else if T ∈ l then some false else Option.none) = some r) (h1 : r = true → M t) (h2 : r = false → ∀ T ∈ l, M T) : M T := by
 split at hr
 ·rename_i e; cases hr; rw [e]; exact h1 rfl
 ·split at hr
  ·rename_i e; cases hr; exact h2 rfl T e
  ·cases hr
theorem isi_kind2 {M : String → Prop} {r : Bool} {T t u : String} {l : List String} (hr : (if T = t then some true else if T = u then some true else if T ∈ l then some false else Option.none) = some r) (h1 : r = true → M t) (h3 : r = true → M u) (h2 : r = false → ∀ T ∈ l, M T) : M T := by
 split at hr
 ·rename_i e; cases hr; rw [e]; exact h1 rfl
 ·exact isi_kind hr h3 h2
theorem ok_isi : OpN C k (fun ws => PySem.call (.builtin "isinstance") ws) spIsi := by
 intro A s σ vs ws Q P E ao R hv q hP
 replace q := onVT.elim q
 obtain ⟨v, T, rfl, q⟩ := q
 ·obtain ⟨wa, wb, rfl, h1, h2⟩ := hv.inv2
  cases h2
  obtain ⟨r, hr, q⟩ := q
  have p0 : r = true → P (.bool true) s := fun e => hP _ _ σ _ (.bool true) R Step.refl (e ▸ q)
  have p1 : r = false → P (.bool false) { s with toks := s.toks + 1 } := fun e => hP _ _ σ _ (.bool false) (R.tok _) Step.refl (e ▸ q)
  unfold isi at hr
  split at hr
  ·cases h1
   refine isi_kind2 (M := fun T => wpAny (model C.prog C.w) A (PySem.call (.builtin "isinstance") [_, .type T]) P E s) hr ?_ ?_ ?_
   ·intro e; exact IsiPair.bool_bool (p0 e)
   ·intro e; exact IsiPair.bool_int (p0 e)
   ·intro e; refine all4 ?_ ?_ ?_ ?_
    ·exact IsiPair.bool_str (p1 e)
    ·exact IsiPair.bool_list (p1 e)
    ·exact IsiPair.bool_dict (p1 e)
    ·exact IsiPair.bool_tuple (p1 e)
  ·cases h1
   refine isi_kind (M := fun T => wpAny (model C.prog C.w) A (PySem.call (.builtin "isinstance") [_, .type T]) P E s) hr ?_ ?_
   ·intro e; exact IsiPair.int_int (p0 e)
   ·intro e; refine all5 ?_ ?_ ?_ ?_ ?_
    ·exact IsiPair.int_bool (p1 e)
    ·exact IsiPair.int_str (p1 e)
    ·exact IsiPair.int_list (p1 e)
    ·exact IsiPair.int_dict (p1 e)
    ·exact IsiPair.int_tuple (p1 e)
  ·cases h1
   refine isi_kind (M := fun T => wpAny (model C.prog C.w) A (PySem.call (.builtin "isinstance") [_, .type T]) P E s) hr ?_ ?_
   ·intro e; exact IsiPair.str_str (p0 e)
   ·intro e; refine all5 ?_ ?_ ?_ ?_ ?_
    ·exact IsiPair.str_bool (p1 e)
    ·exact IsiPair.str_int (p1 e)
    ·exact IsiPair.str_list (p1 e)
    ·exact IsiPair.str_dict (p1 e)
    ·exact IsiPair.str_tuple (p1 e)
  ·cases h1 with
   | @tup _ a ws ht hvs =>
   obtain ⟨o, ho, hc, _⟩ := ht
   refine isi_kind (M := fun T => wpAny (model C.prog C.w) A (PySem.call (.builtin "isinstance") [_, .type T]) P E s) hr ?_ ?_
   ·intro e; exact IsiPair.tuple_tuple ho hc (p0 e)
   ·intro e; refine all5 ?_ ?_ ?_ ?_ ?_
    ·exact IsiPair.tuple_bool ho hc (p1 e)
    ·exact IsiPair.tuple_int ho hc (p1 e)
    ·exact IsiPair.tuple_list ho hc (p1 e)
    ·exact IsiPair.tuple_dict ho hc (p1 e)
    ·exact IsiPair.tuple_str ho hc (p1 e)
  ·cases h1
   split at hr
   ·rename_i hx
    obtain ⟨hz, ws, ⟨n, hn⟩, h2⟩ := R.view _ _ hx
    refine isi_kind (M := fun T => wpAny (model C.prog C.w) A (PySem.call (.builtin "isinstance") [_, .type T]) P E s) hr ?_ ?_
    ·intro e; exact IsiPair.list_list hn rfl (p0 e)
    ·intro e; refine all5 ?_ ?_ ?_ ?_ ?_
     ·exact IsiPair.list_bool hn rfl (p1 e)
     ·exact IsiPair.list_int hn rfl (p1 e)
     ·exact IsiPair.list_tuple hn rfl (p1 e)
     ·exact IsiPair.list_dict hn rfl (p1 e)
     ·exact IsiPair.list_str hn rfl (p1 e)
   ·rename_i hx
    obtain ⟨hz, ws, ⟨o, es, hn, hc, _⟩, h2⟩ := R.view _ _ hx
    refine isi_kind (M := fun T => wpAny (model C.prog C.w) A (PySem.call (.builtin "isinstance") [_, .type T]) P E s) hr ?_ ?_
    ·intro e; exact IsiPair.dict_dict hn hc.1 (p0 e)
    ·intro e; refine all5 ?_ ?_ ?_ ?_ ?_
     ·exact IsiPair.dict_bool hn hc.1 (p1 e)
     ·exact IsiPair.dict_int hn hc.1 (p1 e)
     ·exact IsiPair.dict_tuple hn hc.1 (p1 e)
     ·exact IsiPair.dict_list hn hc.1 (p1 e)
     ·exact IsiPair.dict_str hn hc.1 (p1 e)
   ·cases hr
  ·cases hr
noncomputable def spMin : Spec := fun vs σ Q => onII vs fun a b => Q (.int (min a b)) σ
noncomputable def spInt : Spec := fun vs σ Q => onB vs fun b => Q (.int (if b then 1 else 0)) σ
theorem ok_int : OpN C k (fun ws => PySem.call (.type "int") ws) spInt := by
 intro A s σ vs ws Q P E ao R hv q hP
 replace q := onB.elim q
 obtain ⟨n0, rfl, q⟩ := q
 ·obtain ⟨wa, rfl, h1⟩ := hv.inv1
  cases h1
  exact call_int_bool (hP _ _ σ _ (.int _ _) (R.tok _) Step.refl q)
noncomputable def spStr : Spec := fun vs σ Q => onI vs fun i => i.natAbs.log2 < 1920 ∧ Q (.str (Str.ofString (toString i))) σ
theorem ok_str : OpN C k (fun ws => PySem.call (.type "str") ws) spStr := by
 intro A s σ vs ws Q P E ao R hv q hP
 replace q := onI.elim q
 obtain ⟨n0, rfl, q⟩ := q
 ·obtain ⟨wa, rfl, h1⟩ := hv.inv1
  cases h1
  exact _root_.PySem.P.str_of_int q.1 (hP _ _ σ _ (.str _ _) (R.tok _) Step.refl q.2)
end
end Mine
end
noncomputable section
namespace Mine
open PySem
section
variable {C : Cx} {sc : Scope} {k : Nat}
noncomputable def opAdd : O2
 | .int x, .int y, σ, Q => Q (.int (x + y)) σ
 | .str x, .str y, σ, Q => x.length + y.length ≤ 16777216 ∧ Q (.str (x ++ y)) σ
 | .ref a, .ref b, σ, Q => ∃ xs ys, σ a = some (.list xs) ∧ σ b = some (.list ys) ∧ xs.length + ys.length ≤ 16777216 ∧ newL (xs ++ ys) σ Q
 | _, _, _, _ => False
theorem ok_add : Op2 C k (binaryOp .Add) opAdd := by
 intro A s σ a b wa wb Q P E ao R va vb q hP
 cases a <;> first | exact q.elim | skip
 all_goals (cases b <;> first | exact q.elim | skip)
 ·cases va; cases vb
  exact _root_.PySem.P.add_int (hP _ _ σ _ (.int _ _) (R.tok _) Step.refl q)
 ·cases va; cases vb
  exact SB.add (fun t' tk => hP _ _ σ _ (.str _ _) (R.tok _) Step.refl q.2) (by rw [sizeLine_eq]; exact q.1)
 ·rename_i a b
  cases va; cases vb
  obtain ⟨xs, ys, hx, hy, hz, q⟩ := q
  obtain ⟨_, ws, ⟨n, h1⟩, h2⟩ := R.view _ _ hx
  obtain ⟨_, us, ⟨n', h3⟩, h4⟩ := R.view _ _ hy
  have e1 := h2.length
  have e2 := h4.length
  have e : ws.toArray ++ us.toArray = (ws ++ us).toArray := by simp
  refine concat_meets ⟨_, h1, rfl⟩ ⟨_, h3, rfl⟩ noFill_list_add seq_list_add _root_.PySem.F.slot_list_add _root_.PySem.F.entry_list_add (_root_.PySem.F.args_list_add_2 _ _)
   (PyProof.Rows.list_addW a b ws.toArray us.toArray n n' Option.none Option.none #[] #[] (by rw [List.size_toArray, List.size_toArray, sizeLine_eq]; exact Nat.le_of_not_lt fun hg => lin [(xs.length), (ys.length), (ws.length), (us.length)] [(1, (.a (.v 0) (.v 1)), (.n 16777216)), (1, (.v 2), (.v 0)), (1, (.v 3), (.v 1)), (1, (.a (.n 16777216) (.n 1)), (.a (.v 2) (.v 3)))] rfl hz (Nat.le_of_eq (Eq.symm e1)) (Nat.le_of_eq (Eq.symm e2)) hg)) ⟨h1, h3, ?_⟩
  rw [e]
  exact push_list (A := A) (tk := s.toks) R (h2.append h4) (by rw [List.length_append]; exact hz) q hP
noncomputable def all2 (f : V → V → Option Bool) : List V → List V → Option Bool
 | [], [] => some true
 | a :: as, b :: bs => match f a b, all2 f as bs with
  | some x, some y => some (x && y)
  | _, _ => Option.none
 | _, _ => Option.none
theorem eqAt0 {A : Around} {s : Shared} {a b : V} {wa wb : Value} {r : Bool} (h : veq0 a b = some r) (va : VRel C.aS s.heap a wa) (vb : VRel C.aS s.heap b wb) : SeqAt.EqAt A s wa wb r := by
 revert va vb
 refine veq0.ind h (P := fun a b r => VRel C.aS s.heap a wa → VRel C.aS s.heap b wb → SeqAt.EqAt A s wa wb r) ?_ ?_ ?_ ?_ ?_ ?_ <;> intros <;> rename_i va vb <;> cases va <;> cases vb
 ·exact SeqAt.EqAt.same _
 ·exact SeqAt.EqAt.none_str _ _
 ·exact SeqAt.EqAt.str_none _ _
 ·exact SeqAt.EqAt.bool_bool _ _
 ·rw [← beq_dec]; exact SeqAt.EqAt.int_int _ _ _ _
 ·rw [← beq_dec]; exact SeqAt.EqAt.str_str _ _ _ _
theorem veq0_self {s : Shared} {a b : V} {w : Value} {r : Bool} (h : veq0 a b = some r) (va : VRel C.aS s.heap a w) (vb : VRel C.aS s.heap b w) : r = true := by
 revert va vb
 refine veq0.ind h (P := fun a b r => VRel C.aS s.heap a w → VRel C.aS s.heap b w → r = true) ?_ ?_ ?_ ?_ ?_ ?_ <;> intros <;> rename_i va vb <;> cases va <;> cases vb <;> simp
noncomputable def anyEq (x : V) : List V → Option Bool
 | [] => some false
 | y :: r => match veq0 y x, anyEq x r with
  | some a, some b => some (a || b)
  | _, _ => Option.none
noncomputable def eqv : Value → Value → Bool
 | .none, .none => true
 | .bool a, .bool b => a == b
 | .int a _, .int b _ => decide (a = b)
 | .str a _, .str b _ => decide (a = b)
 | _, _ => false
theorem eqv_of {s : Shared} {a b : V} {wa wb : Value} {r : Bool} (h : veq0 a b = some r) (va : VRel C.aS s.heap a wa) (vb : VRel C.aS s.heap b wb) : eqv wa wb = r := by
 revert va vb
 refine veq0.ind h (P := fun a b r => VRel C.aS s.heap a wa → VRel C.aS s.heap b wb → eqv wa wb = r) ?_ ?_ ?_ ?_ ?_ ?_ <;> intros <;> rename_i va vb <;> cases va <;> cases vb <;> rfl
theorem any_rel {s : Shared} {A : Around} {x : V} {wx : Value} (hx : VRel C.aS s.heap x wx) : ∀ {ys : List V} {ws : List Value} {r : Bool}, anyEq x ys = some r → VRels C.aS s.heap ys ws →
  (∀ w ∈ ws, SeqAt.EqAt A s w wx (eqv w wx)) ∧ ws.any (fun w => eqv w wx) = r
 | [], _, r, h, hn => by cases h; rw [hn.inv0]; exact ⟨fun _ hw => (nomatch hw), rfl⟩
 | y :: ys, _, r, h, hc => by
  obtain ⟨w, ws, rfl, hy, hr⟩ := hc.invC
  unfold anyEq at h
  split at h
  ·rename_i a b h1 h2
   cases h
   obtain ⟨i1, i2⟩ := any_rel (A := A) hx h2 hr
   refine ⟨fun w' hw => ?_, ?_⟩
   ·rcases List.mem_cons.mp hw with rfl | hw
    ·rw [eqv_of h1 hy hx]; exact eqAt0 h1 hy hx
    ·exact i1 w' hw
   ·rw [List.any_cons, i2, eqv_of h1 hy hx]
  ·cases h
noncomputable def opInL : O2
 | x, .ref a, σ, Q => ∃ ys r, σ a = some (.list ys) ∧ anyEq x ys = some r ∧ Q (.bool r) σ
 | x, .tup ys, σ, Q => ∃ r, anyEq x ys = some r ∧ Q (.bool r) σ
 | _, _, _, _ => False
noncomputable def opNotInL : O2
 | x, .ref a, σ, Q => ∃ ys r, σ a = some (.list ys) ∧ anyEq x ys = some r ∧ Q (.bool (!r)) σ
 | x, .tup ys, σ, Q => ∃ r, anyEq x ys = some r ∧ Q (.bool (!r)) σ
 | _, _, _, _ => False
theorem ok_notInL : Op2 C k (compareOp .NotIn) opNotInL := by
 intro A s σ a b wa wb Q P E ao R va vb q hP
 cases b <;> first | exact q.elim | skip
 ·cases vb
  obtain ⟨ys, r, hy, hr, q⟩ := q
  obtain ⟨_, ws, h1, h2⟩ := R.view _ _ hy
  obtain ⟨i1, i2⟩ := any_rel (A := A.in1) va hr h2
  refine SeqAt.notIn_listAt (fun w => eqv w wa) h1.isList (fun y hy => i1 y (by simpa using hy)) ?_
  rw [← Array.any_toList, i2]
  exact hP _ _ σ s (.bool (!r)) R Step.refl q
 ·cases vb with | @tup _ p ws ht hvs =>
  obtain ⟨r, hr, q⟩ := q
  obtain ⟨i1, i2⟩ := any_rel (A := A.in1) va hr hvs
  refine SeqAt.notIn_tupleAt (fun w => eqv w wa) ht (fun y hy => i1 y (by simpa using hy)) ?_
  rw [← Array.any_toList, i2]
  exact hP _ _ σ s (.bool (!r)) R Step.refl q
noncomputable def spAppend : Spec := fun vs σ Q => onRV vs fun a v => ∃ xs, σ a = some (.list xs) ∧ xs.length < 16777216 ∧ Q .none (upd σ a (.list (xs ++ [v])))
theorem ok_append : OpN C k (fun ws => PySem.call (.builtin "list.append") ws) spAppend := by
 intro A s σ vs ws Q P E ao R hv q hP
 replace q := onRV.elim q
 obtain ⟨a, v, rfl, q⟩ := q
 ·obtain ⟨wa, wb, rfl, h1, h2⟩ := hv.inv2
  cases h1
  obtain ⟨xs, hx, hz, q⟩ := q
  obtain ⟨_, ws, h3, h4⟩ := R.view _ _ hx
  have e := h4.length
  refine wpAny_list_append_plain h3 (fun h' hp' hs' => ?_) (by rw [List.size_toArray, ← e, sizeLine_eq]; (rename_i zz0; exact zz0))
  obtain ⟨n, hn⟩ := h3
  have kt : TupKeep s.heap h' := fun b o eb ht => hs'.extBut b o (by rintro rfl; rw [hn] at eb; cases eb; simp [IsT] at ht) eb
  refine hP .none .none (upd σ a (.list (xs ++ [v]))) _ .none (R.change (tk := s.toks) hx hs' ⟨by simp; exact Nat.le_of_lt_succ hz, ws ++ [wb], by simpa using hp', (h4.append (.cons h2 .nil)).keep kt⟩) (.change hx hs') q
noncomputable def sSetItem (op : V → V → V → View → (View → Prop) → Prop) (T To Ti : ET) : ST := fun m σ Q => T m σ fun v σ₁ => To m σ₁ fun o σ₂ => Ti m σ₂ fun i σ₃ => op o i v σ₃ fun σ₄ => Q .next m σ₄
noncomputable def OpSet (C : Cx) (k : Nat) (op : V → V → V → View → (View → Prop) → Prop) : Prop :=
 ∀ (A : Around) (s : Shared) (σ : View) (o i v : V) (wo wi w : Value) (Q : View → Prop) (P : Unit → Shared → Prop) (E : Value → Shared → Prop), AOk C A k → RelG C σ s → VRel C.aS s.heap o wo → VRel C.aS s.heap i wi → VRel C.aS s.heap v w → op o i v σ Q →
  (∀ σ' s', RelG C σ' s' → Step no σ σ' s.heap s'.heap → Q σ' → P () s') → wpAny (model C.prog C.w) A (setItem wo wi w) P E s
theorem HS1.setItem {o i value : Expr} {p pos : Pos} {op : V → V → V → View → (View → Prop) → Prop} {T To Ti : ET} (hop : OpSet C k op) (hv : HE C sc k value T) (ho : HE C sc k o To) (hi : HE C sc k i Ti)
  (hs : ∀ env, EnvOk env sc → swapsWith value (some (.Subscript o i p)) pos.line env = pure false) : HS1 C sc k (.Assign [.Subscript o i p] value pos) (sSetItem op T To Ti) := by
 refine ⟨?_⟩; intro env A s m σ Q P E en ao R F q hP
 refine wpAny_Assign_Subscript (hv.run env A s m σ _ _ E en ao R F q fun v w σ₁ s₁ v1 R₁ S₁ q₁ => ?_) (hs env en)
 have F₁ := F.step R S₁
 refine ho.run env A s₁ m σ₁ _ _ E en ao R₁ F₁ q₁ fun o wo σ₂ s₂ v2 R₂ S₂ q₂ => ?_
 have F₂ := F₁.step R₁ S₂
 refine hi.run env A s₂ m σ₂ _ _ E en ao R₂ F₂ q₂ fun i wi σ₃ s₃ v3 R₃ S₃ q₃ => ?_
 have F₃ := F₂.step R₂ S₃
 have k₂ := S₂.tupsN R₁
 have k₃ := S₃.tupsN R₂
 refine hop A s₃ σ₃ o i v wo wi w _ _ E ao R₃ (v2.keep k₃) v3 ((v1.keep k₂).keep k₃) q₃ fun σ₄ s₄ R₄ S₄ q₄ => ?_
 have S := ((S₁.trans S₂).trans S₃).trans S₄
 exact hP .next .next m σ₄ s₄ .next R₄ (F.step R S) S.own q₄
noncomputable def namesAt (l : List (String × Pos)) : List Expr := l.map fun p => Expr.Name (Str.ofString p.1) p.2
theorem each_cons (p : String × Pos) (l : List (String × Pos)) (env : Env) : assignEach (namesAt (p :: l)) env = (false, assign (.Name (Str.ofString p.1) p.2) env) :: assignEach (namesAt l) env := rfl
theorem each_len (env : Env) : ∀ (l : List (String × Pos)), (assignEach (namesAt l) env).length = l.length ∧ (assignEach (namesAt l) env).findIdx? (·.1) = Option.none
 | [] => ⟨rfl, rfl⟩
 | p :: r => by
  rw [each_cons]
  refine ⟨by simp [(each_len env r).1], ?_⟩
  rw [List.findIdx?_cons]
  simp [(each_len env r).2]
theorem assignNames {env : Env} {A : Around} {E : Value → Shared → Prop} (en : EnvOk env sc) (l : List (String × Pos)) : ∀ (vs : List V) (ws : List Value) (s : Shared) (m : Loc) (σ : View) (P : Unit → Shared → Prop), l.length = vs.length → (∀ x ∈ l, sc.names.lookup (Str.ofString x.1) = some .local) →
  RelG C σ s → FrameRel C env m σ s.heap → VRels C.aS s.heap vs ws →
  (∀ s', RelG C σ s' → FrameRel C env (bindM (l.map (·.1)) vs m) σ s'.heap → Step (fun b => b = env.locals) σ σ s.heap s'.heap → P () s') →
  wpAny (model C.prog C.w) A (assignInOrder ((assignEach (namesAt l) env).map (·.2)) ws) P E s := by
 induction l with
 | nil =>
  intro vs ws s m σ P h1 h2 R F hv h
  cases vs with
  | nil => cases hv; exact wpAny_pure (h s R F Step.refl)
  | cons => simp at h1
 | cons x l ih =>
  intro vs ws s m σ P h1 h2 R F hv h
  cases vs with
  | nil => simp at h1
  | cons v vs =>
   cases hv with | @cons _ w _ ws hv hvs =>
   rw [each_cons, List.map_cons]
   have e : assignInOrder (assign (.Name (Str.ofString x.1) x.2) env :: (assignEach (namesAt l) env).map (·.2)) (w :: ws) = (do holding ws (assign (.Name (Str.ofString x.1) x.2) env w); assignInOrder ((assignEach (namesAt l) env).map (·.2)) ws) := by rw [assignInOrder]
   show wpAny _ A (assignInOrder (assign (.Name (Str.ofString x.1) x.2) env :: (assignEach (namesAt l) env).map (·.2)) (w :: ws)) P E s
   rw [e]
   refine wpAny_bind (wpAny_holding (wpAny_assign_Name (store_local en R F (h2 x (.head _)) hv fun s₁ R₁ F₁ S₁ => ?_)))
   have kt : TupKeep s.heap s₁.heap := S₁.tups R fun b o z e => by subst z; exact F.ownT _ o (.inl rfl) e
   exact ih vs ws s₁ (put m x.1 v) σ P (by simpa using h1) (fun y hy => h2 y (.tail _ hy)) R₁ F₁ (hvs.keep kt) fun s₂ R₂ F₂ S₂ => h s₂ R₂ F₂ (S₁.trans S₂)
theorem FrameRel.grow {env : Env} {m : Loc} {σ : View} {h h' : Heap} (F : FrameRel C env m σ h) (keep : ∀ b o, h.get? b = some o → h'.get? b = some o) : FrameRel C env m σ h' := by
 have kt : TupKeep h h' := fun b o e _ => keep b o e
 have kc : ∀ c v, h.IsCell c v → h'.IsCell c v := fun c v ⟨o, ho, hd⟩ => ⟨o, keep c o ho, hd⟩
 obtain ⟨mm, hn, hv⟩ := F.ns
 refine ⟨⟨mm, hn.keeps keep, fun x v e k => ?_⟩, fun x v e => ?_, fun n c e => ?_, F.sepL, F.baseL, F.baseC, F.dist, F.has⟩
 ·obtain ⟨w, h1, h2⟩ := hv x v e k; exact ⟨w, h1, h2.keep kt⟩
 ·rcases F.cel x v e with q | ⟨q, c, w, h1, h2, h3⟩
  ·exact .inl q
  ·exact .inr ⟨q, c, w, h1, kc _ _ h2, h3.keep kt⟩
 ·obtain ⟨v, hv⟩ := F.cells n c e; exact ⟨v, kc _ _ hv⟩
theorem HT.tup (O : C.Ok) {l : List (String × Pos)} {n : Nat} {pos : Pos} (hx : ∀ x ∈ l, sc.names.lookup (Str.ofString x.1) = some .local) : HT C sc k true (.Tuple (namesAt l) n pos) (.tup (l.map (·.1))) := by
 refine ⟨?_⟩; intro env A s m m' σ v w P E en ao R F hv hb hP
 cases v <;> simp only [bindT] at hb <;> first | cases hb | skip
 split at hb
 ·rename_i vs hlen
  cases hb
  cases hv with | @tup _ t ws ht hvs =>
  have hlen' : l.length = vs.length := by simpa using hlen
  refine with_size (assignH (ao.hd O R) ht (by rw [(each_len env _).1, List.size_toArray, ← hvs.length, hlen']) (each_len env _).2 fun h' hx' => ?_)
  have keep : ∀ b o, s.heap.get? b = some o → h'.get? b = some o := fun b o e => hx' b o (Nat.ne_of_lt (Heap.lt_size e)) e
  have e : ws.toArray.toList = ws := by simp
  rw [e]
  refine assignNames en l vs ws _ m σ _ hlen' hx (R.grow (tk := s.toks) keep) (F.grow keep) (hvs.keep fun b o e _ => keep b o e) fun s₂ R₂ F₂ S₂ hsz => ?_
  exact hP s₂ R₂ F₂ ⟨fun b o e n q => S₂.keepL b o (keep b o e) n fun z => q (.inl z), hsz, fun _ a b => absurd a b⟩
 ·cases hb
end
end Mine
end
noncomputable section
namespace Mine
open PySem PySem.W PyProof.Rows PySem.Calls
noncomputable def bodyAt (p : Program) (n : Nat) : List Stmt := match p.main.body[n]? with | some (.FunctionDef _ _ b _ _ _ _ _ _ _) => b | _ => []
noncomputable def scopeAt (p : Program) (n : Nat) : Scope := match p.main.body[n]? with | some (.FunctionDef _ _ _ _ _ _ s _ _ _) => s | _ => default
noncomputable def parsAt (p : Program) (n : Nat) : Arguments := match p.main.body[n]? with | some (.FunctionDef _ a _ _ _ _ _ _ _ _) => a | _ => default
noncomputable def posAt (p : Program) (n : Nat) : Pos := match p.main.body[n]? with | some (.FunctionDef _ _ _ _ _ _ _ _ _ q) => q | _ => default
noncomputable def FnAt (C : Cx) (j : Nat) (f : String) (spec : Spec) : Prop :=
 ∃ a o fd, C.mg (Str.ofString f) = some (.ref a) ∧ C.hB.get? a = some o ∧ o.data = .func fd ∧ FnSound C j a spec
structure Gl (C : Cx) (p : Program) : Prop where
 ok : C.Ok
 mb : ∀ x : Str, x ≠ "__name__" → C.mb x = bootBuiltins x
 free : ∀ x ∈ ["len", "range", "min", "max", "isinstance", "bool", "str", "int", "list", "dict", "set", "sorted", "tuple", "sum", "type"], C.mg (Str.ofString x) = Option.none
 fn : ∀ d ∈ recsOf p, ∃ a o pm code doc, C.mg d.name = some (.ref a) ∧ C.hB.get? a = some o ∧ o.data = .func (docDef d.name d.params d.body d.scope pm code doc) ∧ C.hB.CodeRec code d.name
variable {C : Cx} {p : Program}
theorem Gl.blt (G : Gl C p) {x : String} {v : Value} (h : bootBuiltins (Str.ofString x) = some v) (hx : x ≠ "__name__") : C.mb (Str.ofString x) = some v := by
 rw [G.mb _ (fun e => hx (ofString_inj e)), h]
theorem HE.callAt (G : Gl C p) {sc : Scope} {k : Nat} {f : String} {np pos : Pos} {es : List Expr} {L : LT} {spec : Spec} {j : Nat} (hf : FnAt C j f spec) (hj : j < k)
  (hn : sc.names.lookup (Str.ofString f) = some .globalImplicit) (hdb : (Str.ofString f == ("__debug__" : Str)) = false)
  (hl : HL C sc k es L) (hp : plainArgs es = true) : HE C sc k (.Call (.Name (Str.ofString f) np) es [] pos) (eCall spec L) := by
 obtain ⟨a, o, fd, h1, h2, h3, h4⟩ := hf
 exact HE.call G.ok h4 hj hn h1 h2 h3 hdb hl hp
theorem FnAt.mk (G : Gl C p) (i n : Nat) {f : String} {xs : List String} {j : Nat} {spec : Spec} {T : ST}
  (hm : (recsOf p)[i]? = some ⟨Str.ofString f, parsAt p n, bodyAt p n, scopeAt p n, posAt p n⟩)
  (hk : (scopeAt p n).kind = .function) (hfr : ((scopeAt p n).names.all fun q => q.2 != .free) = true) (hco : (scopeAt p n).isCoroutine = false) (hgen : (scopeAt p n).isGenerator = false)
  (hbind : ∀ (ws : List Value) (pm code doc : Value), ws.length = xs.length → bindArgs (docDef (Str.ofString f) (parsAt p n) (bodyAt p n) (scopeAt p n) pm code doc) ⟨ws, []⟩ = pure ((xs.map Str.ofString).zip ws))
  (hloc : (xs.all fun x => (scopeAt p n).names.lookup (Str.ofString x) == some .local || (scopeAt p n).names.lookup (Str.ofString x) == some .cell) = true)
  (hT : HS C (scopeAt p n) j (bodyAt p n) T)
  (hspec : ∀ vs σ Q, spec vs σ Q → vs.length = xs.length ∧ T (bindM xs vs none') σ fun f _ σ' => match f with | .ret v => Q v σ' | .next => Q .none σ' | _ => False) : FnAt C j f spec := by
 obtain ⟨a, o, pm, code, doc, h1, h2, h3, h4⟩ := G.fn _ (List.mem_of_getElem? hm)
 refine ⟨a, o, _, h1, h2, h3, FnSound.mk G.ok (xs := xs) h2 h3 h4 rfl rfl rfl rfl rfl hk ?_ hco hgen (fun ws hw => hbind ws pm code doc hw) ?_ hT hspec⟩
 ·intro q hq
  have := List.all_eq_true.mp hfr q hq
  simpa using this
 ·intro x hx
  have := List.all_eq_true.mp hloc x hx
  simp only [Bool.or_eq_true, beq_iff_eq] at this
  exact this
noncomputable def spLaw : Spec := fun vs σ Q => vs = [.script] ∧ (∀ a, σ a = Option.none) ∧ ∀ σ', Q (.bool true) σ'
theorem ints_get {vs : List Value} {ns : List Int} (h : IntsAre vs ns) : vs.length = ns.length ∧ ∀ (i : Nat) n, ns[i]? = some n → ∃ t, vs[i]? = some (Value.int n t) := by
 induction h with
 | nil => exact ⟨rfl, fun i n e => by simp at e⟩
 | cons a t h ih =>
  refine ⟨by simp [ih.1], fun i n e => ?_⟩
  cases i with
  | zero => simp at e; subst e; exact ⟨_, rfl⟩
  | succ i => simpa using ih.2 i n (by simpa using e)
theorem Cx.ok_of {C : Cx} (hz : C.held = none) {vs : List Value} {loose : List Str} {mean : ExcName → Option Value} (T : Top p loose mean C.mg C.mb C.hB) (hi : importsNone p = true) (hL : C.hB.IsList C.aS vs.toArray) (hI : IntsAre vs C.ns) (hn : ¬ (63 : Int) < (C.ns.length : Int)) : C.Ok where
 g := T.g
 b := T.b
 nolimit := T.nolimit
 mods := by obtain ⟨mm, ⟨o, _, _, ho, _⟩, _⟩ := (T.seer hi).mods; exact ⟨o, ho⟩
 few := by omega
 heldOk := fun e he => by rw [hz] at he; cases he
 script := ⟨_, hL, by simpa using (ints_get hI).1, by simpa using (ints_get hI).2⟩
theorem Gl.of {C : Cx} {loose : List Str} {mean : ExcName → Option Value} (T : Top p loose mean C.mg C.mb C.hB) (ok : C.Ok)
  (hf : (["len", "range", "min", "max", "isinstance", "bool", "str", "int", "list", "dict", "set", "sorted", "tuple", "sum", "type"].all fun x : String => !(startupNames ++ loose ++ (recsOf p).map (·.name) ++ (litsOf p).map (·.1) ++ (clssOf p loose).map (·.name)).contains (Str.ofString x)) = true) : Gl C p where
 ok := ok
 mb := T.builtins
 fn := T.fn
 free := fun x hx => by
  have := List.all_eq_true.mp hf x hx
  simp only [Bool.not_eq_true', List.contains_eq_mem, decide_eq_false_iff_not, List.mem_append, not_or] at this
  obtain ⟨⟨⟨⟨h1, h2⟩, h3⟩, h4⟩, h5⟩ := this
  exact T.free _ h1 h2 h3 h4 h5
theorem law_ends {C : Cx} (hz : C.held = none) {f : Addr} {j : Nat} {r : OpenLaw} {args : List WData} {cl : Str → Option Addr} {mean : ExcName → Option Value} (hf : FnSound C j f spLaw) (hj : j ≤ 100) (hg : C.s₁.gens = #[])
  (hn : ∀ cls, r.row.claim.raises args cls = false) (hp : r.row.claim.post args (.bool true) args = true) :
  codeAny (model C.prog C.w) callerA (.call (.ref f) ⟨[.ref C.aS], []⟩) (GoodWG r.row.claim cl mean args C.s₁) C.s₁ := by
 refine codeAny_mono (hf callerA C.s₁ (fun _ => Option.none) [.script] [.ref C.aS] (fun v σ => v = .bool true) (fun w s' => w = .bool true ∧ ∃ σ', RelG C σ' s') (fun _ _ => False) ⟨by rw [hz]; rfl, ?_, ?_⟩ ⟨⟨_, _, _, rfl⟩, fun _ _ e => e, fun _ _ e => by (cases e), fun _ e => absurd rfl e⟩ (.cons .script .nil) ⟨rfl, fun _ => rfl, fun _ => rfl⟩ ?_) ?_
 ·show 1 + claimMargin + 3 * (j + 1) + 3 < recursionLimit
  have : claimMargin = 300 := rfl
  have : recursionLimit = 1000 := rfl
  omega
 ·show 4 + 10 * (j + 1) + 20 < cLine
  unfold cLine
  omega
 ·intro v w σ' s' hv R' S' q
  subst q
  cases hv with | bool b => exact ⟨rfl, σ', R'⟩
 ·intro res s' h
  cases res with
  | error e => exact h.elim
  | ok fl =>
   cases fl with
   | ret v =>
    obtain ⟨rfl, σ', R'⟩ := h
    obtain ⟨h₁, tk, d₁, e⟩ := R'.rest
    refine GoodW.toG ⟨.inl ⟨_, .bool true, [], rfl, hn, .bool true, hp, fun _ => ⟨List.nodup_nil, fun a h => by cases h⟩⟩, R'.base, ?_, ?_⟩
    ·rw [e]
    ·rw [e]; exact hg
   | _ => exact h.elim
end Mine
end
noncomputable section
namespace Mine
open PySem PySem.W PyProof.Rows PySem.Calls
section
variable {C : Cx} {p : Program} {sc : Scope} {k : Nat}
theorem bb_len : bootBuiltins (Str.ofString "len") = some (.builtin "len") := by decide +kernel
theorem bb_isi : bootBuiltins (Str.ofString "isinstance") = some (.builtin "isinstance") := by decide +kernel
theorem bb_range : bootBuiltins (Str.ofString "range") = some (.type "range") := by decide +kernel
theorem bb_str : bootBuiltins (Str.ofString "str") = some (.type "str") := by decide +kernel
theorem bb_int : bootBuiltins (Str.ofString "int") = some (.type "int") := by decide +kernel
theorem bb_list : bootBuiltins (Str.ofString "list") = some (.type "list") := by decide +kernel
theorem bb_dict : bootBuiltins (Str.ofString "dict") = some (.type "dict") := by decide +kernel
theorem bb_tuple : bootBuiltins (Str.ofString "tuple") = some (.type "tuple") := by decide +kernel
theorem HE.len (G : Gl C p) {np pos : Pos} {es : List Expr} {L : LT} (hn : sc.names.lookup (Str.ofString "len") = some .globalImplicit) (hl : HL C sc k es L) (hp : plainArgs es = true) : HE C sc k (.Call (.Name (Str.ofString "len") np) es [] pos) (eCall (spLen C.ns) L) :=
 HE.builtin G.ok (ok_len G.ok) hn (G.free _ (by decide)) (G.blt bb_len (by decide)) rfl hl hp
theorem HE.isi (G : Gl C p) {np pos : Pos} {es : List Expr} {L : LT} (hn : sc.names.lookup (Str.ofString "isinstance") = some .globalImplicit) (hl : HL C sc k es L) (hp : plainArgs es = true) : HE C sc k (.Call (.Name (Str.ofString "isinstance") np) es [] pos) (eCall spIsi L) :=
 HE.builtin G.ok ok_isi hn (G.free _ (by decide)) (G.blt bb_isi (by decide)) rfl hl hp
theorem HE.intC (G : Gl C p) {np pos : Pos} {es : List Expr} {L : LT} (hn : sc.names.lookup (Str.ofString "int") = some .globalImplicit) (hl : HL C sc k es L) (hp : plainArgs es = true) : HE C sc k (.Call (.Name (Str.ofString "int") np) es [] pos) (eCall spInt L) :=
 HE.btype G.ok ok_int hn (G.free _ (by decide)) (G.blt bb_int (by decide)) rfl hl hp
theorem HE.strC (G : Gl C p) {np pos : Pos} {es : List Expr} {L : LT} (hn : sc.names.lookup (Str.ofString "str") = some .globalImplicit) (hl : HL C sc k es L) (hp : plainArgs es = true) : HE C sc k (.Call (.Name (Str.ofString "str") np) es [] pos) (eCall spStr L) :=
 HE.btype G.ok ok_str hn (G.free _ (by decide)) (G.blt bb_str (by decide)) rfl hl hp
theorem HI.rng (G : Gl C p) (hz : C.held = Option.none) {np pos : Pos} {es : List Expr} {L : LT} (hn : sc.names.lookup (Str.ofString "range") = some .globalImplicit) (hl : HL C sc k es L) (hp : plainArgs es = true) : HI C sc k (.Call (.Name (Str.ofString "range") np) es [] pos) (iRange L) :=
 HI.range G.ok hz hl hp hn (G.free _ (by decide)) (G.blt bb_range (by decide))
theorem HE.gStr (G : Gl C p) {pos : Pos} (h : sc.names.lookup (Str.ofString "str") = some .globalImplicit) : HE C sc k (.Name (Str.ofString "str") pos) (eVal (.ty "str")) := HE.gty G.ok h (G.free _ (by decide)) (G.blt bb_str (by decide)) rfl
theorem HE.gList (G : Gl C p) {pos : Pos} (h : sc.names.lookup (Str.ofString "list") = some .globalImplicit) : HE C sc k (.Name (Str.ofString "list") pos) (eVal (.ty "list")) := HE.gty G.ok h (G.free _ (by decide)) (G.blt bb_list (by decide)) rfl
theorem HE.gTuple (G : Gl C p) {pos : Pos} (h : sc.names.lookup (Str.ofString "tuple") = some .globalImplicit) : HE C sc k (.Name (Str.ofString "tuple") pos) (eVal (.ty "tuple")) := HE.gty G.ok h (G.free _ (by decide)) (G.blt bb_tuple (by decide)) rfl
theorem HE.split {o : Expr} {apos pos : Pos} {es : List Expr} {To : ET} {L : LT} (ho : HE C sc k o To) (hl : HL C sc k es L) (hp : plainArgs es = true)
  (hbase : ∀ env, attributeBase o (Str.ofString "split") env (eval o env) = eval o env) (hline : (apos.endLine == pos.line) = true) (hfew : es.length < 30) : HE C sc k (.Call (.Attribute o (Str.ofString "split") apos) es [] pos) (eMeth tyStr spSplit To L) :=
 HE.meth tyStr_ok F.plainAttrs_str F.slot_str_split F.type_str_split ok_split ho hl hp hbase hline hfew
theorem HE.join {o : Expr} {apos pos : Pos} {es : List Expr} {To : ET} {L : LT} (ho : HE C sc k o To) (hl : HL C sc k es L) (hp : plainArgs es = true)
  (hbase : ∀ env, attributeBase o (Str.ofString "join") env (eval o env) = eval o env) (hline : (apos.endLine == pos.line) = true) (hfew : es.length < 30) : HE C sc k (.Call (.Attribute o (Str.ofString "join") apos) es [] pos) (eMeth tyStr spJoin To L) :=
 HE.meth tyStr_ok F.plainAttrs_str F.slot_str_join F.type_str_join ok_join ho hl hp hbase hline hfew
theorem HE.starts {o : Expr} {apos pos : Pos} {es : List Expr} {To : ET} {L : LT} (ho : HE C sc k o To) (hl : HL C sc k es L) (hp : plainArgs es = true)
  (hbase : ∀ env, attributeBase o (Str.ofString "startswith") env (eval o env) = eval o env) (hline : (apos.endLine == pos.line) = true) (hfew : es.length < 30) : HE C sc k (.Call (.Attribute o (Str.ofString "startswith") apos) es [] pos) (eMeth tyStr spStarts To L) :=
 HE.meth tyStr_ok F.plainAttrs_str F.slot_str_startswith F.type_str_startswith ok_starts ho hl hp hbase hline hfew
theorem HE.append {o : Expr} {apos pos : Pos} {es : List Expr} {To : ET} {L : LT} (ho : HE C sc k o To) (hl : HL C sc k es L) (hp : plainArgs es = true)
  (hbase : ∀ env, attributeBase o (Str.ofString "append") env (eval o env) = eval o env) (hline : (apos.endLine == pos.line) = true) (hfew : es.length < 30) : HE C sc k (.Call (.Attribute o (Str.ofString "append") apos) es [] pos) (eMeth tyList spAppend To L) :=
 HE.meth tyList_ok F.plainAttrs_list F.slot_list_append F.type_list_append ok_append ho hl hp hbase hline hfew
theorem HE.item (G : Gl C p) {value slice : Expr} {pos : Pos} {T U : ET} (hv : HE C sc k value T) (hi : HE C sc k slice U) (hs : isSlice slice = false) : HE C sc k (.Subscript value slice pos) (eBin (opItem C.ns) T U) :=
 HE.sub hv hi (ok_item G.ok hs)
noncomputable def compOk (sc cs : Scope) (fv gs : List String) : Bool :=
 cs.kind == .function && cs.names.all (fun y => y.2 != .cell) && cs.names.all (fun y => y.2 != .local || cs.names.lookup y.1 == some .local) && decide (cs.names.map (·.1)).Nodup &&
 cs.names.all (fun q => q.2 != .free || fv.any fun x => Str.ofString x == q.1) && fv.all (fun x => cs.names.contains (Str.ofString x, NameKind.free) && (sc.names.lookup (Str.ofString x) == some .cell || sc.names.lookup (Str.ofString x) == some .free)) && gs.all fun x => !fv.contains x
theorem CompOk.of {sc cs : Scope} {fv : List String} {g : Tgt} (h : compOk sc cs fv g.names = true) : CompOk sc cs fv g := by
 unfold compOk at h
 simp only [Bool.and_eq_true, List.all_eq_true, Bool.or_eq_true, bne_iff_ne, beq_iff_eq, decide_eq_true_eq, List.any_eq_true, Bool.not_eq_true', List.contains_eq_mem, decide_eq_false_iff_not] at h
 obtain ⟨⟨⟨⟨⟨⟨h1, h2⟩, h3⟩, h4⟩, h5⟩, h6⟩, h7⟩ := h
 refine ⟨h1, h2, fun y hy e => (h3 y hy).elim (fun n => absurd e n) id, h4, fun q hq e => (h5 q hq).elim (fun n => absurd e n) id, fun x hx => ⟨(h6 x hx).1, (h6 x hx).2⟩, h7⟩
theorem swaps_local {elt : Expr} {gens : List Comprehension} {cs : Scope} {pos : Pos} {t : Str} {q : Pos} {line : Nat} (h : sc.names.lookup t = some .local) (hl : (q.line == pos.line) = true) (hn : (cs.names.any fun y => y.1 == t && (y.2 == .local || y.2 == .cell)) = false) :
  ∀ env, EnvOk env sc → swapsWith (.ListComp elt gens cs pos) (some (.Name t q)) line env = pure true := by
 intro env en
 unfold swapsWith
 have e : env.kindOf t = some .local := en.of h
 have e2 : env.blockKind = .function := by unfold Env.blockKind; rw [en.k]; rfl
 have e3 : (Expr.ListComp elt gens cs pos).pos.line = pos.line := rfl
 simp only [e, e2, e3, hl, hn]
 rfl
end
end Mine
end
noncomputable section
namespace Mine
open PySem PySem.W PyProof.Rows PySem.Calls
noncomputable def Grow (σ σ' : View) : Prop := ∀ b o, σ b = some o → σ' b = some o
theorem Grow.refl {σ : View} : Grow σ σ := fun _ _ e => e
theorem Grow.trans {σ₁ σ₂ σ₃ : View} (h : Grow σ₁ σ₂) (h' : Grow σ₂ σ₃) : Grow σ₁ σ₃ := fun b o e => h' b o (h b o e)
theorem Grow.upd {σ σ' : View} {a : Addr} {o : AObj} (h : Grow σ σ') (ha : σ' a = Option.none) : Grow σ (upd σ' a o) := fun b o' e => by
 rw [upd_old ha (h b o' e)]
noncomputable def newG (xs : List V) (σ : View) (Q : V → View → Prop) : Prop := ∀ a σ', Grow σ σ' → σ a = Option.none → σ' a = some (.list xs) → Q (.ref a) σ'
theorem Grow.none {σ σ' : View} (h : Grow σ σ') {a : Addr} (ha : σ' a = Option.none) : σ a = Option.none := by
 cases e : σ a with
 | none => rfl
 | some o => rw [h a o e] at ha; cases ha
theorem compL_map {g : Tgt} {inv : View → Prop} {T : ET} {m : Loc} (P : View → Prop) (hinv : ∀ σ, P σ → inv σ) :
  ∀ (items ys acc : List V) (σ : View) (Q : List V → View → Prop), ys.length = items.length → acc.length + items.length ≤ 1048576 →
  (∀ (i : Nat) v y, items[i]? = some v → ys[i]? = some y → ∀ σ (Q' : V → View → Prop), P σ → (∀ σ', P σ' → Q' y σ') → ∃ m', bindT g v m = some m' ∧ T m' σ Q') →
  P σ → (∀ σ', P σ' → Q (acc ++ ys) σ') → compL g inv tT T m items acc σ Q
 | [], ys, acc, σ, Q, hl, hz, step, p, q => by
  have : ys = [] := List.length_eq_zero_iff.mp hl
  subst this
  simp only [compL]
  exact ⟨hinv σ p, by simpa using q σ p⟩
 | v :: r, [], acc, σ, Q, hl, hz, step, p, q => by simp at hl
 | v :: r, y :: ys, acc, σ, Q, hl, hz, step, p, q => by
  simp only [compL]
  obtain ⟨m', h1, h2⟩ := step 0 v y rfl rfl σ (fun y σ₂ => acc.length < 1048576 ∧ compL g inv tT T m r (acc ++ [y]) σ₂ Q) p (fun σ' p' => by
   simp at hz hl
   refine ⟨by exact Nat.lt_of_le_of_lt (Nat.le_add_right _ _) hz, compL_map P hinv r ys (acc ++ [y]) σ' Q hl (by simp; exact Nat.le_of_not_lt fun hg => lin [(acc.length), (r.length)] [(1, (.a (.v 0) (.a (.v 1) (.n 1))), (.n 1048576)), (1, (.a (.n 1048576) (.n 1)), (.a (.a (.v 0) (.n 1)) (.v 1)))] rfl hz hg) (fun i v y e1 e2 => step (i + 1) v y (by simpa using e1) (by simpa using e2)) p' fun σ'' p'' => ?_⟩
   simpa using q σ'' p'')
  exact ⟨hinv σ p, m', h1, by simpa [tT] using h2⟩
theorem compL_filter {g : Tgt} {inv : View → Prop} {B : BT} {T : ET} {m : Loc} (P : View → Prop) (hinv : ∀ σ, P σ → inv σ) (f : V → Option V) :
  ∀ (items acc : List V) (σ : View) (Q : List V → View → Prop), acc.length + items.length ≤ 1048576 →
  (∀ v ∈ items, ∀ σ (Q₁ : V → View → Prop) (Q₂ : View → Prop), P σ → (∀ σ' y, P σ' → f v = some y → Q₁ y σ') → (∀ σ', P σ' → f v = Option.none → Q₂ σ') → ∃ m', bindT g v m = some m' ∧ B m' σ fun b σ₁ => if b then T m' σ₁ Q₁ else Q₂ σ₁) →
  P σ → (∀ σ', P σ' → Q (acc ++ items.filterMap f) σ') → compL g inv B T m items acc σ Q
 | [], acc, σ, Q, hz, step, p, q => by
  simp only [compL]
  exact ⟨hinv σ p, by simpa using q σ p⟩
 | v :: r, acc, σ, Q, hz, step, p, q => by
  simp only [compL]
  simp at hz
  obtain ⟨m', h1, h2⟩ := step v (.head _) σ (fun y σ₂ => acc.length < 1048576 ∧ compL g inv B T m r (acc ++ [y]) σ₂ Q) (fun σ₁ => compL g inv B T m r acc σ₁ Q) p
   (fun σ' y p' e => ⟨by exact Nat.lt_of_le_of_lt (Nat.le_add_right _ _) hz, compL_filter P hinv f r (acc ++ [y]) σ' Q (by simp; exact Nat.le_of_not_lt fun hg => lin [(acc.length), (r.length)] [(1, (.a (.v 0) (.a (.v 1) (.n 1))), (.n 1048576)), (1, (.a (.n 1048576) (.n 1)), (.a (.a (.v 0) (.n 1)) (.v 1)))] rfl hz hg) (fun v hv => step v (.tail _ hv)) p' fun σ'' p'' => by simpa [e] using q σ'' p''⟩)
   (fun σ' p' e => compL_filter P hinv f r acc σ' Q (by exact Nat.le_of_lt hz) (fun v hv => step v (.tail _ hv)) p' fun σ'' p'' => by simpa [e] using q σ'' p'')
  exact ⟨hinv σ p, m', h1, h2⟩
theorem forL_inv {g : Tgt} {inv : View → Prop} {T : ST} (I : Nat → Loc → View → Prop) (R : V → Loc → View → Prop) (hinv : ∀ i m σ, I i m σ → inv σ) (items : List V) {Q : Fl → Loc → View → Prop}
  (step : ∀ i v m σ Q', items[i]? = some v → I i m σ → (∀ m' σ', I (i + 1) m' σ' → Q' .next m' σ') → (∀ m' σ', I (i + 1) m' σ' → Q' .cont m' σ') → (∀ u m' σ', R u m' σ' → Q' (.ret u) m' σ') → ∃ m', bindT g v m = some m' ∧ T m' σ Q')
  (done : ∀ m σ, I items.length m σ → Q .next m σ) (ret : ∀ u m σ, R u m σ → Q (.ret u) m σ) : ∀ (m : Loc) (σ : View), I 0 m σ → forL g inv T items m σ Q := by
 have key : ∀ (n : Nat) (i : Nat) (m : Loc) (σ : View), n = items.length - i → i ≤ items.length → I i m σ → forL g inv T (items.drop i) m σ Q := by
  intro n
  induction n with
  | zero =>
   intro i m σ hn hi h
   have : i = items.length := by exact Nat.le_antisymm (Nat.le_of_not_lt fun hg => lin [i, (items.length)] [(1, (.v 0), (.v 1)), (1, (.a (.v 1) (.n 1)), (.v 0))] rfl hi hg) (Nat.le_of_not_lt fun hg => lin [(items.length - i), i, (items.length)] [(1, (.v 0), (.n 0)), (1, (.v 2), (.a (.v 0) (.v 1))), (1, (.a (.v 1) (.n 1)), (.v 2))] rfl (Nat.le_of_eq (Eq.symm hn)) (sub_lo (items.length) (i)) hg)
   subst this
   rw [List.drop_length]
   exact ⟨hinv _ _ _ h, done m σ h⟩
  | succ n ih =>
   intro i m σ hn hi h
   have hlt : i < items.length := by exact Nat.lt_of_not_le fun hg => lin [n, (items.length - i), i, (items.length)] [(1, (.a (.v 0) (.n 1)), (.v 1)), (1, (.a (.v 1) (.v 2)), (.v 3)), (1, (.v 3), (.v 2))] rfl (Nat.le_of_eq hn) (sub_hi (Nat.le_of_not_lt fun hg => lin [i, (items.length)] [(1, (.v 0), (.v 1)), (1, (.a (.v 1) (.n 1)), (.v 0))] rfl hi hg)) hg
   rw [List.drop_eq_getElem_cons hlt]
   simp only [forL]
   refine ⟨hinv _ _ _ h, step i _ m σ _ (List.getElem?_eq_getElem hlt) h (fun m' σ' h' => ih (i + 1) m' σ' (by exact Nat.le_antisymm (Nat.le_of_not_lt fun hg => lin [n, (items.length - i), i, (items.length), (items.length - (i + 1))] [(1, (.a (.v 0) (.n 1)), (.v 1)), (1, (.a (.v 1) (.v 2)), (.v 3)), (1, (.v 3), (.a (.v 4) (.a (.v 2) (.n 1)))), (1, (.a (.v 4) (.n 1)), (.v 0))] rfl (Nat.le_of_eq hn) (sub_hi (Nat.le_of_not_lt fun hg => lin [i, (items.length)] [(1, (.a (.v 0) (.n 1)), (.v 1)), (1, (.a (.v 1) (.n 1)), (.v 0))] rfl hlt hg)) (sub_lo (items.length) (i + 1)) hg) (Nat.le_of_not_lt fun hg => lin [n, (items.length - i), i, (items.length), (items.length - (i + 1))] [(1, (.v 1), (.a (.v 0) (.n 1))), (1, (.v 3), (.a (.v 1) (.v 2))), (1, (.a (.v 4) (.a (.v 2) (.n 1))), (.v 3)), (1, (.a (.v 0) (.n 1)), (.v 4))] rfl (Nat.le_of_eq (Eq.symm hn)) (sub_lo (items.length) (i)) (sub_hi (Nat.le_of_not_lt fun hg => lin [i, (items.length)] [(1, (.a (.v 0) (.n 1)), (.v 1)), (1, (.a (.v 1) (.n 1)), (.a (.v 0) (.n 1)))] rfl hlt hg)) hg)) (by exact hlt) h') (fun m' σ' h' => ih (i + 1) m' σ' (by exact Nat.le_antisymm (Nat.le_of_not_lt fun hg => lin [n, (items.length - i), i, (items.length), (items.length - (i + 1))] [(1, (.a (.v 0) (.n 1)), (.v 1)), (1, (.a (.v 1) (.v 2)), (.v 3)), (1, (.v 3), (.a (.v 4) (.a (.v 2) (.n 1)))), (1, (.a (.v 4) (.n 1)), (.v 0))] rfl (Nat.le_of_eq hn) (sub_hi (Nat.le_of_not_lt fun hg => lin [i, (items.length)] [(1, (.a (.v 0) (.n 1)), (.v 1)), (1, (.a (.v 1) (.n 1)), (.v 0))] rfl hlt hg)) (sub_lo (items.length) (i + 1)) hg) (Nat.le_of_not_lt fun hg => lin [n, (items.length - i), i, (items.length), (items.length - (i + 1))] [(1, (.v 1), (.a (.v 0) (.n 1))), (1, (.v 3), (.a (.v 1) (.v 2))), (1, (.a (.v 4) (.a (.v 2) (.n 1))), (.v 3)), (1, (.a (.v 0) (.n 1)), (.v 4))] rfl (Nat.le_of_eq (Eq.symm hn)) (sub_lo (items.length) (i)) (sub_hi (Nat.le_of_not_lt fun hg => lin [i, (items.length)] [(1, (.a (.v 0) (.n 1)), (.v 1)), (1, (.a (.v 1) (.n 1)), (.a (.v 0) (.n 1)))] rfl hlt hg)) hg)) (by exact hlt) h') fun u m' σ' h' => ret u m' σ' h'⟩
 intro m σ h
 have := key items.length 0 m σ (by exact rfl) (by exact Nat.zero_le _) h
 simpa using this
@[simp] theorem put_at (m : Loc) (x y : String) (v : V) : put m x v y = bif y == x then some v else m y := rfl
@[simp low] theorem cond_str {α : Type} (x y : String) (a b : α) : (bif y == x then a else b) = if y = x then a else b := by
 by_cases h : y = x
 ·rw [if_pos h, h, beq_self_eq_true]; rfl
 ·rw [if_neg h, beq_false_of_ne h]; rfl
@[simp] theorem only_at (fv : List String) (m : Loc) (x : String) : only fv m x = if x ∈ fv then m x else Option.none := rfl
theorem len1 {ws : List Value} (h : ws.length = 1) : ∃ a, ws = [a] := List.length_eq_one_iff.mp h
theorem lenS {n : Nat} {ws : List Value} (h : ws.length = n + 1) : ∃ a r, ws = a :: r ∧ r.length = n := by
 cases ws with
 | nil => cases h
 | cons a r => exact ⟨a, r, rfl, Nat.succ.inj h⟩
theorem len2 {ws : List Value} (h : ws.length = 2) : ∃ a b, ws = [a, b] := by
 obtain ⟨a, r, rfl, g⟩ := lenS h
 obtain ⟨b, rfl⟩ := len1 g
 exact ⟨a, b, rfl⟩
theorem len3 {ws : List Value} (h : ws.length = 3) : ∃ a b c, ws = [a, b, c] := by
 obtain ⟨a, r, rfl, g⟩ := lenS h
 obtain ⟨b, c, rfl⟩ := len2 g
 exact ⟨a, b, c, rfl⟩
theorem len4 {ws : List Value} (h : ws.length = 4) : ∃ a b c d, ws = [a, b, c, d] := by
 obtain ⟨a, r, rfl, g⟩ := lenS h
 obtain ⟨b, c, d, rfl⟩ := len3 g
 exact ⟨a, b, c, d, rfl⟩
theorem range_get {a : Int} {n i : Nat} {v : V} (h : (rangeL a n)[i]? = some v) : i < n ∧ v = .int (a + i) := by
 unfold rangeL at h
 rw [List.getElem?_map] at h
 obtain ⟨j, hj, rfl⟩ := Option.map_eq_some_iff.mp h
 obtain ⟨hlt, hji⟩ := List.getElem?_eq_some_iff.mp hj
 simp at hji hlt
 subst hji
 exact ⟨hlt, rfl⟩
theorem range_len (a : Int) (n : Nat) : (rangeL a n).length = n := by simp [rangeL]
noncomputable def cell (ns : List Int) (k : Int) : Int := ns.getD k.toNat 0
noncomputable def kont (U : ST) (Q : Fl → Loc → View → Prop) : Fl → Loc → View → Prop := fun f m σ => match f with
 | .next => U m σ Q
 | f => Q f m σ
theorem seq_eq (T U : ST) (m : Loc) (σ : View) (Q : Fl → Loc → View → Prop) : sSeq T U m σ Q = T m σ (kont U Q) := by
 unfold sSeq kont; rfl
@[simp] theorem kont_next (U : ST) (Q : Fl → Loc → View → Prop) (m : Loc) (σ : View) : kont U Q .next m σ = U m σ Q := rfl
@[simp] theorem kont_cont (U : ST) (Q : Fl → Loc → View → Prop) (m : Loc) (σ : View) : kont U Q .cont m σ = Q .cont m σ := rfl
@[simp] theorem kont_brk (U : ST) (Q : Fl → Loc → View → Prop) (m : Loc) (σ : View) : kont U Q .brk m σ = Q .brk m σ := rfl
@[simp] theorem kont_ret (U : ST) (Q : Fl → Loc → View → Prop) (v : V) (m : Loc) (σ : View) : kont U Q (.ret v) m σ = Q (.ret v) m σ := rfl
noncomputable def fin (Q : V → View → Prop) : Fl → Loc → View → Prop := fun f _ σ' => match f with | .ret v => Q v σ' | .next => Q .none σ' | _ => False
@[simp] theorem fin_ret (Q : V → View → Prop) (v : V) (m : Loc) (σ : View) : fin Q (.ret v) m σ = Q v σ := rfl
@[simp] theorem fin_next (Q : V → View → Prop) (m : Loc) (σ : View) : fin Q .next m σ = Q .none σ := rfl
section
variable {m : Loc} {σ : View} {Q : V → View → Prop} {R : Fl → Loc → View → Prop} {B : Bool → View → Prop} {K : List V → View → Prop} {J : List V → (View → Prop) → View → Prop} {O : Option Int → View → Prop} {ns : List Int}
@[simp] theorem sSet_eq {x : String} {T : ET} : sSet x T m σ R = T m σ fun v σ' => R .next (put m x v) σ' := rfl
@[simp] theorem sRet_eq {T : ET} : sRet T m σ R = T m σ fun v σ' => R (.ret v) m σ' := rfl
@[simp] theorem sIf_eq {b : BT} {T U : ST} : sIf b T U m σ R = b m σ fun b σ' => if b then T m σ' R else U m σ' R := rfl
@[simp] theorem sNil_eq : sNil m σ R = R .next m σ := rfl
@[simp] theorem sExpr_eq {T : ET} : sExpr T m σ R = T m σ fun _ σ' => R .next m σ' := rfl
@[simp] theorem sFor_eq {g : Tgt} {I : IT} {T : ST} : sFor g I T m σ R = I m σ fun items inv σ' => forL g inv T items m σ' R := rfl
@[simp] theorem sSetItem_eq {op : V → V → V → View → (View → Prop) → Prop} {T To Ti : ET} : sSetItem op T To Ti m σ R = T m σ fun v σ₁ => To m σ₁ fun o σ₂ => Ti m σ₂ fun i σ₃ => op o i v σ₃ fun σ₄ => R .next m σ₄ := rfl
@[simp] theorem eName_eq {x : String} : eName x m σ Q = atK (m x) fun v => Q v σ := rfl
@[simp] theorem atK_some {α : Type} {v : α} {F : α → Prop} : atK (some v) F = F v := rfl
@[simp] theorem eVal_eq {v : V} : eVal v m σ Q = Q v σ := rfl
@[simp] theorem eBin_eq {op : O2} {T U : ET} : eBin op T U m σ Q = T m σ fun a σ₁ => U m σ₁ fun b σ₂ => op a b σ₂ Q := rfl
@[simp] theorem eCall_eq {spec : Spec} {L : LT} : eCall spec L m σ Q = L m σ fun vs σ' => spec vs σ' Q := rfl
@[simp] theorem eMeth_eq {ty : V → View → Prop} {op : Spec} {T : ET} {L : LT} : eMeth ty op T L m σ Q = T m σ fun o σ₁ => ty o σ₁ ∧ L m σ₁ fun vs σ₂ => op (o :: vs) σ₂ Q := rfl
@[simp] theorem lNil_eq : lNil m σ K = K [] σ := rfl
@[simp] theorem lCons_eq {T : ET} {L : LT} : lCons T L m σ K = T m σ fun v σ₁ => L m σ₁ fun vs σ₂ => K (v :: vs) σ₂ := rfl
@[simp] theorem eTup_eq {L : LT} : eTup L m σ Q = L m σ fun vs σ₁ => vs.length ≤ 1000 ∧ Q (.tup vs) σ₁ := rfl
@[simp] theorem eList_eq {L : LT} : eList L m σ Q = L m σ fun vs σ₁ => vs.length ≤ 1000 ∧ newL vs σ₁ Q := rfl
@[simp] theorem tNot_eq {T : BT} : tNot T m σ B = T m σ fun b σ' => B (!b) σ' := rfl
@[simp] theorem tAnd_eq {T U : BT} : tAnd T U m σ B = T m σ fun b σ' => if b then U m σ' B else B false σ' := rfl
@[simp] theorem tOr_eq {T U : BT} : tOr T U m σ B = T m σ fun b σ' => if b then B true σ' else U m σ' B := rfl
@[simp] theorem tT_eq : tT m σ B = B true σ := rfl
@[simp] theorem tF_eq : tF m σ B = B false σ := rfl
@[simp] theorem eComp_eq {fv : List String} {g : Tgt} {I : IT} {b : BT} {T : ET} : eComp fv g I b T m σ Q = I m σ fun items inv σ' => compL g inv b T (only fv m) items [] σ' fun ys σ'' => newL ys σ'' Q := rfl
@[simp] theorem iOf_eq {T : ET} : iOf ns T m σ J = T m σ fun v σ' => iterOf ns v σ' J := rfl
@[simp] theorem iRange_eq {L : LT} : iRange L m σ J = L m σ fun vs σ' => rangeOf vs σ' J := rfl
@[simp] theorem eCut_eq {T : ET} {L U : Loc → View → (Option Int → View → Prop) → Prop} : eCut ns T L U m σ Q = T m σ fun v σ₁ => L m σ₁ fun lo σ₂ => U m σ₂ fun hi σ₃ => opCut ns lo hi v σ₃ Q := rfl
@[simp] theorem pNone_eq : pNone m σ O = O Option.none σ := rfl
@[simp] theorem pSome_eq {T : ET} : pSome T m σ O = T m σ fun v σ' => ∃ i, v = .int i ∧ O (some i) σ' := rfl
@[simp] theorem bindT_name {x : String} {v : V} : bindT (.name x) v m = some (put m x v) := rfl
@[simp] theorem bindM_cons {x : String} {xs : List String} {v : V} {vs : List V} : bindM (x :: xs) (v :: vs) m = bindM xs vs (put m x v) := rfl
@[simp] theorem bindM_nil : bindM [] [] m = m := rfl
@[simp] theorem none_at {x : String} : none' x = Option.none := rfl
end
@[simp] theorem isB_bool (c : Bool) (F : Bool → Prop) : isB (.bool c) F = F c := rfl
@[simp] theorem tBool_eq (T : ET) (m : Loc) (σ : View) (Q : Bool → View → Prop) : tBool T m σ Q = T m σ (fun v σ' => isB v fun b => Q b σ') := rfl
@[simp] theorem eAnd_eq (T U : ET) (m : Loc) (σ : View) (Q : V → View → Prop) : eAnd T U m σ Q = T m σ (fun v σ' => isB v fun b => if b then U m σ' Q else Q (.bool false) σ') := rfl
@[simp] theorem eOr_eq (T U : ET) (m : Loc) (σ : View) (Q : V → View → Prop) : eOr T U m σ Q = T m σ (fun v σ' => isB v fun b => if b then Q (.bool true) σ' else U m σ' Q) := rfl
@[simp] theorem tCmp2_eq (o1 o2 : O2) (T U W : ET) (m : Loc) (σ : View) (Q : Bool → View → Prop) : tCmp2 o1 o2 T U W m σ Q = T m σ (fun a σ₁ => U m σ₁ fun b σ₂ => o1 a b σ₂ fun v σ₃ => isB v fun x => if x then W m σ₃ fun c σ₄ => o2 b c σ₄ fun u σ₅ => isB u fun y => Q y σ₅ else Q false σ₃) := rfl
section
variable {σ : View} {Q : V → View → Prop} {ns : List Int}
@[simp] theorem add_int {x y : Int} : opAdd (.int x) (.int y) σ Q = Q (.int (x + y)) σ := rfl
@[simp] theorem add_str {x y : Str} : opAdd (.str x) (.str y) σ Q = (x.length + y.length ≤ 16777216 ∧ Q (.str (x ++ y)) σ) := rfl
@[simp] theorem sub_int {x y : Int} : opSub (.int x) (.int y) σ Q = Q (.int (x - y)) σ := rfl
@[simp] theorem mul_int {x y : Int} : opMul (.int x) (.int y) σ Q = ((Short x ∨ Short y) ∧ Q (.int (x * y)) σ) := rfl
@[simp] theorem mod_int {x y : Int} : opMod (.int x) (.int y) σ Q = (0 < y ∧ Q (.int (x % y)) σ) := rfl
@[simp] theorem div_int {x y : Int} : opDiv (.int x) (.int y) σ Q = ((0 < y ∧ y < 1073741824) ∧ Q (.int (x / y)) σ) := rfl
@[simp] theorem lt_int {x y : Int} : opLt (.int x) (.int y) σ Q = Q (.bool (decide (x < y))) σ := rfl
@[simp] theorem le_int {x y : Int} : opLe (.int x) (.int y) σ Q = Q (.bool (decide (x ≤ y))) σ := rfl
@[simp] theorem gt_int {x y : Int} : opGt (.int x) (.int y) σ Q = Q (.bool (decide (y < x))) σ := rfl
@[simp] theorem eq_int {x y : Int} : opEq0 (.int x) (.int y) σ Q = Q (.bool (decide (x = y))) σ := rfl
@[simp] theorem eq_str {x y : Str} : opEq0 (.str x) (.str y) σ Q = Q (.bool (decide (x = y))) σ := rfl
@[simp] theorem eq_bool {x y : Bool} : opEq0 (.bool x) (.bool y) σ Q = Q (.bool (x == y)) σ := rfl
@[simp] theorem eq_nn : opEq0 .none .none σ Q = Q (.bool true) σ := rfl
@[simp] theorem eq_ns {y : Str} : opEq0 .none (.str y) σ Q = Q (.bool false) σ := rfl
@[simp] theorem eq_sn {y : Str} : opEq0 (.str y) .none σ Q = Q (.bool false) σ := rfl
@[simp] theorem ne_int {x y : Int} : opNe0 (.int x) (.int y) σ Q = Q (.bool (!decide (x = y))) σ := rfl
@[simp] theorem ne_str {x y : Str} : opNe0 (.str x) (.str y) σ Q = Q (.bool (!decide (x = y))) σ := rfl
@[simp] theorem ne_bool {x y : Bool} : opNe0 (.bool x) (.bool y) σ Q = Q (.bool (!(x == y))) σ := rfl
@[simp] theorem ne_nn : opNe0 .none .none σ Q = Q (.bool false) σ := rfl
@[simp] theorem ne_ns {y : Str} : opNe0 .none (.str y) σ Q = Q (.bool true) σ := rfl
@[simp] theorem ne_sn {y : Str} : opNe0 (.str y) .none σ Q = Q (.bool true) σ := rfl
@[simp] theorem in_str {x y : Str} : opInS (.str y) (.str x) σ Q = Q (.bool (Txt.contains x y)) σ := rfl
@[simp] theorem notin_str {x y : Str} : opNotInS (.str y) (.str x) σ Q = Q (.bool (!Txt.contains x y)) σ := rfl
@[simp] theorem len_str {x : Str} : spLen ns [.str x] σ Q = (x.length ≤ 16777216 ∧ Q (.int x.length) σ) := rfl
@[simp] theorem len_script : spLen ns [.script] σ Q = Q (.int ns.length) σ := rfl
@[simp] theorem len_tup {vs : List V} : spLen ns [.tup vs] σ Q = (vs.length ≤ 16777216 ∧ Q (.int vs.length) σ) := rfl
theorem len_list {a : Addr} {xs : List V} (h : σ a = some (.list xs)) : spLen ns [.ref a] σ Q = Q (.int xs.length) σ := by show lenRef σ Q (σ a) = _; rw [h]; rfl
theorem len_dict {a : Addr} {kvs : List (Str × V)} {ep : Nat} (h : σ a = some (.dict kvs ep)) : spLen ns [.ref a] σ Q = Q (.int kvs.length) σ := by show lenRef σ Q (σ a) = _; rw [h]; rfl
@[simp] theorem min_int {x y : Int} : spMin [.int x, .int y] σ Q = Q (.int (min x y)) σ := rfl
@[simp] theorem int_bool {b : Bool} : spInt [.bool b] σ Q = Q (.int (if b then 1 else 0)) σ := rfl
@[simp] theorem str_int {i : Int} : spStr [.int i] σ Q = (i.natAbs.log2 < 1920 ∧ Q (.str (Str.ofString (toString i))) σ) := rfl
@[simp] theorem starts_str {x y : Str} : spStarts [.str x, .str y] σ Q = Q (.bool (Txt.startswith x y)) σ := rfl
@[simp] theorem split_str {x y : Str} : spSplit [.str x, .str y] σ Q = ((y.length = 1 ∧ x.length ≤ 1048576) ∧ newL ((Txt.split x y).map .str) σ Q) := rfl
theorem join_list {x : Str} {a : Addr} {ys : List Str} (h : σ a = some (.list (ys.map .str))) (hl : (ys.map (·.length)).sum + ys.length * x.length ≤ 16777216) (q : Q (.str (Str.join x ys)) σ) : spJoin [.str x, .ref a] σ Q := ⟨ys, h, hl, q⟩
theorem isi_list {a : Addr} {xs : List V} (h : σ a = some (.list xs)) : spIsi [.ref a, .ty "list"] σ Q = Q (.bool true) σ := by
 simp [spIsi, onVT, on2, on1, isT, Mine.isi, h]
@[simp] theorem isi_str {b : Str} : spIsi [.str b, .ty "str"] σ Q = Q (.bool true) σ := by simp [spIsi, onVT, on2, on1, isT, Mine.isi]
@[simp] theorem isi_tup {vs : List V} : spIsi [.tup vs, .ty "tuple"] σ Q = Q (.bool true) σ := by simp [spIsi, onVT, on2, on1, isT, Mine.isi]
@[simp] theorem tyStr_str {x : Str} : tyStr (.str x) σ = True := rfl
theorem tyList_ref {a : Addr} {xs : List V} (h : σ a = some (.list xs)) : tyList (.ref a) σ = True := by simp [tyList, h]
@[simp] theorem range_1 {n : Int} {R : List V → (View → Prop) → View → Prop} : rangeOf [.int n] σ R = ((-(2 ^ 62) ≤ n ∧ n < 2 ^ 62) ∧ R (rangeL 0 n.toNat) (fun _ => True) σ) := rfl
@[simp] theorem range_2 {a b : Int} {R : List V → (View → Prop) → View → Prop} : rangeOf [.int a, .int b] σ R = ((-(2 ^ 62) ≤ a ∧ a < 2 ^ 62 ∧ -(2 ^ 62) ≤ b ∧ b < 2 ^ 62) ∧ R (rangeL a (b - a).toNat) (fun _ => True) σ) := rfl
@[simp] theorem iter_str {x : Str} {R : List V → (View → Prop) → View → Prop} : iterOf ns (.str x) σ R = R (signs x) (fun _ => True) σ := rfl
theorem iter_list {a : Addr} {xs : List V} (h : σ a = some (.list xs)) {R : List V → (View → Prop) → View → Prop} : iterOf ns (.ref a) σ R = R xs (fun σ => σ a = some (.list xs)) σ := by show iterRef a σ R (σ a) = _; rw [h]; rfl
theorem iter_tup {vs : List V} {R : List V → (View → Prop) → View → Prop} : iterOf ns (.tup vs) σ R = R vs (fun _ => True) σ := rfl
theorem idx_pos {i : Int} {n : Nat} (h0 : 0 ≤ i) (h : i.toNat < n) : idx i n = some i.toNat := by unfold idx; rw [if_pos h0, if_pos (lt_nat h0 h)]
theorem item_list {a : Addr} {xs : List V} {i : Int} {v : V} (h : σ a = some (.list xs)) (h0 : 0 ≤ i) (hv : xs[i.toNat]? = some v) (q : Q v σ) : opItem ns (.ref a) (.int i) σ Q := by
 refine ⟨xs, i.toNat, v, h, ?_, hv, q⟩
 exact idx_pos h0 (List.getElem?_eq_some_iff.mp hv).1
theorem item_str {x : Str} {i : Int} {c : Nat} (hz : x.length < 16777217) (h0 : 0 ≤ i) (hv : x.cps.toList[i.toNat]? = some c) (q : Q (.str ⟨#[c]⟩) σ) : opItem ns (.str x) (.int i) σ Q := by
 refine ⟨hz, i.toNat, c, ?_, hv, q⟩
 exact idx_pos h0 (List.getElem?_eq_some_iff.mp hv).1
theorem cut_list {a : Addr} {xs : List V} {lo hi : Option Int} (h : σ a = some (.list xs)) (q : newL (pyCut xs lo hi) σ Q) : opCut ns lo hi (.ref a) σ Q := ⟨xs, h, q⟩
theorem append_list {a : Addr} {xs : List V} {v : V} (h : σ a = some (.list xs)) (hz : xs.length < 16777216) (q : Q .none (upd σ a (.list (xs ++ [v])))) : spAppend [.ref a, v] σ Q := ⟨xs, h, hz, q⟩
theorem cell_item {k : Int} (h0 : 0 ≤ k) (h : k < ns.length) (q : Q (.int (cell ns k)) σ) : opItem ns .script (.int k) σ Q := by
 refine ⟨k.toNat, ns.getD k.toNat 0, h0, ?_, ?_, q⟩
 ·unfold idx; rw [if_pos h0, if_pos h]
 ·rw [List.getD_eq_getElem?_getD]
  cases e : ns[k.toNat]? with
  | none => rw [List.getElem?_eq_none_iff] at e; exact absurd (nat_lt h0 h) (Nat.not_lt.mpr e)
  | some n => rfl
theorem cell_out {k : Int} (h0 : 0 ≤ k) (h : ¬ k < ns.length) : cell ns k = 0 := by
 unfold cell
 rw [List.getD_eq_getElem?_getD, List.getElem?_eq_none (Nat.le_of_not_lt fun g => h (lt_nat h0 g))]; rfl
theorem clip_nat {n : Int} {k : Nat} (h0 : 0 ≤ n) : clipAt k n = min n.toNat k := by
 unfold clipAt
 rw [if_neg (Int.not_lt.mpr h0)]
 obtain ⟨m, rfl⟩ := Int.eq_ofNat_of_zero_le h0
 by_cases h : m ≤ k
 ·rw [Int.min_eq_left (Int.ofNat_le.mpr h), Int.max_eq_right (Int.natCast_nonneg _), Int.toNat_natCast, Nat.min_eq_left h]
 ·have h' : k ≤ m := Nat.le_of_not_le h
  rw [Int.min_eq_right (Int.ofNat_le.mpr h'), Int.max_eq_right (Int.natCast_nonneg _), Int.toNat_natCast, Int.toNat_natCast, Nat.min_eq_right h']
theorem cut_take {α : Type} (l : List α) {n : Int} (h0 : 0 ≤ n) : pyCut l Option.none (some n) = l.take n.toNat := by
 unfold pyCut clip
 simp only [Option.elim]
 rw [clip_nat h0, List.drop_zero, Nat.sub_zero, ← List.take_eq_take_min]
end
end Mine
end
noncomputable section
namespace Mine
open PySem PySem.W PyProof.Rows PySem.Calls
abbrev cl (x : Str) : List Nat := x.cps.toList
theorem cl_inj {x y : Str} (h : cl x = cl y) : x = y := by
 cases x; cases y; simp [cl] at h; rw [h]
theorem cl_append (x y : Str) : cl (x ++ y) = cl x ++ cl y := by
 show (x.cps ++ y.cps).toList = _; simp
theorem cl_len (x : Str) : x.length = (cl x).length := by simp [Str.length]
noncomputable def jn (c : Nat) : List (List Nat) → List Nat
 | [] => []
 | [x] => x
 | x :: y :: r => x ++ c :: jn c (y :: r)
theorem cl_join (c : Nat) : ∀ xs : List Str, cl (Str.join ⟨#[c]⟩ xs) = jn c (xs.map cl)
 | [] => rfl
 | [x] => rfl
 | x :: y :: r => by
  have ih := cl_join c (y :: r)
  simp only [List.map_cons] at ih
  simp only [List.map_cons, jn, Str.join, cl_append, ih]
  rw [List.append_assoc]; rfl
noncomputable def Free (c : Nat) (xs : List (List Nat)) : Prop := ∀ x ∈ xs, c ∉ x
theorem cut_eq {c : Nat} : ∀ {x y a b : List Nat}, c ∉ x → c ∉ y → x ++ c :: a = y ++ c :: b → x = y ∧ a = b
 | [], [], a, b, _, _, h => by simp at h; exact ⟨rfl, h⟩
 | [], d :: y, a, b, _, hy, h => by simp at h; exact absurd (h.1 ▸ List.mem_cons_self ..) hy
 | d :: x, [], a, b, hx, _, h => by simp at h; exact absurd (h.1 ▸ List.mem_cons_self ..) hx
 | d :: x, e :: y, a, b, hx, hy, h => by
  simp at h hx hy
  obtain ⟨rfl, h⟩ := h
  obtain ⟨rfl, rfl⟩ := cut_eq hx.2 hy.2 h
  exact ⟨rfl, rfl⟩
theorem jn_inj {c : Nat} : ∀ {xs ys : List (List Nat)}, Free c xs → Free c ys → xs ≠ [] → ys ≠ [] → jn c xs = jn c ys → xs = ys
 | [], _, _, _, h, _, _ => absurd rfl h
 | _, [], _, _, _, h, _ => absurd rfl h
 | [x], [y], _, _, _, _, e => by simp [jn] at e; rw [e]
 | [x], y :: z :: r, fx, _, _, _, e => by
  simp only [jn] at e
  exact absurd (by rw [e]; simp) (fx x (.head _))
 | x :: z :: r, [y], _, fy, _, _, e => by
  simp only [jn] at e
  exact absurd (by rw [← e]; simp) (fy y (.head _))
 | x :: z :: r, y :: u :: q, fx, fy, _, _, e => by
  simp only [jn] at e
  obtain ⟨rfl, e'⟩ := cut_eq (fx x (.head _)) (fy y (.head _)) e
  rw [jn_inj (fun a h => fx a (.tail _ h)) (fun a h => fy a (.tail _ h)) (by simp) (by simp) e']
theorem jn_prefix {c : Nat} : ∀ {xs ys : List (List Nat)}, Free c xs → Free c ys → xs ≠ [] → ys ≠ [] → (jn c xs ++ [c] <+: jn c ys ↔ xs.length < ys.length ∧ ys.take xs.length = xs)
 | [], _, _, _, h, _ => absurd rfl h
 | _, [], _, _, _, h => absurd rfl h
 | [x], [y], _, fy, _, _ => by
  simp only [jn]
  constructor
  ·rintro ⟨t, e⟩; exact absurd (by rw [← e]; simp) (fy y (.head _))
  ·rintro ⟨h, _⟩; simp at h
 | x :: z :: r, [y], _, fy, _, _ => by
  simp only [jn]
  constructor
  ·rintro ⟨t, e⟩; exact absurd (by rw [← e]; simp) (fy y (.head _))
  ·rintro ⟨h, _⟩; simp at h
 | [x], y :: u :: q, fx, fy, _, _ => by
  simp only [jn]
  constructor
  ·rintro ⟨t, e⟩
   obtain ⟨rfl, _⟩ := cut_eq (a := t) (fx x (.head _)) (fy y (.head _)) (by simpa using e)
   simp
  ·rintro ⟨_, h⟩
   simp at h
   subst h
   exact ⟨jn c (u :: q), by simp⟩
 | x :: z :: r, y :: u :: q, fx, fy, _, _ => by
  have ih := jn_prefix (c := c) (xs := z :: r) (ys := u :: q) (fun a h => fx a (.tail _ h)) (fun a h => fy a (.tail _ h)) (by simp) (by simp)
  simp only [jn]
  constructor
  ·rintro ⟨t, e⟩
   obtain ⟨rfl, e'⟩ := cut_eq (a := jn c (z :: r) ++ [c] ++ t) (fx x (.head _)) (fy y (.head _)) (by simpa using e)
   obtain ⟨h1, h2⟩ := ih.mp ⟨t, e'⟩
   exact ⟨by simpa using h1, by simpa using h2⟩
  ·rintro ⟨h1, h2⟩
   simp only [List.length_cons, List.take_succ_cons, List.cons.injEq] at h1 h2
   obtain ⟨rfl, h2⟩ := h2
   obtain ⟨t, e⟩ := ih.mpr ⟨by simpa using h1, by simpa using h2⟩
   exact ⟨t, by rw [← e]; simp⟩
noncomputable def Fr (x : Str) : Prop := 47 ∉ cl x
theorem sl_eq : Str.ofString "/" = ⟨#[47]⟩ := by decide +kernel
theorem free_map {xs : List Str} (h : ∀ x ∈ xs, Fr x) : Free 47 (xs.map cl) := fun a ha => by
 obtain ⟨x, hx, rfl⟩ := List.mem_map.mp ha; exact h x hx
theorem map_cl_inj : ∀ {xs ys : List Str}, xs.map cl = ys.map cl → xs = ys
 | [], [], _ => rfl
 | [], _ :: _, h => by simp at h
 | _ :: _, [], h => by simp at h
 | x :: xs, y :: ys, h => by simp only [List.map_cons, List.cons.injEq] at h; rw [cl_inj h.1, map_cl_inj h.2]
theorem join_inj {xs ys : List Str} (fx : ∀ x ∈ xs, Fr x) (fy : ∀ y ∈ ys, Fr y) (nx : xs ≠ []) (ny : ys ≠ []) (h : Str.join (Str.ofString "/") xs = Str.join (Str.ofString "/") ys) : xs = ys := by
 refine map_cl_inj (jn_inj (free_map fx) (free_map fy) (by simpa using nx) (by simpa using ny) ?_)
 rw [← cl_join, ← cl_join, ← sl_eq, h]
theorem starts_iff (x y : Str) : Txt.startswith x y = true ↔ cl y <+: cl x := by
 unfold Txt.startswith
 rw [StrLaws.subAt_eq, cl_len, cl_len, List.prefix_iff_eq_take]
 simp
 constructor
 ·rintro ⟨_, h⟩; exact h.symm
 ·intro h; refine ⟨?_, h.symm⟩
  have := congrArg List.length h
  simp at this
  omega
theorem starts_join {xs ys : List Str} (fx : ∀ x ∈ xs, Fr x) (fy : ∀ y ∈ ys, Fr y) (nx : xs ≠ []) (ny : ys ≠ []) :
  Txt.startswith (Str.join (Str.ofString "/") ys) (Str.join (Str.ofString "/") xs ++ Str.ofString "/") = decide (xs.length < ys.length ∧ ys.take xs.length = xs) := by
 rw [Bool.eq_iff_iff, starts_iff, decide_eq_true_eq, cl_append, sl_eq, cl_join, cl_join]
 have := jn_prefix (free_map fx) (free_map fy) (by simpa using nx) (by simpa using ny)
 rw [show cl ⟨#[47]⟩ = [47] from rfl, this]
 simp only [List.length_map, ← List.map_take]
 constructor
 ·rintro ⟨h, e⟩; exact ⟨h, map_cl_inj e⟩
 ·rintro ⟨h, e⟩; exact ⟨h, by rw [e]⟩
noncomputable def joinLen (xs : List Str) : Nat := (xs.map (·.length)).sum + xs.length
theorem join_len_le : ∀ (xs : List Str), (Str.join (Str.ofString "/") xs).length ≤ joinLen xs
 | [] => by simp [Str.join, joinLen, Str.length, Str.empty]
 | [x] => by simp [Str.join, joinLen]
 | x :: y :: r => by
  have ih := join_len_le (y :: r)
  have e : (Str.join (Str.ofString "/") (x :: y :: r)).length = x.length + 1 + (Str.join (Str.ofString "/") (y :: r)).length := by
   have : Str.join (Str.ofString "/") (x :: y :: r) = x ++ Str.ofString "/" ++ Str.join (Str.ofString "/") (y :: r) := rfl
   rw [this, cl_len, cl_append, cl_append, List.length_append, List.length_append, ← cl_len, ← cl_len, ← cl_len, sl_eq]
   rfl
  rw [e]
  simp [joinLen] at ih ⊢
  omega
theorem sl_len : (Str.ofString "/").length = 1 := by rw [sl_eq]; rfl
end Mine
end
noncomputable section
namespace Mine
open PySem PySem.W PyProof.Rows PySem.Calls
section
variable {C : Cx} {p : Program} {sc : Scope} {k : Nat}
noncomputable def opMulS : O2
 | .str x, .int n, σ, Q => MulOk x n ∧ Q (.str (Txt.mul x n)) σ
 | _, _, _, _ => False
end
@[simp] theorem mulS_eq {σ : View} {Q : V → View → Prop} {x : Str} {n : Int} : opMulS (.str x) (.int n) σ Q = (MulOk x n ∧ Q (.str (Txt.mul x n)) σ) := rfl
end Mine
end
noncomputable section
namespace Mine
open PySem PySem.W PyProof.Rows PySem.Calls
noncomputable def vstored {K : Type} [DecidableEq K] (kvs : List (K × V)) (k : K) (v : V) : List (K × V) :=
 if kvs.any (fun kv => kv.1 = k) then kvs.map (fun kv => if kv.1 = k then (kv.1, v) else kv) else kvs ++ [(k, v)]
noncomputable def vget {K : Type} [DecidableEq K] (kvs : List (K × V)) (k : K) : Option V := (kvs.find? fun kv => kv.1 = k).map (·.2)
noncomputable def vout {K : Type} [DecidableEq K] (kvs : List (K × V)) (k : K) : List (K × V) := kvs.filter fun kv => decide (kv.1 ≠ k)
section
variable {aS : Addr} {h : Heap}
variable {K : Type} [DecidableEq K] {a a' : List (K × V)} {b b' : List (K × Value)} {k : K}
theorem PRel.any (k : K) (x : PRel aS h a b) : (a.any fun kv => kv.1 = k) = (b.any fun kv => kv.1 = k) :=
 x.ind (P := fun a b => (a.any fun kv => kv.1 = k) = (b.any fun kv => kv.1 = k)) rfl fun _ _ _ _ _ _ _ ih => by simp only [List.any_cons, ih]
theorem PRel.append (x : PRel aS h a b) (y : PRel aS h a' b') : PRel aS h (a ++ a') (b ++ b') :=
 x.ind (P := fun a b => PRel aS h (a ++ a') (b ++ b')) y fun _ _ _ _ _ v _ ih => by rw [List.cons_append, List.cons_append]; exact ⟨rfl, v, ih⟩
theorem PRel.mapSet {v : V} {w : Value} (hv : VRel aS h v w) (x : PRel aS h a b) : PRel aS h (a.map fun kv => if kv.1 = k then (kv.1, v) else kv) (b.map fun kv => if kv.1 = k then (kv.1, w) else kv) :=
 x.ind (P := fun a b => PRel aS h (a.map fun kv => if kv.1 = k then (kv.1, v) else kv) (b.map fun kv => if kv.1 = k then (kv.1, w) else kv)) trivial fun x _ _ _ _ q _ ih => by
  rw [List.map_cons, List.map_cons]
  by_cases c : x = k
  ·rw [if_pos c, if_pos c]; exact ⟨rfl, hv, ih⟩
  ·rw [if_neg c, if_neg c]; exact ⟨rfl, q, ih⟩
theorem PRel.stored {v : V} {w : Value} (x : PRel aS h a b) (hv : VRel aS h v w) : PRel aS h (vstored a k v) (PySem.stored b k w) := by
 unfold vstored PySem.stored
 rw [x.any k]
 split
 ·exact x.mapSet hv
 ·exact x.append ⟨rfl, hv, trivial⟩
theorem PRel.find (x : PRel aS h a b) : ∀ {v : V}, vget a k = some v → ∃ w, valueAt b k = some w ∧ VRel aS h v w :=
 x.ind (P := fun a b => ∀ {v : V}, vget a k = some v → ∃ w, valueAt b k = some w ∧ VRel aS h v w) (fun e => by cases e) fun x _ z _ _ q _ ih v hv => by
  unfold vget at hv
  unfold valueAt
  by_cases c : x = k
  ·rw [List.find?_cons_of_pos (by simpa using c)] at hv
   rw [List.find?_cons_of_pos (by simpa using c)]
   cases hv; exact ⟨z, rfl, q⟩
  ·rw [List.find?_cons_of_neg (by simpa using c)] at hv
   rw [List.find?_cons_of_neg (by simpa using c)]
   exact ih hv
theorem PRel.none (x : PRel aS h a b) : (vget a k).isSome = (valueAt b k).isSome :=
 x.ind (P := fun a b => (vget a k).isSome = (valueAt b k).isSome) rfl fun x _ _ _ _ _ _ ih => by
  unfold vget valueAt
  by_cases c : x = k
  ·rw [List.find?_cons_of_pos (by simpa using c), List.find?_cons_of_pos (by simpa using c)]; rfl
  ·rw [List.find?_cons_of_neg (by simpa using c), List.find?_cons_of_neg (by simpa using c)]
   exact ih
theorem PRel.without (x : PRel aS h a b) : PRel aS h (vout a k) (PySem.without b k) :=
 x.ind (P := fun a b => PRel aS h (vout a k) (PySem.without b k)) trivial fun x _ _ _ _ q _ ih => by
  unfold vout PySem.without at *
  by_cases c : x = k
  ·rw [List.filter_cons_of_neg (by simpa using c), List.filter_cons_of_neg (by simpa using c)]; exact ih
  ·rw [List.filter_cons_of_pos (by simpa using c), List.filter_cons_of_pos (by simpa using c)]; exact ⟨rfl, q, ih⟩
end
section
variable {C : Cx} {p : Program} {sc : Scope} {k : Nat}
theorem key_is (x : Str) (t : Tok) : (strKind C.prog C.w).is x (.str x t) = true := by
 show Value.isStrOf x (.str x t) = true
 simp [Value.isStrOf]
noncomputable def newD (kvs : List (Str × V)) (σ : View) (Q : V → View → Prop) : Prop := ∀ a ep, σ a = Option.none → Q (.ref a) (upd σ a (.dict kvs ep))
noncomputable def eDict0 : ET := fun _ σ Q => newD [] σ Q
theorem HE.dict0 {pos : Pos} : HE C sc k (.Dict [] [] pos) eDict0 := by
 refine ⟨?_⟩; intro env A s m σ Q P E en ao R F q hP
 have hn := size_none s.heap
 obtain ⟨ep, hat⟩ := (Heap.DictOf.new (knd := strKind C.prog C.w) s.heap).dictAt
 refine wpAny_Dict_empty (hP (.ref s.heap.objs.size) (.ref s.heap.objs.size) (upd σ s.heap.objs.size (.dict [] ep)) _ (.ref _) ?_ .addPush (q _ ep (R.freshNone hn)))
 have := R.add (tk := s.toks) (a := s.heap.objs.size) (o := .dict [] ep) push_old hn (h' := s.heap.push { cls := .type "dict", data := .dict #[] }) ⟨by simp, [], hat, trivial⟩
 exact this
noncomputable def setD : V → V → V → View → (View → Prop) → Prop := fun o i v σ Q => isR o fun a => isS i fun k => ∃ kvs ep, σ a = some (.dict kvs ep) ∧ kvs.length < 16777216 ∧ ∀ ep', Q (upd σ a (.dict (vstored kvs k v) ep'))
theorem dict_notT {h : Heap} {a : Addr} {kws : List (Str × Value)} {ep : Nat} (x : h.DictAt (strKind C.prog C.w) a kws ep) : ∀ o, h.get? a = some o → ¬ IsT o := by
 intro o ho
 obtain ⟨o', es, ho', hc, hd, _⟩ := x
 rw [ho] at ho'; cases ho'
 simp [IsT, hd]
theorem vstored_len (kvs : List (Str × V)) (x : Str) (v : V) : (vstored kvs x v).length ≤ kvs.length + 1 := by
 unfold vstored; split <;> simp
theorem ok_setD : OpSet C k setD := by
 intro A s σ o i v wo wi w Q P E ao R vo vi vv q hP
 replace q := isR.elim q
 obtain ⟨a, rfl, q⟩ := q
 replace q := isS.elim q
 obtain ⟨x, rfl, q⟩ := q
 ·cases vo; cases vi
  obtain ⟨kvs, ep, hx, hz, q⟩ := q
  obtain ⟨_, kws, h1, h2⟩ := R.view _ _ hx
  have hl := h2.length
  refine wpAny_setItem_pairs (knd := strKind C.prog C.w) (key_is x _) h1.dictOf (fun h' hd' hs' => ?_) (by rw [sizeLine_eq, ← hl]; omega)
  obtain ⟨ep', hat⟩ := hd'.dictAt
  have kt : TupKeep s.heap h' := fun b o eb ht => hs'.extBut b o (by rintro rfl; exact dict_notT h1 o eb ht) eb
  have vl := vstored_len kvs x v
  exact hP (upd σ a (.dict (vstored kvs x v) ep')) _ (R.change (tk := s.toks + 1) hx hs' ⟨by omega, _, hat, (h2.stored vv).keep kt⟩) (.change hx hs') (q ep')
noncomputable def opInD : O2 := fun i o σ Q => isS i fun x => isR o fun a => ∃ kvs ep, σ a = some (.dict kvs ep) ∧ Q (.bool (vget kvs x).isSome) σ
theorem ok_inD (O : C.Ok) : Op2 C k (compareOp .In) opInD := by
 intro A s σ a b wa wb Q P E ao R va vb q hP
 replace q := isS.elim q
 obtain ⟨x, rfl, q⟩ := q
 replace q := isR.elim q
 obtain ⟨a, rfl, q⟩ := q
 ·cases va; cases vb
  obtain ⟨kvs, ep, hx, q⟩ := q
  obtain ⟨_, kws, h1, h2⟩ := R.view _ _ hx
  refine wpAny_in_of (knd := strKind C.prog C.w) (key_is x _) (O.noMods (R.apart a (by rw [hx]; simp))) h1.dictOf.mapOf ?_
  rw [← h2.none]
  exact hP _ _ σ _ (.bool _) (R.tok _) Step.refl q
noncomputable def onO (o : Option AObj) (D : List (Str × V) → Prop) (L : List V → Prop) : Prop := match o with | some (.dict kvs _) => D kvs | some (.list xs) => L xs | _ => False
theorem onO.elim {o : Option AObj} {D : List (Str × V) → Prop} {L : List V → Prop} (h : onO o D L) : (∃ kvs ep, o = some (.dict kvs ep) ∧ D kvs) ∨ ∃ xs, o = some (.list xs) ∧ L xs := by
 cases o with
 | none => exact False.elim h
 | some o => cases o <;> first | exact .inl ⟨_, _, rfl, h⟩ | exact .inr ⟨_, rfl, h⟩ | exact False.elim h
noncomputable def spListD : Spec := fun vs σ Q => onR vs fun a => onO (σ a) (fun kvs => newL (kvs.map fun q => .str q.1) σ Q) fun xs => newL xs σ Q
theorem items_rel {aS : Addr} {h : Heap} : ∀ (vs : List V) (ws : List Value), ws.length = vs.length → (∀ (j : Nat) (v : V) w, vs[j]? = some v → ws[j]? = some w → VRel aS h v w) → VRels aS h vs ws
 | [], [], _, _ => .nil
 | [], _ :: _, h, _ => by simp at h
 | _ :: _, [], h, _ => by simp at h
 | v :: vs, w :: ws, hl, hj => .cons (hj 0 v w rfl rfl) (items_rel vs ws (by simpa using hl) fun j v w e1 e2 => hj (j + 1) v w (by simpa using e1) (by simpa using e2))
theorem ok_listD (O : C.Ok) (hpl : C.held = Option.none) : OpN C k (fun ws => PySem.call (.type "list") ws) spListD := by
 intro A s σ vs ws Q P E ao R hv q hP
 replace q := onR.elim q
 obtain ⟨a, rfl, q⟩ := q
 ·obtain ⟨wa, rfl, h1⟩ := hv.inv1
  cases h1
  rcases onO.elim q with ⟨kvs, ep, hx, q⟩ | ⟨xs, hx, q⟩
  ·obtain ⟨hz, kws, h2, h3⟩ := R.view _ _ hx
   have hl := h3.length
   refine with_size (kdl_call (kdl_dict (knd := strKind C.prog C.w) (kvs := kws) (ep := ep) (O.noMods (R.apart a (by rw [hx]; simp)))) (ao.none hpl) h2 (kdl_size (by omega)) fun h' tk acc c hk hD hacc => ?_)
   intro hsz
   have hn := size_none s.heap
   have rel : VRels C.aS h' (kvs.map fun q => .str q.1) acc.toList := by
    refine items_rel _ _ (by simp [hacc.1, hl]) fun j v w e1 e2 => ?_
    rw [List.getElem?_map] at e1
    obtain ⟨⟨ky, u⟩, e3, rfl⟩ := Option.map_eq_some_iff.mp e1
    obtain ⟨k', x', e4, e5⟩ := hacc.2 j w (by rw [← Array.getElem?_toList]; exact e2)
    obtain ⟨w', e6, _⟩ := h3.get e3
    rw [e6] at e4; cases e4
    obtain ⟨t, rfl⟩ := Value.isStrOf_shape e5
    exact .str _ _
   refine hP (.ref s.heap.objs.size) _ (upd σ s.heap.objs.size (.list (kvs.map fun q => .str q.1))) _ (.ref _) (R.add (tk := tk) hk hn ⟨by simp; omega, acc.toList, ⟨c, by simpa using hD⟩, rel⟩) (.add hk hsz (Nat.le_refl _)) (q _ (R.freshNone hn))
  ·obtain ⟨hz, us, ⟨n, h2⟩, h3⟩ := R.view _ _ hx
   have hl := h3.length
   refine with_size (call_list_seq a (.inl rfl) h2 rfl rfl (fun h' c' hk hD => ?_) (by rw [List.size_toArray, sizeLine_eq]; omega))
   intro hsz
   have hn := size_none s.heap
   exact hP (.ref s.heap.objs.size) _ (upd σ s.heap.objs.size (.list xs)) _ (.ref _) (R.add (tk := s.toks) hk hn ⟨hz, us, ⟨c', by simpa using hD⟩, h3.keep fun b o e _ => hk b o e⟩) (.add hk hsz (Nat.le_refl _)) (q _ (R.freshNone hn))
end
end Mine
end
noncomputable section
namespace Mine
open PySem PySem.W PyProof.Rows PySem.Calls
section
variable {C : Cx} {p : Program} {sc : Scope} {k : Nat}
noncomputable def tyDict : V → View → Prop
 | .ref a, σ => ∃ kvs ep, σ a = some (.dict kvs ep)
 | _, _ => False
theorem tyDict_ok : TyOk C "dict" tyDict := by
 intro o wo σ s R hv h
 cases hv <;> first | exact h.elim | skip
 obtain ⟨kvs, ep, hx⟩ := h
 obtain ⟨_, ws, h1, h2⟩ := R.view _ _ hx
 exact ⟨h1.dictOf.typeIs, h1.dictOf.mapOf.noDict⟩
theorem vout_len (kvs : List (Str × V)) (x : Str) : (vout kvs x).length ≤ kvs.length := List.length_filter_le _ _
noncomputable def spPop : Spec := fun vs σ Q => onRS vs fun a x => ∃ kvs ep v, σ a = some (.dict kvs ep) ∧ vget kvs x = some v ∧ ∀ ep', Q v (upd σ a (.dict (vout kvs x) ep'))
theorem ok_pop : OpN C k (fun ws => PySem.call (.builtin "dict.pop") ws) spPop := by
 intro A s σ vs ws Q P E ao R hv q hP
 replace q := onRS.elim q
 obtain ⟨a, x, rfl, q⟩ := q
 ·obtain ⟨wa, wb, rfl, h1, h2⟩ := hv.inv2
  cases h1; cases h2
  obtain ⟨kvs, ep, v, hx, hv, q⟩ := q
  obtain ⟨hz, kws, h1, h2⟩ := R.view _ _ hx
  obtain ⟨w, e1, e2⟩ := h2.find hv
  have hl := h2.length
  refine call_meetsIn F.slot_dict_pop h1.dictOf.typeIs F.entry_dict_pop (F.args_dict_pop_2 _ _) (meets_dict_pop_there (strKind C.prog C.w) a (key_is x _) [] (.inl rfl) rfl) ⟨kws, w, h1.dictOf, by rw [sizeLine_eq]; omega, e1, fun h' hd' hs' => ?_⟩
  obtain ⟨ep', hat⟩ := hd'.dictAt
  have kt : TupKeep s.heap h' := fun b o eb ht => hs'.extBut b o (by rintro rfl; exact dict_notT h1 o eb ht) eb
  have vl := vout_len kvs x
  exact hP v w (upd σ a (.dict (vout kvs x) ep')) _ (e2.keep kt) (R.change (tk := s.toks + 1) hx hs' ⟨by omega, _, hat, h2.without.keep kt⟩) (.change hx hs') (q ep')
theorem HE.popD {o : Expr} {apos pos : Pos} {es : List Expr} {To : ET} {L : LT} (ho : HE C sc k o To) (hl : HL C sc k es L) (hp : plainArgs es = true)
  (hbase : ∀ env, attributeBase o (Str.ofString "pop") env (eval o env) = eval o env) (hline : (apos.endLine == pos.line) = true) (hfew : es.length < 30) : HE C sc k (.Call (.Attribute o (Str.ofString "pop") apos) es [] pos) (eMeth tyDict spPop To L) :=
 HE.meth tyDict_ok F.plainAttrs_dict F.slot_dict_pop F.type_dict_pop ok_pop ho hl hp hbase hline hfew
theorem HE.listC (G : Gl C p) (hpl : C.held = Option.none) {np pos : Pos} {es : List Expr} {L : LT} (hn : sc.names.lookup (Str.ofString "list") = some .globalImplicit) (hl : HL C sc k es L) (hp : plainArgs es = true) : HE C sc k (.Call (.Name (Str.ofString "list") np) es [] pos) (eCall spListD L) :=
 HE.btype G.ok (ok_listD G.ok hpl) hn (G.free _ (by decide)) (G.blt bb_list (by decide)) rfl hl hp
end
end Mine
end
noncomputable section
namespace Mine
open PySem PySem.W PyProof.Rows PySem.Calls
theorem compL_all {g : Tgt} {inv : View → Prop} {T : ET} {m : Loc} (P : View → Prop) (R : Nat → V → Prop) (hinv : ∀ σ, P σ → inv σ) :
  ∀ (items acc : List V) (n : Nat) (σ : View) (Q : List V → View → Prop), acc.length + items.length ≤ 1048576 →
  (∀ (i : Nat) v, items[i]? = some v → ∀ σ (Q' : V → View → Prop), P σ → (∀ y σ', P σ' → R (n + i) y → Q' y σ') → ∃ m', bindT g v m = some m' ∧ T m' σ Q') →
  P σ → (∀ ys σ', P σ' → ys.length = items.length → (∀ (i : Nat) y, ys[i]? = some y → R (n + i) y) → Q (acc ++ ys) σ') → compL g inv tT T m items acc σ Q
 | [], acc, n, σ, Q, hz, step, p, q => by
  simp only [compL]
  exact ⟨hinv σ p, by simpa using q [] σ p rfl (fun i y e => by simp at e)⟩
 | v :: r, acc, n, σ, Q, hz, step, p, q => by
  simp only [compL]
  simp at hz
  obtain ⟨m', h1, h2⟩ := step 0 v rfl σ (fun y σ₂ => acc.length < 1048576 ∧ compL g inv tT T m r (acc ++ [y]) σ₂ Q) p (fun y σ' p' hy => by
   refine ⟨by exact Nat.lt_of_le_of_lt (Nat.le_add_right _ _) hz, compL_all P R hinv r (acc ++ [y]) (n + 1) σ' Q (by simp; exact Nat.le_of_not_lt fun hg => lin [(acc.length), (r.length)] [(1, (.a (.v 0) (.a (.v 1) (.n 1))), (.n 1048576)), (1, (.a (.n 1048576) (.n 1)), (.a (.a (.v 0) (.n 1)) (.v 1)))] rfl hz hg) (fun i v e => ?_) p' fun ys σ'' p'' hl hR => ?_⟩
   ·have := step (i + 1) v (by simpa using e)
    rw [show n + (i + 1) = n + 1 + i by omega] at this
    exact this
   ·have := q (y :: ys) σ'' p'' (by simp [hl]) fun i z e => by
     cases i with
     | zero => simp at e; subst e; exact hy
     | succ i => rw [show n + (i + 1) = n + 1 + i by omega]; exact hR i z (by simpa using e)
    simpa using this)
  exact ⟨hinv σ p, m', h1, by simpa [tT] using h2⟩
section
variable {σ : View} {Q : V → View → Prop} {ns : List Int}
theorem add_list {a b : Addr} {xs ys : List V} (ha : σ a = some (.list xs)) (hb : σ b = some (.list ys)) (hz : xs.length + ys.length ≤ 16777216) (q : newL (xs ++ ys) σ Q) : opAdd (.ref a) (.ref b) σ Q := ⟨xs, ys, ha, hb, hz, q⟩
@[simp] theorem eDict0_eq {m : Loc} : eDict0 m σ Q = newD [] σ Q := rfl
theorem set_dict {a : Addr} {kvs : List (Str × V)} {ep : Nat} {x : Str} {v : V} {R : View → Prop} (h : σ a = some (.dict kvs ep)) (hz : kvs.length < 16777216) (q : ∀ ep', R (upd σ a (.dict (vstored kvs x v) ep'))) : setD (.ref a) (.str x) v σ R := ⟨kvs, ep, h, hz, q⟩
theorem in_dict {a : Addr} {kvs : List (Str × V)} {ep : Nat} {x : Str} (h : σ a = some (.dict kvs ep)) (q : Q (.bool (vget kvs x).isSome) σ) : opInD (.str x) (.ref a) σ Q := ⟨kvs, ep, h, q⟩
theorem pop_dict {a : Addr} {kvs : List (Str × V)} {ep : Nat} {x : Str} {v : V} (h : σ a = some (.dict kvs ep)) (hv : vget kvs x = some v) (q : ∀ ep', Q v (upd σ a (.dict (vout kvs x) ep'))) : spPop [.ref a, .str x] σ Q := ⟨kvs, ep, v, h, hv, q⟩
theorem listc_dict {a : Addr} {kvs : List (Str × V)} {ep : Nat} (h : σ a = some (.dict kvs ep)) : spListD [.ref a] σ Q = newL (kvs.map fun q => .str q.1) σ Q := by show onO (σ a) _ _ = _; rw [h]; rfl
theorem tyDict_ref {a : Addr} {kvs : List (Str × V)} {ep : Nat} (h : σ a = some (.dict kvs ep)) : tyDict (.ref a) σ = True := by simp [tyDict, h]
theorem iter_dict {a : Addr} {kvs : List (Str × V)} {ep : Nat} (h : σ a = some (.dict kvs ep)) {R : List V → (View → Prop) → View → Prop} : iterOf ns (.ref a) σ R = R (kvs.map fun q => .str q.1) (fun σ => σ a = some (.dict kvs ep)) σ := by show iterRef a σ R (σ a) = _; rw [h]; rfl
end
theorem vget_isSome (kvs : List (Str × V)) (x : Str) : (vget kvs x).isSome = decide (x ∈ kvs.map (·.1)) := by
 unfold vget
 rw [Option.isSome_map, Bool.eq_iff_iff, List.find?_isSome]
 simp
theorem vget_mem {kvs : List (Str × V)} {x : Str} (h : x ∈ kvs.map (·.1)) : ∃ v, vget kvs x = some v ∧ (x, v) ∈ kvs := by
 have := vget_isSome kvs x
 rw [decide_eq_true h] at this
 obtain ⟨v, hv⟩ := Option.isSome_iff_exists.mp this
 refine ⟨v, hv, ?_⟩
 unfold vget at hv
 obtain ⟨⟨k', v'⟩, h1, h2⟩ := Option.map_eq_some_iff.mp hv
 have h3 := List.find?_some h1
 have h4 := List.mem_of_find?_eq_some h1
 simp at h3 h2
 subst h3; subst h2; exact h4
theorem vstored_mem {kvs : List (Str × V)} {k : Str} {v : V} {q : Str × V} (h : q ∈ vstored kvs k v) : q = (k, v) ∨ q ∈ kvs := by
 unfold vstored at h
 split at h
 ·obtain ⟨r, hr, rfl⟩ := List.mem_map.mp h
  by_cases c : r.1 = k
  ·rw [if_pos c, c]; exact .inl rfl
  ·rw [if_neg c]; exact .inr hr
 ·rcases List.mem_append.mp h with h | h
  ·exact .inr h
  ·simp at h; exact .inl h
theorem vstored_keys (kvs : List (Str × V)) (k : Str) (v : V) : ∀ x, x ∈ (vstored kvs k v).map (·.1) ↔ x = k ∨ x ∈ kvs.map (·.1) := by
 intro x
 unfold vstored
 split
 ·rename_i h
  have e : (kvs.map fun kv => if kv.1 = k then (kv.1, v) else kv).map (·.1) = kvs.map (·.1) := by
   rw [List.map_map]; apply List.map_congr_left; intro q _; simp only [Function.comp]; split <;> rfl
  rw [e]
  have hk : k ∈ kvs.map (·.1) := by
   obtain ⟨q, hq, e⟩ := List.any_eq_true.mp h
   exact List.mem_map.mpr ⟨q, hq, by simpa using e⟩
  constructor
  ·exact .inr
  ·rintro (rfl | h)
   ·exact hk
   ·exact h
 ·simp only [List.map_append, List.mem_append, List.map_cons, List.map_nil, List.mem_singleton]
  constructor
  ·rintro (h | h)
   ·exact .inr h
   ·exact .inl h
  ·rintro (h | h)
   ·exact .inr h
   ·exact .inl h
theorem vstored_nodup {kvs : List (Str × V)} {k : Str} {v : V} (h : (kvs.map (·.1)).Nodup) : ((vstored kvs k v).map (·.1)).Nodup := by
 unfold vstored
 split
 ·have e : (kvs.map fun kv => if kv.1 = k then (kv.1, v) else kv).map (·.1) = kvs.map (·.1) := by
   rw [List.map_map]; apply List.map_congr_left; intro q _; simp only [Function.comp]; split <;> rfl
  rw [e]; exact h
 ·rename_i hn
  rw [List.map_append, List.nodup_append]
  refine ⟨h, by simp, ?_⟩
  intro a ha b hb
  simp at hb
  subst hb
  rintro rfl
  obtain ⟨q, hq, e⟩ := List.mem_map.mp ha
  exact hn (List.any_eq_true.mpr ⟨q, hq, by simpa using e⟩)
theorem vout_nodup {kvs : List (Str × V)} {k : Str} (h : (kvs.map (·.1)).Nodup) : ((vout kvs k).map (·.1)).Nodup := h.sublist (List.filter_sublist.map _)
theorem vout_mem {kvs : List (Str × V)} {k : Str} {q : Str × V} (h : q ∈ vout kvs k) : q ∈ kvs := (List.mem_filter.mp h).1
end Mine
end
noncomputable section
namespace Mine
open PySem AutoSeq1 MeetsSeq MeetsSeq2 MeetsSeq3 SeqRoads2
noncomputable def EqW (C : Cx) (A : Around) (s : Shared) (y x : Value) (b : Bool) : Prop :=
 ∀ (E : Value → Shared → Prop) (Q : Bool → Shared → Prop), Q b s → wpAny (model C.prog C.w) A (eqBool y x) Q E s
noncomputable def EqWs (C : Cx) (A : Around) (s : Shared) : List Value → List Value → Bool → Prop
 | [], [], b => b = true
 | [], _ :: _, b => b = false
 | _ :: _, [], b => b = false
 | x :: xs, y :: ys, b => ∃ e, EqW C A s x y e ∧ ((e = true ∧ EqWs C A s xs ys b) ∨ (e = false ∧ b = false))
noncomputable def turnB (op : CmpOp) (b : Bool) : Bool := match op with | .Eq => b | _ => !b
noncomputable def CmpW (C : Cx) (A : Around) (s : Shared) (y x : Value) (b : Bool) : Prop :=
 ∀ (op : CmpOp) (E : Value → Shared → Prop) (Q : Value → Shared → Prop), op = .Eq ∨ op = .NotEq → Q (.bool (turnB op b)) s → wpAny (model C.prog C.w) A (richCompare op y x) Q E s
section
variable {C : Cx} {A : Around} {s : Shared}
theorem EqW.of_refs {l b : Addr} {k : Bool} (hne : l ≠ b) (h : CmpW C A s (.ref l) (.ref b) k) : EqW C A s (.ref l) (.ref b) k := fun E Q hq => by
 unfold eqBool
 refine wpAny_holding ?_
 refine wpAny_ite_split (fun hab => absurd (by have := eq_of_beq hab; injection this) hne) (fun _ => ?_)
 exact wpAny_bind (h .Eq E _ (.inl rfl) (wpAny_truthy_bool hq))
theorem EqW.at {y x : Value} {b : Bool} (h : SeqAt.EqAt A s y x b) : EqW C A s y x b := fun E Q hq => h C.prog C.w E Q hq
end
end Mine
end
noncomputable section
namespace Mine
open PySem AutoSeq1 MeetsSeq MeetsSeq2 MeetsSeq3 SeqRoads2
section
variable {C : Cx}
theorem EqWs.fin {A : Around} {s : Shared} {r : Bool} : ∀ {us vs : List Value}, [] = us.zip vs → EqWs C A s us vs r → r = decide (us.length = vs.length)
 | [], [], _, h => by cases (h : r = true); rfl
 | [], _ :: _, _, h => by cases (h : r = false); rfl
 | _ :: _, [], _, h => by cases (h : r = false); rfl
 | _ :: _, _ :: _, e, _ => by simp at e
theorem tup_eqW {A : Around} {s : Shared} {R : Result → Shared → Prop} (l b : Addr) (xs ys : List Value) (n n2 : Nat) (dd dd2 : Option Addr) (sl sl2 : Array (Option Value)) {r : Bool}
  (hl : s.heap.get? l = some { cls := .type "tuple", dict := dd, data := .seq xs.toArray n, slots := sl }) (hb : s.heap.get? b = some { cls := .type "tuple", dict := dd2, data := .seq ys.toArray n2, slots := sl2 })
  (he : EqWs C A.in1 s xs ys r) (h : R (.ok (.ret (.bool r))) s) :
  wpAny (model C.prog C.w) A.in1 (Builtin.«tuple.__eq__» ⟨[.ref l, .ref b], []⟩) (fun fin s' => match fin with | .done f => R (.ok f) s' | .again c' => c'.quiet = true ∧ codeAny (model C.prog C.w) A c' R s') (fun e s' => R (.error e) s') s := by
 obtain ⟨hp, g, d, tk, os⟩ := s
 have f2 := AutoSeq1.sub_tuple_tuple
 wp_walk using wpAny_loadPart' hl, wpAny_loadPart' hb, wpAny_forIn_list _ (fun rest b s' => b.1 = none ∧ s' = ⟨hp, g, d, tk, os⟩ ∧ ∃ us vs, rest = us.zip vs ∧ EqWs C A.in1 ⟨hp, g, d, tk, os⟩ us vs r ∧ (xs.length = ys.length ↔ us.length = vs.length)) _
 case turn =>
  rintro ⟨x, y⟩ rest b s' ⟨hb', rfl, us, vs, hz, hr, hlen⟩
  match us, vs, hz, hr with
  | [], _, hz, _ => simp at hz
  | _ :: _, [], hz, _ => simp at hz
  | u :: us, v :: vs, hz, ⟨e, h1, h2⟩ =>
   simp only [List.zip_cons_cons, List.cons.injEq, Prod.mk.injEq] at hz
   obtain ⟨⟨rfl, rfl⟩, rfl⟩ := hz
   dsimp only
   refine wpAny_bind (h1 _ _ ?_)
   rcases h2 with ⟨rfl, h2⟩ | ⟨rfl, h2⟩
   ·simp only [Bool.not_true, Bool.false_eq_true, if_false]
    exact wpAny_pure ⟨rfl, rfl, us, vs, rfl, h2, by simpa using hlen⟩
   ·subst h2
    simp only [Bool.not_false, if_true]
    refine wpAny_bind (wpAny_pure (wpAny_pure ?_))
    exact wpAny_pure h
 case fin =>
  rintro ⟨b1, b2⟩ s' ⟨hb', rfl, us, vs, hz, hr, hlen⟩
  simp only at hb'
  subst hb'
  have e := EqWs.fin hz hr
  dsimp only
  refine wpAny_pure ?_
  have e2 : Builtin.Tuple.tupleCompareSizes CmpOp.Eq xs.toArray.size ys.toArray.size = .bool r := by
   show Value.bool (xs.toArray.size == ys.toArray.size) = _
   rw [e, List.size_toArray, List.size_toArray]
   by_cases hq : xs.length = ys.length
   ·simp [hq, hlen.mp hq]
   ·have : ¬ us.length = vs.length := fun z => hq (hlen.mpr z)
    simp [hq, this]
  rw [e2]
  exact h
 case h => exact ⟨rfl, rfl, xs, ys, by simp, he, Iff.rfl⟩
theorem loop_eqW (l b : Addr) (xs ys : List Value) (n n2 : Nat) (dd dd2 : Option Addr) (sl sl2 : Array (Option Value)) (hsz : xs.length = ys.length) : ∀ (us vs : List Value) (i : Nat) {A : Around} {s : Shared} {R : Result → Shared → Prop} {r : Bool},
  us = xs.drop i → vs = ys.drop i → i ≤ xs.length →
  s.heap.get? l = some { cls := .type "list", dict := dd, data := .seq xs.toArray n, slots := sl } → s.heap.get? b = some { cls := .type "list", dict := dd2, data := .seq ys.toArray n2, slots := sl2 } →
  EqWs C A.in1 s us vs r → R (.ok (.ret (.bool r))) s →
  wpAny (model C.prog C.w) A.in1 (Builtin.«list.__eq__.loop» ⟨[.ref l, .ref b, rawInt i, rawInt 2], []⟩) (fun fin s' => match fin with | .done f => R (.ok f) s' | .again c' => c'.quiet = true ∧ codeAny (model C.prog C.w) A c' R s') (fun e s' => R (.error e) s') s := by
 intro us
 induction us with
 | nil =>
  intro vs i A s R r e1 e2 hi hl hb he h
  obtain ⟨hp, g, d, tk, os⟩ := s
  have hil : i = xs.length := drop_nil e1.symm hi
  have hv : vs = [] := by rw [e2]; exact List.drop_of_length_le (by exact Nat.le_of_not_lt fun hg => lin [(xs.length), (ys.length), i] [(1, (.v 1), (.v 0)), (1, (.v 0), (.v 2)), (1, (.a (.v 2) (.n 1)), (.v 1))] rfl (Nat.le_of_eq (Eq.symm hsz)) (Nat.le_of_eq (Eq.symm hil)) hg)
  subst hv
  cases (he : r = true)
  wp_walk using wpAny_loadPart' hl, wpAny_loadPart' hb
  have hi1 : xs.toArray[((i : Nat) : Int).toNat]? = none := by simp; exact Nat.le_of_eq hil.symm
  have hi2 : ys.toArray[((i : Nat) : Int).toNat]? = none := by simp; exact Nat.le_of_not_lt fun hg => lin [(xs.length), (ys.length), i] [(1, (.v 1), (.v 0)), (1, (.v 0), (.v 2)), (1, (.a (.v 2) (.n 1)), (.v 1))] rfl (Nat.le_of_eq (Eq.symm hsz)) (Nat.le_of_eq (Eq.symm hil)) hg
  rw [hi1, hi2]
  wp_walk using wpAny_loadPart' hl, wpAny_loadPart' hb
  show R (.ok (.ret (.bool (xs.toArray.size == ys.toArray.size)))) _
  simpa [hsz] using h
 | cons u us ih =>
  intro vs i A s R r e1 e2 hi hl hb he h
  obtain ⟨hp, g, d, tk, os⟩ := s
  have hlt : i < xs.length := drop_lt e1.symm
  have hlt2 : i < ys.length := by exact Nat.lt_of_lt_of_eq hlt hsz
  rw [List.drop_eq_getElem_cons hlt] at e1
  rw [List.drop_eq_getElem_cons hlt2] at e2
  injection e1 with e1 e3
  subst e2
  obtain ⟨e, h1, h2⟩ := he
  have hi1 : xs.toArray[((i : Nat) : Int).toNat]? = some u := by simp [hlt, e1]
  have hi2 : ys.toArray[((i : Nat) : Int).toNat]? = some ys[i] := by simp [hlt2]
  have hc : ((i : Int) + 1) = ((i + 1 : Nat) : Int) := by push_cast; rfl
  wp_walk using wpAny_loadPart' hl, wpAny_loadPart' hb
  rw [hi1, hi2]
  refine wpAny_bind (h1 _ _ ?_)
  rcases h2 with ⟨rfl, h2⟩ | ⟨rfl, h2⟩
  ·wp_walk
   rw [hc]
   exact ⟨plainId_quiet plain_eq_loop _, codeAny_builtin entry_eq_loop (by
    rw [Around.under_plainId plain_eq_loop _]
    exact ih (ys.drop (i + 1)) (i + 1) e3 rfl (by exact hlt) hl hb h2 h)⟩
  ·subst h2
   wp_walk using wpAny_loadPart' hl, wpAny_loadPart' hb
   rw [hi1, hi2]
   wp_walk
   simpa using h
theorem list_eqW {A : Around} {s : Shared} {R : Result → Shared → Prop} (l b : Addr) (xs ys : List Value) (n n2 : Nat) (dd dd2 : Option Addr) (sl sl2 : Array (Option Value)) {r : Bool}
  (hl : s.heap.get? l = some { cls := .type "list", dict := dd, data := .seq xs.toArray n, slots := sl }) (hb : s.heap.get? b = some { cls := .type "list", dict := dd2, data := .seq ys.toArray n2, slots := sl2 })
  (he : xs.length = ys.length → EqWs C A.in1 s xs ys r) (hne : xs.length ≠ ys.length → r = false) (h : R (.ok (.ret (.bool r))) s) :
  wpAny (model C.prog C.w) A.in1 (Builtin.«list.__eq__» ⟨[.ref l, .ref b], []⟩) (fun fin s' => match fin with | .done f => R (.ok f) s' | .again c' => c'.quiet = true ∧ codeAny (model C.prog C.w) A c' R s') (fun e s' => R (.error e) s') s := by
 obtain ⟨hp, g, d, tk, os⟩ := s
 have f3 := AutoSeq1.sub_list_list
 by_cases hsz : xs.length = ys.length
 ·have hn' : ¬ (xs.toArray.size != ys.toArray.size) = true := by simp [hsz]
  wp_walk using wpAny_loadPart' hl, wpAny_loadPart' hb
  exact ⟨plainId_quiet plain_eq_loop _, codeAny_builtin entry_eq_loop (by
   rw [Around.under_plainId plain_eq_loop _]
   exact loop_eqW l b xs ys n n2 dd dd2 sl sl2 hsz xs ys 0 rfl rfl (Nat.zero_le _) hl hb (he hsz) h)⟩
 ·have hc0 : (xs.toArray.size != ys.toArray.size) = true := by simpa using hsz
  cases hne hsz
  wp_walk using wpAny_loadPart' hl, wpAny_loadPart' hb
  exact h
theorem tup_neW {A : Around} {s : Shared} {R : Result → Shared → Prop} (l b : Addr) (xs ys : List Value) (n n2 : Nat) (dd dd2 : Option Addr) (sl sl2 : Array (Option Value)) {r : Bool}
  (hl : s.heap.get? l = some { cls := .type "tuple", dict := dd, data := .seq xs.toArray n, slots := sl }) (hb : s.heap.get? b = some { cls := .type "tuple", dict := dd2, data := .seq ys.toArray n2, slots := sl2 })
  (he : EqWs C A.in1 s xs ys r) (h : R (.ok (.ret (.bool (!r)))) s) :
  wpAny (model C.prog C.w) A.in1 (Builtin.«tuple.__ne__» ⟨[.ref l, .ref b], []⟩) (fun fin s' => match fin with | .done f => R (.ok f) s' | .again c' => c'.quiet = true ∧ codeAny (model C.prog C.w) A c' R s') (fun e s' => R (.error e) s') s := by
 obtain ⟨hp, g, d, tk, os⟩ := s
 have f2 := AutoSeq1.sub_tuple_tuple
 wp_walk using wpAny_loadPart' hl, wpAny_loadPart' hb, wpAny_forIn_list _ (fun rest b s' => b.1 = none ∧ s' = ⟨hp, g, d, tk, os⟩ ∧ ∃ us vs, rest = us.zip vs ∧ EqWs C A.in1 ⟨hp, g, d, tk, os⟩ us vs r ∧ (xs.length = ys.length ↔ us.length = vs.length)) _
 case turn =>
  rintro ⟨x, y⟩ rest b s' ⟨hb', rfl, us, vs, hz, hr, hlen⟩
  match us, vs, hz, hr with
  | [], _, hz, _ => simp at hz
  | _ :: _, [], hz, _ => simp at hz
  | u :: us, v :: vs, hz, ⟨e, h1, h2⟩ =>
   simp only [List.zip_cons_cons, List.cons.injEq, Prod.mk.injEq] at hz
   obtain ⟨⟨rfl, rfl⟩, rfl⟩ := hz
   dsimp only
   refine wpAny_bind (h1 _ _ ?_)
   rcases h2 with ⟨rfl, h2⟩ | ⟨rfl, h2⟩
   ·simp only [Bool.not_true, Bool.false_eq_true, if_false]
    exact wpAny_pure ⟨rfl, rfl, us, vs, rfl, h2, by simpa using hlen⟩
   ·subst h2
    simp only [Bool.not_false, if_true]
    refine wpAny_bind (wpAny_pure (wpAny_pure ?_))
    exact wpAny_pure h
 case fin =>
  rintro ⟨b1, b2⟩ s' ⟨hb', rfl, us, vs, hz, hr, hlen⟩
  simp only at hb'
  subst hb'
  have e := EqWs.fin hz hr
  dsimp only
  refine wpAny_pure ?_
  have e2 : Builtin.Tuple.tupleCompareSizes CmpOp.NotEq xs.toArray.size ys.toArray.size = .bool (!r) := by
   show Value.bool (xs.toArray.size != ys.toArray.size) = _
   rw [e, List.size_toArray, List.size_toArray]
   by_cases hq : xs.length = ys.length
   ·simp [hq, hlen.mp hq]
   ·have : ¬ us.length = vs.length := fun z => hq (hlen.mpr z)
    simp [hq, this]
  rw [e2]
  exact h
 case h => exact ⟨rfl, rfl, xs, ys, by simp, he, Iff.rfl⟩
theorem loop_neW (l b : Addr) (xs ys : List Value) (n n2 : Nat) (dd dd2 : Option Addr) (sl sl2 : Array (Option Value)) (hsz : xs.length = ys.length) : ∀ (us vs : List Value) (i : Nat) {A : Around} {s : Shared} {R : Result → Shared → Prop} {r : Bool},
  us = xs.drop i → vs = ys.drop i → i ≤ xs.length →
  s.heap.get? l = some { cls := .type "list", dict := dd, data := .seq xs.toArray n, slots := sl } → s.heap.get? b = some { cls := .type "list", dict := dd2, data := .seq ys.toArray n2, slots := sl2 } →
  EqWs C A.in1 s us vs r → R (.ok (.ret (.bool (!r)))) s →
  wpAny (model C.prog C.w) A.in1 (Builtin.«list.__eq__.loop» ⟨[.ref l, .ref b, rawInt i, rawInt 3], []⟩) (fun fin s' => match fin with | .done f => R (.ok f) s' | .again c' => c'.quiet = true ∧ codeAny (model C.prog C.w) A c' R s') (fun e s' => R (.error e) s') s := by
 intro us
 induction us with
 | nil =>
  intro vs i A s R r e1 e2 hi hl hb he h
  obtain ⟨hp, g, d, tk, os⟩ := s
  have hil : i = xs.length := drop_nil e1.symm hi
  have hv : vs = [] := by rw [e2]; exact List.drop_of_length_le (by exact Nat.le_of_not_lt fun hg => lin [(xs.length), (ys.length), i] [(1, (.v 1), (.v 0)), (1, (.v 0), (.v 2)), (1, (.a (.v 2) (.n 1)), (.v 1))] rfl (Nat.le_of_eq (Eq.symm hsz)) (Nat.le_of_eq (Eq.symm hil)) hg)
  subst hv
  cases (he : r = true)
  wp_walk using wpAny_loadPart' hl, wpAny_loadPart' hb
  have hi1 : xs.toArray[((i : Nat) : Int).toNat]? = none := by simp; exact Nat.le_of_eq hil.symm
  have hi2 : ys.toArray[((i : Nat) : Int).toNat]? = none := by simp; exact Nat.le_of_not_lt fun hg => lin [(xs.length), (ys.length), i] [(1, (.v 1), (.v 0)), (1, (.v 0), (.v 2)), (1, (.a (.v 2) (.n 1)), (.v 1))] rfl (Nat.le_of_eq (Eq.symm hsz)) (Nat.le_of_eq (Eq.symm hil)) hg
  rw [hi1, hi2]
  wp_walk using wpAny_loadPart' hl, wpAny_loadPart' hb
  show R (.ok (.ret (.bool (xs.toArray.size != ys.toArray.size)))) _
  simpa [hsz] using h
 | cons u us ih =>
  intro vs i A s R r e1 e2 hi hl hb he h
  obtain ⟨hp, g, d, tk, os⟩ := s
  have hlt : i < xs.length := drop_lt e1.symm
  have hlt2 : i < ys.length := by exact Nat.lt_of_lt_of_eq hlt hsz
  rw [List.drop_eq_getElem_cons hlt] at e1
  rw [List.drop_eq_getElem_cons hlt2] at e2
  injection e1 with e1 e3
  subst e2
  obtain ⟨e, h1, h2⟩ := he
  have hi1 : xs.toArray[((i : Nat) : Int).toNat]? = some u := by simp [hlt, e1]
  have hi2 : ys.toArray[((i : Nat) : Int).toNat]? = some ys[i] := by simp [hlt2]
  have hc : ((i : Int) + 1) = ((i + 1 : Nat) : Int) := by push_cast; rfl
  wp_walk using wpAny_loadPart' hl, wpAny_loadPart' hb
  rw [hi1, hi2]
  refine wpAny_bind (h1 _ _ ?_)
  rcases h2 with ⟨rfl, h2⟩ | ⟨rfl, h2⟩
  ·wp_walk
   rw [hc]
   exact ⟨plainId_quiet plain_eq_loop _, codeAny_builtin entry_eq_loop (by
    rw [Around.under_plainId plain_eq_loop _]
    exact ih (ys.drop (i + 1)) (i + 1) e3 rfl (by exact hlt) hl hb h2 h)⟩
  ·subst h2
   wp_walk using wpAny_loadPart' hl, wpAny_loadPart' hb
   rw [hi1, hi2]
   wp_walk
   simpa using h
theorem list_neW {A : Around} {s : Shared} {R : Result → Shared → Prop} (l b : Addr) (xs ys : List Value) (n n2 : Nat) (dd dd2 : Option Addr) (sl sl2 : Array (Option Value)) {r : Bool}
  (hl : s.heap.get? l = some { cls := .type "list", dict := dd, data := .seq xs.toArray n, slots := sl }) (hb : s.heap.get? b = some { cls := .type "list", dict := dd2, data := .seq ys.toArray n2, slots := sl2 })
  (he : xs.length = ys.length → EqWs C A.in1 s xs ys r) (hne : xs.length ≠ ys.length → r = false) (h : R (.ok (.ret (.bool (!r)))) s) :
  wpAny (model C.prog C.w) A.in1 (Builtin.«list.__ne__» ⟨[.ref l, .ref b], []⟩) (fun fin s' => match fin with | .done f => R (.ok f) s' | .again c' => c'.quiet = true ∧ codeAny (model C.prog C.w) A c' R s') (fun e s' => R (.error e) s') s := by
 obtain ⟨hp, g, d, tk, os⟩ := s
 have f3 := AutoSeq1.sub_list_list
 by_cases hsz : xs.length = ys.length
 ·have hn' : ¬ (xs.toArray.size != ys.toArray.size) = true := by simp [hsz]
  wp_walk using wpAny_loadPart' hl, wpAny_loadPart' hb
  exact ⟨plainId_quiet plain_eq_loop _, codeAny_builtin entry_eq_loop (by
   rw [Around.under_plainId plain_eq_loop _]
   exact loop_neW l b xs ys n n2 dd dd2 sl sl2 hsz xs ys 0 rfl rfl (Nat.zero_le _) hl hb (he hsz) h)⟩
 ·have hc0 : (xs.toArray.size != ys.toArray.size) = true := by simpa using hsz
  cases hne hsz
  wp_walk using wpAny_loadPart' hl, wpAny_loadPart' hb
  exact h
end
end Mine
end
noncomputable section
namespace Mine
open PySem PyProof.Rows
noncomputable def dfl : Keyed := (.none, .none)
noncomputable def tk {O : KeyOrd} (key : Keyed → O.α) (xs : Array Keyed) (i : Nat) : O.α := key (xs[i]?.getD dfl)
noncomputable def SIn {O : KeyOrd} (key : Keyed → O.α) (xs : Array Keyed) (i j : Nat) : Prop := ∀ p q, i ≤ p → p ≤ q → q < j → O.kle (tk key xs p) (tk key xs q)
noncomputable def NIn {O : KeyOrd} (key : Keyed → O.α) (xs : Array Keyed) (i j : Nat) : Prop := ∀ p q, i ≤ p → p ≤ q → q < j → O.kle (tk key xs q) (tk key xs p)
structure SB (kd : SortKind) (a₀ : Array Keyed) (st : SortSt) : Prop where
 perm : (arrOf st).Perm a₀
 kind : kindOf st = kd
 failed : failedOf st = none
structure Kept (lo : Nat) (st st' : SortSt) : Prop where
 pend : pendingOf st' = pendingOf st
 low : ∀ k, k < lo → (arrOf st')[k]? = (arrOf st)[k]?
noncomputable def LtOk (prog : Program) (w : World) (A : Around) (E : Value → Shared → Prop) (s : Shared) (kd : SortKind) (O : KeyOrd) (key : Keyed → O.α) (a₀ : Array Keyed) : Prop :=
 ∀ x y, x ∈ a₀.toList → y ∈ a₀.toList → ∀ (Q : Option Bool → SortSt → Prop) (st : SortSt), kindOf st = kd →
  Q (some (O.blt (key x) (key y))) st → wpS (model prog w) A E s (lt' x y) Q st
theorem Kept.refl {lo : Nat} {st : SortSt} : Kept lo st st := ⟨rfl, fun _ _ => rfl⟩
theorem Kept.trans {lo : Nat} {a b c : SortSt} (h : Kept lo a b) (k : Kept lo b c) : Kept lo a c :=
 ⟨k.pend.trans h.pend, fun i hi => (k.low i hi).trans (h.low i hi)⟩
section pure
variable {O : KeyOrd} {key : Keyed → O.α} {kd : SortKind} {a₀ : Array Keyed}
theorem SB.size {st : SortSt} (h : SB kd a₀ st) : (arrOf st).size = a₀.size := h.perm.size_eq
theorem SB.setArr {st : SortSt} (h : SB kd a₀ st) {xs : Array Keyed} (hp : xs.Perm (arrOf st)) : SB kd a₀ (setArr st xs) :=
 ⟨hp.trans h.perm, h.kind, h.failed⟩
theorem SB.at {st : SortSt} (h : SB kd a₀ st) {i : Nat} (hi : i < a₀.size) :
  ∃ x, (arrOf st)[i]? = some x ∧ x ∈ a₀.toList ∧ tk key (arrOf st) i = key x := by
 have hi' : i < (arrOf st).size := by rw [h.size]; exact hi
 have e : (arrOf st)[i]? = some (arrOf st)[i] := getElem?_pos _ i hi'
 refine ⟨_, e, (Array.perm_iff_toList_perm.mp h.perm).mem_iff.mp (by simp), ?_⟩
 unfold tk
 rw [e]
 rfl
theorem tk_congr {xs ys : Array Keyed} {i j : Nat} (h : xs[i]? = ys[j]?) : tk key xs i = tk key ys j := by unfold tk; rw [h]
theorem tk_bubble {xs : Array Keyed} {src d : Nat} (hs : src < xs.size) (hd : d ≤ src) (k : Nat) :
  tk key (bubble xs src d) k = if k = src - d then tk key xs src else if src - d < k ∧ k ≤ src then tk key xs (k - 1) else tk key xs k := by
 have e := getElem?_bubble hs d hd k
 split
 ·rename_i h; rw [if_pos h] at e; exact tk_congr e
 ·rename_i h
  rw [if_neg h] at e
  split
  ·rename_i h2; rw [if_pos h2] at e; exact tk_congr e
  ·rename_i h2; rw [if_neg h2] at e; exact tk_congr e
theorem tk_mirror {xs : Array Keyed} {i j : Nat} (hj : j ≤ xs.size) (k : Nat) :
  tk key (mirror xs i j ((j - i) / 2)) k = if i ≤ k ∧ k < j then tk key xs (i + j - 1 - k) else tk key xs k := by
 have e := getElem?_mirror_all (i := i) hj k
 split
 ·rename_i h; rw [if_pos h] at e; exact tk_congr e
 ·rename_i h; rw [if_neg h] at e; exact tk_congr e
theorem tk_mirror_same {xs : Array Keyed} {i j : Nat} (hj : j ≤ xs.size) (heq : ∀ k, i ≤ k → k < j → tk key xs k = tk key xs (j - 1)) (k : Nat) :
  tk key (mirror xs i j ((j - i) / 2)) k = tk key xs k := by
 rw [tk_mirror hj]
 split
 ·rw [heq _ (by (rename_i zz0; exact Nat.le_of_not_lt fun hg => lin [j, i, k, (i + j - 1 - k), (i + j - 1)] [(1, (.a (.v 2) (.n 1)), (.v 0)), (1, (.v 4), (.a (.v 3) (.v 2))), (1, (.a (.v 1) (.v 0)), (.a (.v 4) (.n 1))), (1, (.a (.v 3) (.n 1)), (.v 1))] rfl (zz0).2 (sub_lo (i + j - 1) (k)) (sub_lo (i + j) (1)) hg)) (by (rename_i zz0; exact Nat.lt_of_not_le fun hg => lin [j, i, k, (i + j - 1 - k), (i + j - 1)] [(1, (.v 1), (.v 2)), (1, (.a (.v 3) (.v 2)), (.v 4)), (1, (.a (.v 4) (.n 1)), (.a (.v 1) (.v 0))), (1, (.v 0), (.v 3))] rfl (zz0).1 (sub_hi (Nat.le_of_not_lt fun hg => lin [j, i, k, (i + j - 1)] [(1, (.a (.v 2) (.n 1)), (.v 0)), (1, (.a (.v 1) (.v 0)), (.a (.v 3) (.n 1))), (1, (.a (.v 3) (.n 1)), (.v 2))] rfl (zz0).2 (sub_lo (i + j) (1)) hg)) (sub_hi (Nat.le_of_not_lt fun hg => lin [j, i, k] [(1, (.v 1), (.v 2)), (1, (.a (.v 2) (.n 1)), (.v 0)), (1, (.a (.a (.v 1) (.v 0)) (.n 1)), (.n 1))] rfl (zz0).1 (zz0).2 hg)) hg)), heq k (by (rename_i zz0; exact zz0.1)) (by (rename_i zz0; exact zz0.2))]
 ·rfl
theorem kept_mirror {st : SortSt} {lo i j : Nat} (hj : j ≤ (arrOf st).size) (hi : lo ≤ i) : Kept lo st (setArr st (mirror (arrOf st) i j ((j - i) / 2))) :=
 ⟨rfl, fun k hk => by
  show (mirror (arrOf st) i j ((j - i) / 2))[k]? = _
  rw [getElem?_mirror_all hj, if_neg (by exact fun hg => lin [lo, i, k] [(1, (.v 0), (.v 1)), (1, (.a (.v 2) (.n 1)), (.v 0)), (1, (.v 1), (.v 2))] rfl hi hk (hg).1)]⟩
end pure
section walk
variable {prog : Program} {w : World} {A : Around} {E : Value → Shared → Prop} {s : Shared} {kd : SortKind} {O : KeyOrd} {key : Keyed → O.α} {a₀ : Array Keyed}
theorem ts_ltAt {st : SortSt} {i j : Nat} {Q : Option Bool → SortSt → Prop} (hL : LtOk prog w A E s kd O key a₀) (hB : SB kd a₀ st) (hi : i < a₀.size) (hj : j < a₀.size)
  (h : Q (some (O.blt (tk key (arrOf st) i) (tk key (arrOf st) j))) st) : wpS (model prog w) A E s (ltAt' i j) Q st := by
 obtain ⟨x, e1, m1, k1⟩ := hB.at (key := key) hi
 obtain ⟨y, e2, m2, k2⟩ := hB.at (key := key) hj
 rw [k1, k2] at h
 rw [ltAt'_eq]
 refine wpS_bind (wpS_get ?_)
 show wpS _ _ _ _ (do let x ← elem' (arrOf st) i; let y ← elem' (arrOf st) j; lt' x y) Q st
 rw [elem'_eq, elem'_eq, e1, e2]
 exact wpS_bind (wpS_pure (wpS_bind (wpS_pure (hL _ _ m1 m2 _ _ hB.kind h))))
theorem ts_ltAtB {β : Type} {st : SortSt} {i j : Nat} {f : Option Bool → StateT SortSt Sem β} {Q : β → SortSt → Prop} (hL : LtOk prog w A E s kd O key a₀) (hB : SB kd a₀ st) (hi : i < a₀.size) (hj : j < a₀.size)
  (h : wpS (model prog w) A E s (f (some (O.blt (tk key (arrOf st) i) (tk key (arrOf st) j)))) Q st) : wpS (model prog w) A E s (ltAt' i j >>= f) Q st := wpS_bind (ts_ltAt hL hB hi hj h)
theorem ts_rev {st : SortSt} {i j : Nat} {Q : Unit → SortSt → Prop} (h : Q () (setArr st (mirror (arrOf st) i j ((j - i) / 2)))) :
  wpS (model prog w) A E s (reverseSlice' i j) Q st := by
 rw [reverseSlice'_eq]
 exact wpS_modify h
theorem ts_forR {β γ : Type} {lo hi : Nat} {f : Nat → β → StateT SortSt Sem (ForInStep β)} {k : β → StateT SortSt Sem γ} {c : β} {st : SortSt} {Q : γ → SortSt → Prop} (I : Nat → β → SortSt → Prop) (P : β → SortSt → Prop)
  (hstep : ∀ F, F = f → ∀ i c st, lo ≤ i → i < hi → I i c st → wpS (model prog w) A E s (F i c) (fun r st' => match r with | .done c' => P c' st' | .yield c' => I (i + 1) c' st') st)
  (hend : ∀ c st, I (max lo hi) c st → P c st) (hinit : I lo c st) (hpost : ∀ K, K = k → ∀ c st, P c st → wpS (model prog w) A E s (K c) Q st) : wpS (model prog w) A E s (forIn [lo:hi] c f >>= k) Q st :=
 wpS_bind (wpS_mono (wpS_forRange I (hstep f rfl) hend hinit) (hpost k rfl))
theorem ts_for {β γ : Type} {lo hi : Nat} {f : Nat → β → StateT SortSt Sem (ForInStep β)} {k : β → StateT SortSt Sem γ} {c : β} {st : SortSt} {Q : γ → SortSt → Prop} (I : Nat → β → SortSt → Prop) (P : β → SortSt → Prop)
  (hstep : ∀ F, F = f → ∀ i c st, I i c st → wpS (model prog w) A E s (F i c) (fun r st' => match r with | .done c' => P c' st' | .yield c' => I (i + 1) c' st') st)
  (hend : ∀ c st, I (max lo hi) c st → P c st) (hinit : I lo c st) (hpost : ∀ K, K = k → ∀ c st, P c st → wpS (model prog w) A E s (K c) Q st) : wpS (model prog w) A E s (forIn [lo:hi] c f >>= k) Q st :=
 ts_forR I P (fun F e i c st _ _ => hstep F e i c st) hend hinit hpost
theorem ts_getB {β : Type} {f : SortSt → StateT SortSt Sem β} {Q : β → SortSt → Prop} {st : SortSt} (h : wpS (model prog w) A E s (f st) Q st) : wpS (model prog w) A E s (get >>= f) Q st := wpS_bind (wpS_get h)
theorem ts_modB {β : Type} {g : SortSt → SortSt} {f : PUnit → StateT SortSt Sem β} {Q : β → SortSt → Prop} {st : SortSt} (h : wpS (model prog w) A E s (f ⟨⟩) Q (g st)) : wpS (model prog w) A E s (modify g >>= f) Q st := wpS_bind (wpS_modify h)
theorem ts_ruleB {β : Type} {tag : String} {f : Unit → StateT SortSt Sem β} {Q : β → SortSt → Prop} {st : SortSt} (h : wpS (model prog w) A E s (f ()) Q st) : wpS (model prog w) A E s ((liftM (rule tag) : StateT SortSt Sem Unit) >>= f) Q st := wpS_bind (wpS_lift (wpAny_rule ⟨rfl, h⟩))
theorem ts_bindK {α β : Type} {m : StateT SortSt Sem α} {f : α → StateT SortSt Sem β} {Q : β → SortSt → Prop} {st : SortSt} (h : ∀ K, K = f → wpS (model prog w) A E s m (fun a st' => wpS (model prog w) A E s (K a) Q st') st) : wpS (model prog w) A E s (m >>= f) Q st := wpS_bind (h f rfl)
theorem ts_bin {st : SortSt} {lo n ok : Nat} {Q : Bool → SortSt → Prop} (hL : LtOk prog w A E s kd O key a₀) (hn : lo + n ≤ a₀.size) (hok : ok ≤ n) (hB : SB kd a₀ st)
  (hs : SIn key (arrOf st) lo (lo + ok))
  (h : ∀ st', SB kd a₀ st' → Kept lo st st' → SIn key (arrOf st') lo (lo + n) → Q true st') : wpS (model prog w) A E s (binarySort' lo n ok) Q st := by
 rw [binarySort'_eq]
 refine ts_forR (fun k c st' => c = (none, ()) ∧ SB kd a₀ st' ∧ Kept lo st st' ∧ SIn key (arrOf st') lo (lo + min k n))
  (fun c st' => c = (none, ()) ∧ SB kd a₀ st' ∧ Kept lo st st' ∧ SIn key (arrOf st') lo (lo + n)) ?step ?fin ?init ?post
 case post =>
  rintro K hKK c st' ⟨rfl, hB', hK, hs'⟩
  subst hKK
  exact wpS_pure (h st' hB' hK hs')
 case init =>
  refine ⟨rfl, hB, Kept.refl, fun i j hi hij hj => ?_⟩
  by_cases h1 : ok = 0
  ·have : i = j := by exact Nat.le_antisymm (Nat.le_of_not_lt fun hg => lin [i, j] [(1, (.v 0), (.v 1)), (1, (.a (.v 1) (.n 1)), (.v 0))] rfl hij hg) (Nat.le_of_not_lt fun hg => Or.elim (min_or (max ok 1) (n)) (fun hs0 => Or.elim (Mine.max_or (ok) (1)) (fun hs1 => lin [lo, ok, i, j, (min (max ok 1) n), (max ok 1)] [(1, (.v 0), (.v 2)), (1, (.a (.v 3) (.n 1)), (.a (.v 0) (.v 4))), (1, (.v 1), (.n 0)), (1, (.v 4), (.v 5)), (1, (.a (.v 2) (.n 1)), (.v 3)), (1, (.v 5), (.v 1))] rfl hi hj (Nat.le_of_eq h1) (Nat.min_le_left (max ok 1) (n)) hg hs1) (fun hs1 => lin [lo, i, j, (min (max ok 1) n), (max ok 1)] [(1, (.v 0), (.v 1)), (1, (.a (.v 2) (.n 1)), (.a (.v 0) (.v 3))), (1, (.v 3), (.v 4)), (1, (.a (.v 1) (.n 1)), (.v 2)), (1, (.v 4), (.n 1))] rfl hi hj (Nat.min_le_left (max ok 1) (n)) hg hs1)) (fun hs0 => Or.elim (Mine.max_or (ok) (1)) (fun hs1 => lin [lo, ok, i, j, (min (max ok 1) n), (max ok 1)] [(1, (.v 0), (.v 2)), (1, (.a (.v 3) (.n 1)), (.a (.v 0) (.v 4))), (1, (.v 1), (.n 0)), (1, (.v 4), (.v 5)), (1, (.a (.v 2) (.n 1)), (.v 3)), (1, (.v 5), (.v 1))] rfl hi hj (Nat.le_of_eq h1) (Nat.min_le_left (max ok 1) (n)) hg hs1) (fun hs1 => lin [lo, i, j, (min (max ok 1) n), (max ok 1)] [(1, (.v 0), (.v 1)), (1, (.a (.v 2) (.n 1)), (.a (.v 0) (.v 3))), (1, (.v 3), (.v 4)), (1, (.a (.v 1) (.n 1)), (.v 2)), (1, (.v 4), (.n 1))] rfl hi hj (Nat.min_le_left (max ok 1) (n)) hg hs1)))
   subst this; exact KeyOrd.kle_refl _
  ·exact hs i j hi hij (by exact Nat.lt_of_not_le fun hg => Or.elim (Nat.lt_or_gt_of_ne h1) (fun hs0 => lin [ok] [(1, (.a (.v 0) (.n 1)), (.n 0))] rfl hs0) (fun hs0 => Or.elim (Mine.max_or (ok) (1)) (fun hs1 => lin [lo, ok, j, (min (max ok 1) n), (max ok 1)] [(1, (.a (.v 2) (.n 1)), (.a (.v 0) (.v 3))), (1, (.v 3), (.v 4)), (1, (.a (.v 0) (.v 1)), (.v 2)), (1, (.v 4), (.v 1))] rfl hj (Nat.min_le_left (max ok 1) (n)) hg hs1) (fun hs1 => lin [lo, ok, j, (min (max ok 1) n), (max ok 1)] [(1, (.a (.v 2) (.n 1)), (.a (.v 0) (.v 3))), (1, (.v 3), (.v 4)), (1, (.a (.v 0) (.v 1)), (.v 2)), (1, (.a (.n 0) (.n 1)), (.v 1)), (1, (.v 4), (.n 1))] rfl hj (Nat.min_le_left (max ok 1) (n)) hg hs0 hs1)))
 case fin =>
  rintro c st' ⟨hc, hB', hK, hs'⟩
  refine ⟨hc, hB', hK, ?_⟩
  rwa [show min (max (max ok 1) n) n = n by exact Nat.le_antisymm (Nat.le_of_not_lt fun hg => lin [n, (min (max (max ok 1) n) n)] [(1, (.v 1), (.v 0)), (1, (.a (.v 0) (.n 1)), (.v 1))] rfl (Nat.min_le_right (max (max ok 1) n) (n)) hg) (Nat.le_of_not_lt fun hg => Or.elim (min_or (max (max ok 1) n) (n)) (fun hs0 => lin [n, (min (max (max ok 1) n) n), (max (max ok 1) n)] [(1, (.v 0), (.v 2)), (1, (.a (.v 1) (.n 1)), (.v 0)), (1, (.v 2), (.v 1))] rfl (Nat.le_max_right (max ok 1) (n)) hg hs0) (fun hs0 => lin [n, (min (max (max ok 1) n) n)] [(1, (.a (.v 1) (.n 1)), (.v 0)), (1, (.v 0), (.v 1))] rfl hg hs0))] at hs'
 case step =>
  rintro F hF k c st' hak hkn ⟨rfl, hB', hK, hs'⟩
  rw [show min k n = k by exact Nat.le_antisymm (Nat.le_of_not_lt fun hg => lin [k, (min k n)] [(1, (.v 1), (.v 0)), (1, (.a (.v 0) (.n 1)), (.v 1))] rfl (Nat.min_le_left (k) (n)) hg) (Nat.le_of_not_lt fun hg => Or.elim (Mine.max_or (ok) (1)) (fun hs0 => Or.elim (min_or (k) (n)) (fun hs1 => lin [k, (min k n)] [(1, (.a (.v 1) (.n 1)), (.v 0)), (1, (.v 0), (.v 1))] rfl hg hs1) (fun hs1 => lin [n, k, (min k n)] [(1, (.a (.v 1) (.n 1)), (.v 0)), (1, (.a (.v 2) (.n 1)), (.v 1)), (1, (.v 0), (.v 2))] rfl hkn hg hs1)) (fun hs0 => Or.elim (min_or (k) (n)) (fun hs1 => lin [k, (min k n)] [(1, (.a (.v 1) (.n 1)), (.v 0)), (1, (.v 0), (.v 1))] rfl hg hs1) (fun hs1 => lin [n, k, (min k n)] [(1, (.a (.v 1) (.n 1)), (.v 0)), (1, (.a (.v 2) (.n 1)), (.v 1)), (1, (.v 0), (.v 2))] rfl hkn hg hs1)))] at hs'
  have hk : lo + k < a₀.size := by exact Nat.lt_of_not_le fun hg => lin [lo, n, (a₀.size), k] [(1, (.a (.v 0) (.v 1)), (.v 2)), (1, (.a (.v 3) (.n 1)), (.v 1)), (1, (.v 2), (.a (.v 0) (.v 3)))] rfl hn hkn hg
  subst hF
  refine ts_forR (fun x c st'' => st'' = st' ∧ ∃ l r, c = (none, l, r) ∧ l ≤ r ∧ r ≤ k ∧ r - l ≤ k - x ∧
    (∀ i, i < l → O.kle (tk key (arrOf st') (lo + i)) (tk key (arrOf st') (lo + k))) ∧ (∀ i, r ≤ i → i < k → O.klt (tk key (arrOf st') (lo + k)) (tk key (arrOf st') (lo + i))))
   (fun c st'' => st'' = st' ∧ ∃ l r, c = (none, l, r) ∧ l ≤ k ∧
    (∀ i, i < l → O.kle (tk key (arrOf st') (lo + i)) (tk key (arrOf st') (lo + k))) ∧ (∀ i, l ≤ i → i < k → O.klt (tk key (arrOf st') (lo + k)) (tk key (arrOf st') (lo + i)))) ?istep ?ifin ?iinit ?ipost
  case iinit => exact ⟨rfl, 0, k, rfl, by exact Nat.zero_le _, by exact Nat.le_refl _, by exact Nat.le_refl _, fun i hi => by exact False.elim (lin [i] [(1, (.a (.v 0) (.n 1)), (.n 0))] rfl hi), fun i h1 h2 => by exact False.elim (lin [k, i] [(1, (.v 0), (.v 1)), (1, (.a (.v 1) (.n 1)), (.v 0))] rfl h1 h2)⟩
  case ifin =>
   rintro c st'' ⟨rfl, l, r, rfl, hlr, hrk, hm, hlo, hhi⟩
   have : l = r := by exact Nat.le_antisymm (Nat.le_of_not_lt fun hg => lin [l, r] [(1, (.v 0), (.v 1)), (1, (.a (.v 1) (.n 1)), (.v 0))] rfl hlr hg) (Nat.le_of_not_lt fun hg => lin [k, l, r, (r - l), (k - max 0 k)] [(1, (.v 3), (.v 4)), (1, (.v 2), (.a (.v 3) (.v 1))), (1, (.a (.v 4) (.v 0)), (.v 0)), (1, (.a (.v 1) (.n 1)), (.v 2))] rfl hm (sub_lo (r) (l)) (sub_hi (Nat.le_of_not_lt fun hg => lin [k] [(1, (.a (.v 0) (.n 1)), (.v 0))] rfl hg)) hg)
   subst this
   exact ⟨rfl, l, l, rfl, hrk, hlo, hhi⟩
  case istep =>
   rintro F hF x c st'' _ hxk ⟨rfl, l, r, rfl, hlr, hrk, hm, hlo, hhi⟩
   subst hF
   dsimp only
   by_cases hge : l ≥ r
   ·rw [if_pos hge]
    have : l = r := by exact Nat.le_antisymm hlr hge
    subst this
    exact wpS_pure ⟨rfl, l, l, rfl, hrk, hlo, hhi⟩
   ·rw [if_neg hge]
    have hmid : (l + r) / 2 < r := Nat.div_lt_of_lt_mul (by rw [Nat.two_mul]; exact Nat.add_lt_add_right (Nat.lt_of_not_le hge) r)
    refine ts_ltAtB hL hB' hk (by exact Nat.lt_of_not_le fun hg => lin [lo, n, (a₀.size), k, l, r, ((l + r) / 2)] [(2, (.a (.v 0) (.v 1)), (.v 2)), (2, (.a (.v 3) (.n 1)), (.v 1)), (1, (.v 4), (.v 5)), (2, (.v 5), (.v 3)), (1, (.m 2 (.v 6)), (.a (.v 4) (.v 5))), (2, (.v 2), (.a (.v 0) (.v 6)))] rfl hn hkn hlr hrk (Mine.div_lo (l + r) 2) hg) ?_
    cases hless : O.blt (tk key (arrOf st'') (lo + k)) (tk key (arrOf st'') (lo + (l + r) / 2))
    case true =>
     simp only [if_true]
     refine wpS_pure ⟨rfl, l, (l + r) / 2, rfl, by exact Nat.le_of_not_lt fun hg => lin [l, r, ((l + r) / 2)] [(1, (.v 0), (.v 1)), (1, (.a (.a (.v 0) (.v 1)) (.n 1)), (.a (.m 2 (.v 2)) (.n 2))), (2, (.a (.v 2) (.n 1)), (.v 0))] rfl hlr (Mine.div_hi (l + r) 2 (by decide)) hg, by exact Nat.le_of_not_lt fun hg => lin [k, l, r, ((l + r) / 2)] [(1, (.v 1), (.v 2)), (2, (.v 2), (.v 0)), (1, (.m 2 (.v 3)), (.a (.v 1) (.v 2))), (2, (.a (.v 0) (.n 1)), (.v 3))] rfl hlr hrk (Mine.div_lo (l + r) 2) hg, by exact Nat.le_of_not_lt fun hg => lin [k, x, l, r, (r - l), (k - x), ((l + r) / 2 - l), (k - (x + 1)), ((l + r) / 2)] [(1, (.a (.v 1) (.n 1)), (.v 0)), (1, (.v 4), (.v 5)), (1, (.m 2 (.v 8)), (.a (.v 2) (.v 3))), (1, (.v 3), (.a (.v 4) (.v 2))), (1, (.a (.v 5) (.v 1)), (.v 0)), (2, (.a (.v 6) (.v 2)), (.v 8)), (2, (.v 0), (.a (.v 7) (.a (.v 1) (.n 1)))), (2, (.a (.v 7) (.n 1)), (.v 6))] rfl hxk hm (Mine.div_lo (l + r) 2) (sub_lo (r) (l)) (sub_hi (Nat.le_of_not_lt fun hg => lin [k, x] [(1, (.a (.v 1) (.n 1)), (.v 0)), (1, (.a (.v 0) (.n 1)), (.v 1))] rfl hxk hg)) (sub_hi (Nat.le_of_not_lt fun hg => lin [l, r, ((l + r) / 2)] [(1, (.v 0), (.v 1)), (1, (.a (.a (.v 0) (.v 1)) (.n 1)), (.a (.m 2 (.v 2)) (.n 2))), (2, (.a (.v 2) (.n 1)), (.v 0))] rfl hlr (Mine.div_hi (l + r) 2 (by decide)) hg)) (sub_lo (k) (x + 1)) hg, hlo, fun i h1 h2 => ?_⟩
     exact KeyOrd.klt_of_klt_of_kle hless (hs' _ _ (by exact Nat.le_add_right _ _) (by exact Nat.add_le_add_left h1 _) (by exact Nat.add_le_add_left h2 _))
    case false =>
     simp only [Bool.false_eq_true, if_false]
     refine wpS_pure ⟨rfl, (l + r) / 2 + 1, r, rfl, hmid, by exact hrk, by exact Nat.le_of_not_lt fun hg => Or.elim (Mine.max_or (ok) (1)) (fun hs0 => Or.elim (sub_or (r) ((l + r) / 2 + 1)) (fun hs1 => lin [k, x, l, r, (r - l), (k - x), (r - ((l + r) / 2 + 1)), (k - (x + 1)), ((l + r) / 2)] [(1, (.a (.v 1) (.n 1)), (.v 0)), (1, (.v 4), (.v 5)), (1, (.a (.a (.v 2) (.v 3)) (.n 1)), (.a (.m 2 (.v 8)) (.n 2))), (1, (.v 3), (.a (.v 4) (.v 2))), (1, (.a (.v 5) (.v 1)), (.v 0)), (2, (.v 0), (.a (.v 7) (.a (.v 1) (.n 1)))), (2, (.a (.v 7) (.n 1)), (.v 6)), (2, (.a (.v 6) (.a (.v 8) (.n 1))), (.v 3))] rfl hxk hm (Mine.div_hi (l + r) 2 (by decide)) (sub_lo (r) (l)) (sub_hi (Nat.le_of_not_lt fun hg => lin [k, x] [(1, (.a (.v 1) (.n 1)), (.v 0)), (1, (.a (.v 0) (.n 1)), (.v 1))] rfl hxk hg)) (sub_lo (k) (x + 1)) hg (Nat.le_of_eq hs1)) (fun hs1 => lin [k, x, (r - ((l + r) / 2 + 1)), (k - (x + 1))] [(1, (.a (.v 1) (.n 1)), (.v 0)), (1, (.v 0), (.a (.v 3) (.a (.v 1) (.n 1)))), (1, (.a (.v 3) (.n 1)), (.v 2)), (1, (.v 2), (.n 0))] rfl hxk (sub_lo (k) (x + 1)) hg (Nat.le_of_eq hs1))) (fun hs0 => Or.elim (sub_or (r) ((l + r) / 2 + 1)) (fun hs1 => lin [k, x, l, r, (r - l), (k - x), (r - ((l + r) / 2 + 1)), (k - (x + 1)), ((l + r) / 2)] [(1, (.a (.v 1) (.n 1)), (.v 0)), (1, (.v 4), (.v 5)), (1, (.a (.a (.v 2) (.v 3)) (.n 1)), (.a (.m 2 (.v 8)) (.n 2))), (1, (.v 3), (.a (.v 4) (.v 2))), (1, (.a (.v 5) (.v 1)), (.v 0)), (2, (.v 0), (.a (.v 7) (.a (.v 1) (.n 1)))), (2, (.a (.v 7) (.n 1)), (.v 6)), (2, (.a (.v 6) (.a (.v 8) (.n 1))), (.v 3))] rfl hxk hm (Mine.div_hi (l + r) 2 (by decide)) (sub_lo (r) (l)) (sub_hi (Nat.le_of_not_lt fun hg => lin [k, x] [(1, (.a (.v 1) (.n 1)), (.v 0)), (1, (.a (.v 0) (.n 1)), (.v 1))] rfl hxk hg)) (sub_lo (k) (x + 1)) hg (Nat.le_of_eq hs1)) (fun hs1 => lin [k, x, (r - ((l + r) / 2 + 1)), (k - (x + 1))] [(1, (.a (.v 1) (.n 1)), (.v 0)), (1, (.v 0), (.a (.v 3) (.a (.v 1) (.n 1)))), (1, (.a (.v 3) (.n 1)), (.v 2)), (1, (.v 2), (.n 0))] rfl hxk (sub_lo (k) (x + 1)) hg (Nat.le_of_eq hs1))), fun i h1 => ?_, hhi⟩
     exact KeyOrd.kle_trans (hs' (lo + i) (lo + (l + r) / 2) (by exact Nat.le_add_right _ _) (by exact Nat.le_of_not_lt fun hg => lin [lo, i, ((l + r) / 2)] [(1, (.a (.v 1) (.n 1)), (.a (.v 2) (.n 1))), (1, (.a (.a (.v 0) (.v 2)) (.n 1)), (.a (.v 0) (.v 1)))] rfl h1 hg) (Nat.add_lt_add_left (Nat.lt_of_lt_of_le hmid hrk) lo)) (show O.kle _ _ from hless)
  case ipost =>
   rintro K hKK c st'' ⟨rfl, l, r, rfl, hlk, hlo, hhi⟩
   subst hKK
   show wpS _ _ _ _ (do moveDown' (lo + k) (lo + l); pure (ForInStep.yield (none, ()))) _ _
   rw [moveDown'_eq]
   have hks : lo + k < (arrOf st'').size := by rw [hB'.size]; exact hk
   have hd : lo + k - (lo + l) ≤ lo + k := by exact Nat.sub_le _ _
   refine wpS_bind (wpS_modify (wpS_pure ⟨rfl, hB'.setArr (bubble_perm _ _ _), hK.trans ⟨rfl, fun i hi => ?_⟩, ?_⟩))
   ·show (bubble (arrOf st'') (lo + k) (lo + k - (lo + l)))[i]? = _
    rw [getElem?_bubble hks _ hd, if_neg (by exact fun hg => lin [lo, k, l, (lo + k - (lo + l)), i, (lo + k - (lo + k - (lo + l)))] [(1, (.a (.v 4) (.n 1)), (.v 0)), (1, (.a (.v 3) (.a (.v 0) (.v 2))), (.a (.v 0) (.v 1))), (1, (.a (.v 0) (.v 1)), (.a (.v 5) (.v 3))), (1, (.v 5), (.v 4))] rfl hi (sub_hi (Nat.le_of_not_lt fun hg => lin [lo, k, l] [(1, (.v 2), (.v 1)), (1, (.a (.a (.v 0) (.v 1)) (.n 1)), (.a (.v 0) (.v 2)))] rfl hlk hg)) (sub_lo (lo + k) (lo + k - (lo + l))) (Nat.le_of_eq (Eq.symm hg))), if_neg (by omega)]
   rw [show min (k + 1) n = k + 1 by exact Nat.min_eq_left hkn]
   intro i j hi hij hj
   show O.kle (tk key (bubble (arrOf st'') (lo + k) (lo + k - (lo + l))) i) (tk key (bubble (arrOf st'') (lo + k) (lo + k - (lo + l))) j)
   have hp : lo + k - (lo + k - (lo + l)) = lo + l := Nat.sub_sub_self (Nat.add_le_add_left hlk lo)
   have V := tk_bubble (key := key) hks hd
   rw [hp] at V
   have v1 : ∀ x, x < lo + l → tk key (bubble (arrOf st'') (lo + k) (lo + k - (lo + l))) x = tk key (arrOf st'') x := fun x h => by rw [V, if_neg (Nat.ne_of_lt h), if_neg fun z => Nat.lt_asymm h z.1]
   have v3 : ∀ x, lo + l < x → x < lo + (k + 1) → tk key (bubble (arrOf st'') (lo + k) (lo + k - (lo + l))) x = tk key (arrOf st'') (x - 1) := fun x h g => by rw [V, if_neg (Nat.ne_of_gt h), if_pos ⟨h, Nat.le_of_lt_succ g⟩]
   have v2 := V (lo + l)
   rw [if_pos rfl] at v2
   clear V hp
   generalize bubble (arrOf st'') (lo + k) (lo + k - (lo + l)) = B at v1 v2 v3 ⊢
   have hlo' : ∀ i, lo ≤ i → i < lo + l → O.kle (tk key (arrOf st'') i) (tk key (arrOf st'') (lo + k)) := fun i h1 h2 => by
    have := hlo (i - lo) (Nat.sub_lt_left_of_lt_add h1 h2)
    rwa [Nat.add_sub_cancel' h1] at this
   have hhi' : ∀ i, lo + l < i → i < lo + (k + 1) → O.klt (tk key (arrOf st'') (lo + k)) (tk key (arrOf st'') (i - 1)) := fun i h1 h2 => by
    obtain ⟨m, rfl⟩ := Nat.exists_eq_add_of_lt h1
    have := hhi (l + m) (Nat.le_add_right _ _) (Nat.lt_of_succ_lt_succ (Nat.lt_of_add_lt_add_left (show lo + (l + m + 1) < lo + (k + 1) by rwa [← Nat.add_assoc, ← Nat.add_assoc])))
    rwa [← Nat.add_assoc] at this
   have pr : ∀ x, lo + l < x → x < lo + (k + 1) → lo ≤ x - 1 ∧ x - 1 < lo + k := fun x h g => ⟨Nat.le_sub_one_of_lt (Nat.lt_of_le_of_lt (Nat.le_add_right _ _) h), Nat.sub_one_lt_of_le (Nat.lt_of_le_of_lt (Nat.zero_le _) h) (Nat.le_of_lt_succ g)⟩
   rcases Nat.lt_trichotomy i (lo + l) with hi' | rfl | hi'
   ·rw [v1 i hi']
    rcases Nat.lt_trichotomy j (lo + l) with hj' | rfl | hj'
    ·rw [v1 j hj']; exact hs' _ _ hi hij (Nat.lt_of_lt_of_le hj' (Nat.add_le_add_left hlk lo))
    ·rw [v2]; exact hlo' i hi hi'
    ·rw [v3 j hj' hj]; exact hs' _ _ hi (Nat.le_sub_one_of_lt (Nat.lt_trans hi' hj')) (pr j hj' hj).2
   ·rw [v2]
    rcases Nat.lt_or_eq_of_le hij with hj' | rfl
    ·rw [v3 j hj' hj]; exact KeyOrd.kle_of_klt (hhi' j hj' hj)
    ·rw [v2]; exact KeyOrd.kle_refl _
   ·have hj' := Nat.lt_of_lt_of_le hi' hij
    rw [v3 i hi' (Nat.lt_of_le_of_lt hij hj), v3 j hj' hj]
    exact hs' _ _ (pr i hi' (Nat.lt_of_le_of_lt hij hj)).1 (Nat.sub_le_sub_right hij 1) (pr j hj' hj).2
end walk
end Mine
end
noncomputable section
namespace Mine
open PySem PyProof.Rows
noncomputable def ascL (lo a nrem : Nat) : StateT SortSt Sem (Option (Option Nat) × Nat) :=
 forIn [a:nrem] ((none, a) : Option (Option Nat) × Nat) fun _ c => do
  let r ← ltAt' (lo + c.snd) (lo + c.snd - 1)
  match r with
  | some smaller => if smaller = true then pure (ForInStep.done (none, c.snd)) else pure (ForInStep.yield (none, c.snd + 1))
  | _ => pure (ForInStep.done (some none, c.snd))
noncomputable def endL (lo n nrem : Nat) : StateT SortSt Sem (Option Nat) := do
 reverseSlice' lo (lo + n)
 let c ← ascL lo n nrem
 match c.fst with
 | some r => pure r
 | none => pure (some c.snd)
noncomputable def fallL (lo n nrem : Nat) : StateT SortSt Sem (Option (Option Nat) × Nat × Nat) :=
 forIn [n:nrem] ((none, n, 0) : Option (Option Nat) × Nat × Nat) fun _ c => do
  let r ← ltAt' (lo + c.snd.fst) (lo + c.snd.fst - 1)
  match r with
  | some smaller =>
   if smaller = true then
    if c.snd.snd > 0 then do
     reverseSlice' (lo + c.snd.fst - (c.snd.snd + 1)) (lo + c.snd.fst)
     pure (ForInStep.yield (none, c.snd.fst + 1, 0))
    else pure (ForInStep.yield (none, c.snd.fst + 1, 0))
   else do
    let r ← ltAt' (lo + c.snd.fst - 1) (lo + c.snd.fst)
    match r with
    | some larger =>
     if larger = true then pure (ForInStep.done (none, c.snd.fst, c.snd.snd))
     else pure (ForInStep.yield (none, c.snd.fst + 1, c.snd.snd + 1))
    | _ => pure (ForInStep.done (some none, c.snd.fst, c.snd.snd))
  | _ => pure (ForInStep.done (some none, c.snd.fst, c.snd.snd))
noncomputable def descL (lo n nrem : Nat) : StateT SortSt Sem (Option Nat) := do
 liftM (rule "list.sort.descending-run")
 let c ← fallL lo (n + 1) nrem
 match c.fst with
 | some r => pure r
 | none =>
  if c.snd.snd > 0 then do
   reverseSlice' (lo + c.snd.fst - (c.snd.snd + 1)) (lo + c.snd.fst)
   endL lo c.snd.fst nrem
  else endL lo c.snd.fst nrem
theorem countL_eq (lo nrem : Nat) : countRun' lo nrem = (do
  let c ← ascL lo 1 nrem
  match c.fst with
  | some r => pure r
  | none =>
   if (c.snd == nrem) = true then pure (some c.snd)
   else if c.snd > 1 then do
    let r ← ltAt' lo (lo + c.snd - 1)
    match r with
    | some rose => if rose = true then pure (some c.snd) else do
      reverseSlice' lo (lo + c.snd)
      descL lo c.snd nrem
    | _ => pure none
   else descL lo c.snd nrem) := by
 rw [countRun'_eq]
 unfold descL endL fallL ascL
 refine bind_congr fun c => ?_
 obtain ⟨r, n⟩ := c
 cases r with
 | some r => rfl
 | none =>
  dsimp only
  split
  ·rfl
  ·split
   ·refine bind_congr fun r => ?_
    cases r with
    | none => rfl
    | some rose =>
     dsimp only
     split
     ·rfl
     ·refine bind_congr fun _ => ?_
      refine bind_congr fun _ => ?_
      refine bind_congr fun c2 => ?_
      obtain ⟨r2, n2, q2⟩ := c2
      cases r2 with
      | some r2 => rfl
      | none =>
       dsimp only
       split
       ·refine bind_congr fun _ => ?_
        refine bind_congr fun _ => ?_
        refine bind_congr fun c3 => ?_
        obtain ⟨r3, n3⟩ := c3
        cases r3 <;> rfl
       ·refine bind_congr fun _ => ?_
        refine bind_congr fun c3 => ?_
        obtain ⟨r3, n3⟩ := c3
        cases r3 <;> rfl
   ·refine bind_congr fun _ => ?_
    refine bind_congr fun c2 => ?_
    obtain ⟨r2, n2, q2⟩ := c2
    cases r2 with
    | some r2 => rfl
    | none =>
     dsimp only
     split
     ·refine bind_congr fun _ => ?_
      refine bind_congr fun _ => ?_
      refine bind_congr fun c3 => ?_
      obtain ⟨r3, n3⟩ := c3
      cases r3 <;> rfl
     ·refine bind_congr fun _ => ?_
      refine bind_congr fun c3 => ?_
      obtain ⟨r3, n3⟩ := c3
      cases r3 <;> rfl
end Mine
end
noncomputable section
namespace Mine
open PySem PyProof.Rows
section walk
variable {prog : Program} {w : World} {A : Around} {E : Value → Shared → Prop} {s : Shared} {kd : SortKind} {O : KeyOrd} {key : Keyed → O.α} {a₀ : Array Keyed}
theorem ts_asc {st : SortSt} {lo a nrem : Nat} {Q : Option (Option Nat) × Nat → SortSt → Prop} (hL : LtOk prog w A E s kd O key a₀) (hn : lo + nrem ≤ a₀.size) (ha : 1 ≤ a) (han : a ≤ nrem) (hB : SB kd a₀ st)
  (hs : SIn key (arrOf st) lo (lo + a))
  (h : ∀ n, a ≤ n → n ≤ nrem → SIn key (arrOf st) lo (lo + n) → (n = nrem ∨ O.klt (tk key (arrOf st) (lo + n)) (tk key (arrOf st) (lo + n - 1))) → Q (none, n) st) :
  wpS (model prog w) A E s (ascL lo a nrem) Q st := by
 unfold ascL
 refine wpS_forRange (I := fun x c st' => st' = st ∧ c = (none, x) ∧ SIn key (arrOf st) lo (lo + x)) ?step ?fin ⟨rfl, rfl, hs⟩
 case fin =>
  rintro c st' ⟨rfl, rfl, hs'⟩
  rw [show max a nrem = nrem by exact Nat.max_eq_right han] at hs' ⊢
  exact h nrem han (Nat.le_refl _) hs' (.inl rfl)
 case step =>
  rintro x c st' hax hxn ⟨rfl, rfl, hs'⟩
  dsimp only
  refine ts_ltAtB hL hB (by exact Nat.lt_of_not_le fun hg => lin [lo, nrem, (a₀.size), x] [(1, (.a (.v 0) (.v 1)), (.v 2)), (1, (.a (.v 3) (.n 1)), (.v 1)), (1, (.v 2), (.a (.v 0) (.v 3)))] rfl hn hxn hg) (by exact Nat.lt_of_not_le fun hg => lin [lo, nrem, (a₀.size), x, (lo + x - 1)] [(1, (.a (.v 0) (.v 1)), (.v 2)), (1, (.a (.v 3) (.n 1)), (.v 1)), (1, (.a (.v 4) (.n 1)), (.a (.v 0) (.v 3))), (1, (.v 2), (.v 4))] rfl hn hxn (sub_hi (Nat.le_of_not_lt fun hg => lin [lo, a, x] [(1, (.n 1), (.v 1)), (1, (.v 1), (.v 2)), (1, (.a (.a (.v 0) (.v 2)) (.n 1)), (.n 1))] rfl ha hax hg)) hg) ?_
  cases hless : O.blt (tk key (arrOf st') (lo + x)) (tk key (arrOf st') (lo + x - 1))
  case true =>
   simp only [if_true]
   exact wpS_pure (h x hax (by exact Nat.le_of_lt hxn) hs' (.inr hless))
  case false =>
   simp only [Bool.false_eq_true, if_false]
   refine wpS_pure ⟨rfl, rfl, fun i j hi hij hj => ?_⟩
   by_cases hjx : j < lo + x
   ·exact hs' i j hi hij hjx
   ·have hj' : j = lo + x := by exact Nat.le_antisymm (Nat.le_of_not_lt fun hg => lin [lo, x, j] [(1, (.a (.v 2) (.n 1)), (.a (.v 0) (.a (.v 1) (.n 1)))), (1, (.a (.a (.v 0) (.v 1)) (.n 1)), (.v 2))] rfl hj hg) (Nat.le_of_not_lt fun hg => lin [lo, x, j] [(1, (.a (.v 0) (.v 1)), (.v 2)), (1, (.a (.v 2) (.n 1)), (.a (.v 0) (.v 1)))] rfl (Nat.le_of_not_lt hjx) hg)
    subst hj'
    by_cases hi' : i = lo + x
    ·subst hi'; exact KeyOrd.kle_refl _
    ·exact KeyOrd.kle_trans (hs' i (lo + x - 1) hi (by exact Nat.le_of_not_lt fun hg => Or.elim (Nat.lt_or_gt_of_ne hi') (fun hs0 => lin [lo, x, i, (lo + x - 1)] [(1, (.a (.v 0) (.v 1)), (.a (.v 3) (.n 1))), (1, (.a (.v 3) (.n 1)), (.v 2)), (1, (.a (.v 2) (.n 1)), (.a (.v 0) (.v 1)))] rfl (sub_lo (lo + x) (1)) hg hs0) (fun hs0 => lin [lo, x, i] [(1, (.v 2), (.a (.v 0) (.v 1))), (1, (.a (.a (.v 0) (.v 1)) (.n 1)), (.v 2))] rfl hij hs0)) (by exact Nat.lt_of_not_le fun hg => lin [lo, x, (lo + x - 1)] [(1, (.a (.v 2) (.n 1)), (.a (.v 0) (.v 1))), (1, (.a (.v 0) (.v 1)), (.v 2))] rfl (sub_hi (Nat.le_of_not_lt fun hg => lin [lo, a, x] [(1, (.n 1), (.v 1)), (1, (.v 1), (.v 2)), (1, (.a (.a (.v 0) (.v 2)) (.n 1)), (.n 1))] rfl ha hax hg)) hg)) hless
noncomputable def RunPost (kd : SortKind) (O : KeyOrd) (key : Keyed → O.α) (a₀ : Array Keyed) (st : SortSt) (lo nrem : Nat) (Q : Option Nat → SortSt → Prop) : Prop :=
 ∀ m st', SB kd a₀ st' → Kept lo st st' → 1 ≤ m → m ≤ nrem → SIn key (arrOf st') lo (lo + m) → Q (some m) st'
theorem RunPost.step {st st₁ : SortSt} {lo nrem : Nat} {Q : Option Nat → SortSt → Prop} (h : RunPost kd O key a₀ st lo nrem Q) (hK : Kept lo st st₁) : RunPost kd O key a₀ st₁ lo nrem Q :=
 fun m st' hB hK' => h m st' hB (hK.trans hK')
theorem ts_end {st : SortSt} {lo n nrem : Nat} {Q : Option Nat → SortSt → Prop} (hL : LtOk prog w A E s kd O key a₀) (hn : lo + nrem ≤ a₀.size) (h1 : 1 ≤ n) (hnn : n ≤ nrem) (hB : SB kd a₀ st)
  (hs : NIn key (arrOf st) lo (lo + n)) (h : RunPost kd O key a₀ st lo nrem Q) :
  wpS (model prog w) A E s (endL lo n nrem) Q st := by
 unfold endL
 have hsz : lo + n ≤ (arrOf st).size := by rw [hB.size]; exact Nat.le_of_not_lt fun hg => lin [lo, nrem, (a₀.size), n] [(1, (.a (.v 0) (.v 1)), (.v 2)), (1, (.v 3), (.v 1)), (1, (.a (.v 2) (.n 1)), (.a (.v 0) (.v 3)))] rfl hn hnn hg
 refine wpS_bind (ts_rev ?_)
 have hB' : SB kd a₀ (setArr st (mirror (arrOf st) lo (lo + n) ((lo + n - lo) / 2))) := hB.setArr (mirror_perm _ _ _ _)
 refine wpS_bind (ts_asc hL hn h1 hnn hB' ?_ fun m hm1 hm2 hsm _ => wpS_pure (h m _ hB' (kept_mirror hsz (Nat.le_refl _)) (by exact Nat.le_trans h1 hm1) hm2 hsm))
 intro i j hi hij hj
 show O.kle (tk key (mirror (arrOf st) lo (lo + n) ((lo + n - lo) / 2)) i) (tk key (mirror (arrOf st) lo (lo + n) ((lo + n - lo) / 2)) j)
 rw [tk_mirror hsz, tk_mirror hsz, if_pos (by exact And.intro (Nat.le_of_not_lt fun hg => lin [lo, i] [(1, (.v 0), (.v 1)), (1, (.a (.v 1) (.n 1)), (.v 0))] rfl hi hg) (Nat.lt_of_not_le fun hg => lin [lo, n, i, j] [(1, (.v 2), (.v 3)), (1, (.a (.v 3) (.n 1)), (.a (.v 0) (.v 1))), (1, (.a (.v 0) (.v 1)), (.v 2))] rfl hij hj hg)), if_pos (by exact And.intro (Nat.le_of_not_lt fun hg => lin [lo, i, j] [(1, (.v 0), (.v 1)), (1, (.v 1), (.v 2)), (1, (.a (.v 2) (.n 1)), (.v 0))] rfl hi hij hg) (Nat.lt_of_not_le fun hg => lin [lo, n, j] [(1, (.a (.v 2) (.n 1)), (.a (.v 0) (.v 1))), (1, (.a (.v 0) (.v 1)), (.v 2))] rfl hj hg))]
 exact hs _ _ (by exact Nat.le_of_not_lt fun hg => lin [lo, n, j, (lo + (lo + n) - 1 - j), (lo + (lo + n) - 1)] [(1, (.a (.v 2) (.n 1)), (.a (.v 0) (.v 1))), (1, (.v 4), (.a (.v 3) (.v 2))), (1, (.a (.v 0) (.a (.v 0) (.v 1))), (.a (.v 4) (.n 1))), (1, (.a (.v 3) (.n 1)), (.v 0))] rfl hj (sub_lo (lo + (lo + n) - 1) (j)) (sub_lo (lo + (lo + n)) (1)) hg) (by exact Nat.le_of_not_lt fun hg => lin [i, j, (lo + (lo + n) - 1 - j), (lo + (lo + n) - 1 - i), (lo + (lo + n) - 1)] [(1, (.v 0), (.v 1)), (1, (.a (.v 2) (.v 1)), (.v 4)), (1, (.v 4), (.a (.v 3) (.v 0))), (1, (.a (.v 3) (.n 1)), (.v 2))] rfl hij (sub_hi (Nat.le_of_not_lt fun hg => lin [lo, n, j, (lo + (lo + n) - 1)] [(1, (.a (.v 2) (.n 1)), (.a (.v 0) (.v 1))), (1, (.a (.v 0) (.a (.v 0) (.v 1))), (.a (.v 3) (.n 1))), (1, (.a (.v 3) (.n 1)), (.v 2))] rfl hj (sub_lo (lo + (lo + n)) (1)) hg)) (sub_lo (lo + (lo + n) - 1) (i)) hg) (by exact Nat.lt_of_not_le fun hg => lin [lo, n, i, (lo + (lo + n) - 1 - i), (lo + (lo + n) - 1)] [(1, (.v 0), (.v 2)), (1, (.a (.v 3) (.v 2)), (.v 4)), (1, (.a (.v 4) (.n 1)), (.a (.v 0) (.a (.v 0) (.v 1)))), (1, (.a (.v 0) (.v 1)), (.v 3))] rfl hi (sub_hi (Nat.le_of_not_lt fun hg => lin [lo, n, i, j, (lo + (lo + n) - 1)] [(1, (.v 2), (.v 3)), (1, (.a (.v 3) (.n 1)), (.a (.v 0) (.v 1))), (1, (.a (.v 0) (.a (.v 0) (.v 1))), (.a (.v 4) (.n 1))), (1, (.a (.v 4) (.n 1)), (.v 2))] rfl hij hj (sub_lo (lo + (lo + n)) (1)) hg)) (sub_hi (Nat.le_of_not_lt fun hg => lin [lo, n] [(1, (.n 1), (.v 1)), (1, (.a (.a (.v 0) (.a (.v 0) (.v 1))) (.n 1)), (.n 1))] rfl h1 hg)) hg)
theorem ts_fall {st : SortSt} {lo n nrem : Nat} {Q : Option (Option Nat) × Nat × Nat → SortSt → Prop} (hL : LtOk prog w A E s kd O key a₀) (hn : lo + nrem ≤ a₀.size) (h1 : 1 ≤ n) (hnn : n ≤ nrem) (hB : SB kd a₀ st)
  (hs : NIn key (arrOf st) lo (lo + n))
  (h : ∀ m neq st', SB kd a₀ st' → Kept lo st st' → n ≤ m → m ≤ nrem → NIn key (arrOf st') lo (lo + m) → neq + 1 ≤ m →
   (∀ i, lo + m - (neq + 1) ≤ i → i < lo + m → tk key (arrOf st') i = tk key (arrOf st') (lo + m - 1)) → Q (none, m, neq) st') :
  wpS (model prog w) A E s (fallL lo n nrem) Q st := by
 unfold fallL
 refine wpS_forRange (I := fun x c st' => ∃ neq, c = (none, x, neq) ∧ SB kd a₀ st' ∧ Kept lo st st' ∧ NIn key (arrOf st') lo (lo + x) ∧ neq + 1 ≤ x ∧
   (∀ i, lo + x - (neq + 1) ≤ i → i < lo + x → tk key (arrOf st') i = tk key (arrOf st') (lo + x - 1))) ?step ?fin
   ⟨0, rfl, hB, Kept.refl, hs, by exact h1, fun i h1 h2 => by congr 1; exact Nat.le_antisymm (Nat.le_of_not_lt fun hg => lin [lo, n, (lo + n - (0 + 1)), i] [(1, (.a (.v 3) (.n 1)), (.a (.v 0) (.v 1))), (1, (.a (.v 0) (.v 1)), (.a (.v 2) (.a (.n 0) (.n 1)))), (1, (.a (.v 2) (.n 1)), (.v 3))] rfl h2 (sub_lo (lo + n) (0 + 1)) hg) (Nat.le_of_not_lt fun hg => lin [(lo + n - (0 + 1)), i] [(1, (.v 0), (.v 1)), (1, (.a (.v 1) (.n 1)), (.v 0))] rfl h1 hg)⟩
 case fin =>
  rintro c st' ⟨neq, rfl, hB', hK, hs', hq, he⟩
  rw [show max n nrem = nrem by exact Nat.max_eq_right hnn] at hs' hq he ⊢
  exact h nrem neq st' hB' hK hnn (Nat.le_refl _) hs' hq he
 case step =>
  rintro x c st' hax hxn ⟨neq, rfl, hB', hK, hs', hq, he⟩
  dsimp only
  have hsz : lo + x ≤ (arrOf st').size := by rw [hB'.size]; exact Nat.le_of_not_lt fun hg => lin [lo, nrem, (a₀.size), x] [(1, (.a (.v 0) (.v 1)), (.v 2)), (1, (.a (.v 3) (.n 1)), (.v 1)), (1, (.a (.v 2) (.n 1)), (.a (.v 0) (.v 3)))] rfl hn hxn hg
  refine ts_ltAtB hL hB' (by exact Nat.lt_of_not_le fun hg => lin [lo, nrem, (a₀.size), x] [(1, (.a (.v 0) (.v 1)), (.v 2)), (1, (.a (.v 3) (.n 1)), (.v 1)), (1, (.v 2), (.a (.v 0) (.v 3)))] rfl hn hxn hg) (by exact Nat.lt_of_not_le fun hg => lin [lo, nrem, (a₀.size), x, (lo + x - 1)] [(1, (.a (.v 0) (.v 1)), (.v 2)), (1, (.a (.v 3) (.n 1)), (.v 1)), (1, (.a (.v 4) (.n 1)), (.a (.v 0) (.v 3))), (1, (.v 2), (.v 4))] rfl hn hxn (sub_hi (Nat.le_of_not_lt fun hg => lin [lo, n, x] [(1, (.n 1), (.v 1)), (1, (.v 1), (.v 2)), (1, (.a (.a (.v 0) (.v 2)) (.n 1)), (.n 1))] rfl h1 hax hg)) hg) ?_
  cases hless : O.blt (tk key (arrOf st') (lo + x)) (tk key (arrOf st') (lo + x - 1))
  case true =>
   simp only [if_true]
   have step1 : ∀ xs : Array Keyed, (∀ k, tk key xs k = tk key (arrOf st') k) → NIn key xs lo (lo + (x + 1)) := by
    intro xs hk i j hi hij hj
    rw [hk, hk]
    by_cases hjx : j < lo + x
    ·exact hs' i j hi hij hjx
    ·have hj' : j = lo + x := by exact Nat.le_antisymm (Nat.le_of_not_lt fun hg => lin [lo, x, j] [(1, (.a (.v 2) (.n 1)), (.a (.v 0) (.a (.v 1) (.n 1)))), (1, (.a (.a (.v 0) (.v 1)) (.n 1)), (.v 2))] rfl hj hg) (Nat.le_of_not_lt fun hg => lin [lo, x, j] [(1, (.a (.v 0) (.v 1)), (.v 2)), (1, (.a (.v 2) (.n 1)), (.a (.v 0) (.v 1)))] rfl (Nat.le_of_not_lt hjx) hg)
     subst hj'
     by_cases hi' : i = lo + x
     ·subst hi'; exact KeyOrd.kle_refl _
     ·exact KeyOrd.kle_trans (KeyOrd.kle_of_klt hless) (hs' i (lo + x - 1) hi (by exact Nat.le_of_not_lt fun hg => Or.elim (Nat.lt_or_gt_of_ne hi') (fun hs0 => lin [lo, x, i, (lo + x - 1)] [(1, (.a (.v 0) (.v 1)), (.a (.v 3) (.n 1))), (1, (.a (.v 3) (.n 1)), (.v 2)), (1, (.a (.v 2) (.n 1)), (.a (.v 0) (.v 1)))] rfl (sub_lo (lo + x) (1)) hg hs0) (fun hs0 => lin [lo, x, i] [(1, (.v 2), (.a (.v 0) (.v 1))), (1, (.a (.a (.v 0) (.v 1)) (.n 1)), (.v 2))] rfl hij hs0)) (by exact Nat.lt_of_not_le fun hg => lin [lo, x, (lo + x - 1)] [(1, (.a (.v 2) (.n 1)), (.a (.v 0) (.v 1))), (1, (.a (.v 0) (.v 1)), (.v 2))] rfl (sub_hi (Nat.le_of_not_lt fun hg => lin [lo, n, x] [(1, (.n 1), (.v 1)), (1, (.v 1), (.v 2)), (1, (.a (.a (.v 0) (.v 2)) (.n 1)), (.n 1))] rfl h1 hax hg)) hg))
   by_cases hneq : neq > 0
   ·rw [if_pos hneq]
    refine wpS_bind (ts_rev (wpS_pure ⟨0, rfl, hB'.setArr (mirror_perm _ _ _ _), hK.trans (kept_mirror hsz (by exact Nat.le_of_not_lt fun hg => lin [lo, x, neq, (lo + x - (neq + 1))] [(1, (.a (.v 2) (.n 1)), (.v 1)), (1, (.a (.v 0) (.v 1)), (.a (.v 3) (.a (.v 2) (.n 1)))), (1, (.a (.v 3) (.n 1)), (.v 0))] rfl hq (sub_lo (lo + x) (neq + 1)) hg)), step1 _ (tk_mirror_same hsz he), by exact Nat.succ_pos _, fun i h1 h2 => by congr 1; exact Nat.le_antisymm (Nat.le_of_not_lt fun hg => lin [lo, x, (lo + (x + 1) - (0 + 1)), i] [(1, (.a (.v 3) (.n 1)), (.a (.v 0) (.a (.v 1) (.n 1)))), (1, (.a (.v 0) (.a (.v 1) (.n 1))), (.a (.v 2) (.a (.n 0) (.n 1)))), (1, (.a (.v 2) (.n 1)), (.v 3))] rfl h2 (sub_lo (lo + (x + 1)) (0 + 1)) hg) (Nat.le_of_not_lt fun hg => lin [(lo + (x + 1) - (0 + 1)), i] [(1, (.v 0), (.v 1)), (1, (.a (.v 1) (.n 1)), (.v 0))] rfl h1 hg)⟩))
   ·rw [if_neg hneq]
    exact wpS_pure ⟨0, rfl, hB', hK, step1 _ (fun _ => rfl), by exact Nat.succ_pos _, fun i h1 h2 => by congr 1; exact Nat.le_antisymm (Nat.le_of_not_lt fun hg => lin [lo, x, (lo + (x + 1) - (0 + 1)), i] [(1, (.a (.v 3) (.n 1)), (.a (.v 0) (.a (.v 1) (.n 1)))), (1, (.a (.v 0) (.a (.v 1) (.n 1))), (.a (.v 2) (.a (.n 0) (.n 1)))), (1, (.a (.v 2) (.n 1)), (.v 3))] rfl h2 (sub_lo (lo + (x + 1)) (0 + 1)) hg) (Nat.le_of_not_lt fun hg => lin [(lo + (x + 1) - (0 + 1)), i] [(1, (.v 0), (.v 1)), (1, (.a (.v 1) (.n 1)), (.v 0))] rfl h1 hg)⟩
  case false =>
   simp only [Bool.false_eq_true, if_false]
   refine ts_ltAtB hL hB' (by exact Nat.lt_of_not_le fun hg => lin [lo, nrem, (a₀.size), x, (lo + x - 1)] [(1, (.a (.v 0) (.v 1)), (.v 2)), (1, (.a (.v 3) (.n 1)), (.v 1)), (1, (.a (.v 4) (.n 1)), (.a (.v 0) (.v 3))), (1, (.v 2), (.v 4))] rfl hn hxn (sub_hi (Nat.le_of_not_lt fun hg => lin [lo, n, x] [(1, (.n 1), (.v 1)), (1, (.v 1), (.v 2)), (1, (.a (.a (.v 0) (.v 2)) (.n 1)), (.n 1))] rfl h1 hax hg)) hg) (by exact Nat.lt_of_not_le fun hg => lin [lo, nrem, (a₀.size), x] [(1, (.a (.v 0) (.v 1)), (.v 2)), (1, (.a (.v 3) (.n 1)), (.v 1)), (1, (.v 2), (.a (.v 0) (.v 3)))] rfl hn hxn hg) ?_
   cases hlarger : O.blt (tk key (arrOf st') (lo + x - 1)) (tk key (arrOf st') (lo + x))
   case true =>
    simp only [if_true]
    exact wpS_pure (h x neq st' hB' hK hax (by exact Nat.le_of_lt hxn) hs' hq he)
   case false =>
    simp only [Bool.false_eq_true, if_false]
    have heqx : tk key (arrOf st') (lo + x) = tk key (arrOf st') (lo + x - 1) := KeyOrd.kle_antisymm hlarger hless
    refine wpS_pure ⟨neq + 1, rfl, hB', hK, fun i j hi hij hj => ?_, by exact Nat.lt_succ_of_le hq, fun i h1 h2 => ?_⟩
    ·by_cases hjx : j < lo + x
     ·exact hs' i j hi hij hjx
     ·have hj' : j = lo + x := by exact Nat.le_antisymm (Nat.le_of_not_lt fun hg => lin [lo, x, j] [(1, (.a (.v 2) (.n 1)), (.a (.v 0) (.a (.v 1) (.n 1)))), (1, (.a (.a (.v 0) (.v 1)) (.n 1)), (.v 2))] rfl hj hg) (Nat.le_of_not_lt fun hg => lin [lo, x, j] [(1, (.a (.v 0) (.v 1)), (.v 2)), (1, (.a (.v 2) (.n 1)), (.a (.v 0) (.v 1)))] rfl (Nat.le_of_not_lt hjx) hg)
      subst hj'
      by_cases hi' : i = lo + x
      ·subst hi'; exact KeyOrd.kle_refl _
      ·rw [heqx]; exact hs' i (lo + x - 1) hi (by exact Nat.le_of_not_lt fun hg => Or.elim (Nat.lt_or_gt_of_ne hi') (fun hs0 => lin [lo, x, i, (lo + x - 1)] [(1, (.a (.v 0) (.v 1)), (.a (.v 3) (.n 1))), (1, (.a (.v 3) (.n 1)), (.v 2)), (1, (.a (.v 2) (.n 1)), (.a (.v 0) (.v 1)))] rfl (sub_lo (lo + x) (1)) hg hs0) (fun hs0 => lin [lo, x, i] [(1, (.v 2), (.a (.v 0) (.v 1))), (1, (.a (.a (.v 0) (.v 1)) (.n 1)), (.v 2))] rfl hij hs0)) (by exact Nat.lt_of_not_le fun hg => lin [lo, x, (lo + x - 1)] [(1, (.a (.v 2) (.n 1)), (.a (.v 0) (.v 1))), (1, (.a (.v 0) (.v 1)), (.v 2))] rfl (sub_hi (Nat.le_of_not_lt fun hg => lin [lo, n, x] [(1, (.n 1), (.v 1)), (1, (.v 1), (.v 2)), (1, (.a (.a (.v 0) (.v 2)) (.n 1)), (.n 1))] rfl h1 hax hg)) hg)
    ·rw [show lo + (x + 1) - 1 = lo + x by exact rfl]
     by_cases hix : i = lo + x
     ·subst hix; rfl
     ·rw [heqx]; exact he i (by exact Nat.le_of_not_lt fun hg => lin [lo, x, neq, (lo + (x + 1) - (neq + 1 + 1)), i, (lo + x - (neq + 1))] [(1, (.v 3), (.v 4)), (1, (.a (.v 0) (.a (.v 1) (.n 1))), (.a (.v 3) (.a (.a (.v 2) (.n 1)) (.n 1)))), (1, (.a (.v 5) (.a (.v 2) (.n 1))), (.a (.v 0) (.v 1))), (1, (.a (.v 4) (.n 1)), (.v 5))] rfl h1 (sub_lo (lo + (x + 1)) (neq + 1 + 1)) (sub_hi (Nat.le_of_not_lt fun hg => lin [lo, x, neq] [(1, (.a (.v 2) (.n 1)), (.v 1)), (1, (.a (.a (.v 0) (.v 1)) (.n 1)), (.a (.v 2) (.n 1)))] rfl hq hg)) hg) (by exact Nat.lt_of_not_le fun hg => Or.elim (Nat.lt_or_gt_of_ne hix) (fun hs0 => lin [lo, x, i] [(1, (.a (.v 0) (.v 1)), (.v 2)), (1, (.a (.v 2) (.n 1)), (.a (.v 0) (.v 1)))] rfl hg hs0) (fun hs0 => lin [lo, x, i] [(1, (.a (.v 2) (.n 1)), (.a (.v 0) (.a (.v 1) (.n 1)))), (1, (.a (.a (.v 0) (.v 1)) (.n 1)), (.v 2))] rfl h2 hs0))
theorem ts_desc {st : SortSt} {lo n nrem : Nat} {Q : Option Nat → SortSt → Prop} (hL : LtOk prog w A E s kd O key a₀) (hn : lo + nrem ≤ a₀.size) (hnn : n + 1 ≤ nrem) (hB : SB kd a₀ st)
  (hs : NIn key (arrOf st) lo (lo + (n + 1))) (h : RunPost kd O key a₀ st lo nrem Q) :
  wpS (model prog w) A E s (descL lo n nrem) Q st := by
 unfold descL
 refine ts_ruleB ?_
 refine wpS_bind (ts_fall hL hn (by exact Nat.succ_pos _) hnn hB hs fun m neq st' hB' hK hm1 hm2 hs' hq he => ?_)
 dsimp only
 have hsz : lo + m ≤ (arrOf st').size := by rw [hB'.size]; exact Nat.le_of_not_lt fun hg => lin [lo, nrem, (a₀.size), m] [(1, (.a (.v 0) (.v 1)), (.v 2)), (1, (.v 3), (.v 1)), (1, (.a (.v 2) (.n 1)), (.a (.v 0) (.v 3)))] rfl hn hm2 hg
 by_cases hneq : neq > 0
 ·rw [if_pos hneq]
  refine wpS_bind (ts_rev (ts_end hL hn (by exact Nat.zero_lt_of_lt hm1) hm2 (hB'.setArr (mirror_perm _ _ _ _)) ?_ (h.step (hK.trans (kept_mirror hsz (by exact Nat.le_of_not_lt fun hg => lin [lo, m, neq, (lo + m - (neq + 1))] [(1, (.a (.v 2) (.n 1)), (.v 1)), (1, (.a (.v 0) (.v 1)), (.a (.v 3) (.a (.v 2) (.n 1)))), (1, (.a (.v 3) (.n 1)), (.v 0))] rfl hq (sub_lo (lo + m) (neq + 1)) hg))))))
  intro i j hi hij hj
  show O.kle (tk key (mirror (arrOf st') _ _ _) j) (tk key (mirror (arrOf st') _ _ _) i)
  rw [tk_mirror_same hsz he, tk_mirror_same hsz he]
  exact hs' i j hi hij hj
 ·rw [if_neg hneq]
  exact ts_end hL hn (by exact Nat.zero_lt_of_lt hm1) hm2 hB' hs' (h.step hK)
theorem ts_count {st : SortSt} {lo nrem : Nat} {Q : Option Nat → SortSt → Prop} (hL : LtOk prog w A E s kd O key a₀) (hn : lo + nrem ≤ a₀.size) (h1 : 1 ≤ nrem) (hB : SB kd a₀ st)
  (h : RunPost kd O key a₀ st lo nrem Q) :
  wpS (model prog w) A E s (countRun' lo nrem) Q st := by
 rw [countL_eq]
 refine wpS_bind (ts_asc hL hn (Nat.le_refl 1) h1 hB (fun i j hi hij hj => by have : i = j := (by exact Nat.le_antisymm (Nat.le_of_not_lt fun hg => lin [i, j] [(1, (.v 0), (.v 1)), (1, (.a (.v 1) (.n 1)), (.v 0))] rfl hij hg) (Nat.le_of_not_lt fun hg => lin [lo, i, j] [(1, (.v 0), (.v 1)), (1, (.a (.v 2) (.n 1)), (.a (.v 0) (.n 1))), (1, (.a (.v 1) (.n 1)), (.v 2))] rfl hi hj hg)); subst this; exact KeyOrd.kle_refl _) fun n hn1 hn2 hsn hor => ?_)
 dsimp only
 by_cases hnn : n = nrem
 ·rw [if_pos (by simpa using hnn)]
  exact wpS_pure (h n st hB Kept.refl hn1 hn2 hsn)
 ·rw [if_neg (by simpa using hnn)]
  have hlt : O.klt (tk key (arrOf st) (lo + n)) (tk key (arrOf st) (lo + n - 1)) := hor.resolve_left hnn
  by_cases hgt : n > 1
  ·rw [if_pos hgt]
   refine ts_ltAtB hL hB (by exact Nat.lt_of_not_le fun hg => lin [lo, nrem, (a₀.size)] [(1, (.a (.v 0) (.v 1)), (.v 2)), (1, (.n 1), (.v 1)), (1, (.v 2), (.v 0))] rfl hn h1 hg) (by exact Nat.lt_of_not_le fun hg => lin [lo, nrem, (a₀.size), n, (lo + n - 1)] [(1, (.a (.v 0) (.v 1)), (.v 2)), (1, (.v 3), (.v 1)), (1, (.a (.v 4) (.n 1)), (.a (.v 0) (.v 3))), (1, (.v 2), (.v 4))] rfl hn hn2 (sub_hi (Nat.le_of_not_lt fun hg => lin [lo, n] [(1, (.a (.n 1) (.n 1)), (.v 1)), (1, (.a (.a (.v 0) (.v 1)) (.n 1)), (.n 1))] rfl hgt hg)) hg) ?_
   cases hrose : O.blt (tk key (arrOf st) lo) (tk key (arrOf st) (lo + n - 1))
   case true =>
    simp only [if_true]
    exact wpS_pure (h n st hB Kept.refl hn1 hn2 hsn)
   case false =>
    simp only [Bool.false_eq_true, if_false]
    have hsz : lo + n ≤ (arrOf st).size := by rw [hB.size]; exact Nat.le_of_not_lt fun hg => lin [lo, nrem, (a₀.size), n] [(1, (.a (.v 0) (.v 1)), (.v 2)), (1, (.v 3), (.v 1)), (1, (.a (.v 2) (.n 1)), (.a (.v 0) (.v 3)))] rfl hn hn2 hg
    have hall : ∀ k, lo ≤ k → k < lo + n → tk key (arrOf st) k = tk key (arrOf st) (lo + n - 1) := by
     intro k hk1 hk
     have a1 := hsn lo k (by exact Nat.le_refl _) hk1 hk
     have a2 := hsn k (lo + n - 1) hk1 (by exact Nat.le_of_not_lt fun hg => lin [lo, n, k, (lo + n - 1)] [(1, (.a (.v 2) (.n 1)), (.a (.v 0) (.v 1))), (1, (.a (.v 0) (.v 1)), (.a (.v 3) (.n 1))), (1, (.a (.v 3) (.n 1)), (.v 2))] rfl hk (sub_lo (lo + n) (1)) hg) (by exact Nat.lt_of_not_le fun hg => lin [lo, n, (lo + n - 1)] [(1, (.a (.v 2) (.n 1)), (.a (.v 0) (.v 1))), (1, (.a (.v 0) (.v 1)), (.v 2))] rfl (sub_hi (Nat.le_of_not_lt fun hg => lin [lo, n] [(1, (.a (.n 1) (.n 1)), (.v 1)), (1, (.a (.a (.v 0) (.v 1)) (.n 1)), (.n 1))] rfl hgt hg)) hg)
     exact KeyOrd.kle_antisymm a2 (KeyOrd.kle_trans hrose a1)
    refine wpS_bind (ts_rev (ts_desc hL hn (by exact Nat.lt_of_le_of_ne hn2 hnn) (hB.setArr (mirror_perm _ _ _ _)) ?_ (h.step (kept_mirror hsz (Nat.le_refl _)))))
    intro i j hi hij hj
    show O.kle (tk key (mirror (arrOf st) _ _ _) j) (tk key (mirror (arrOf st) _ _ _) i)
    rw [tk_mirror_same hsz hall, tk_mirror_same hsz hall]
    by_cases hjn : j < lo + n
    ·rw [hall i (by exact hi) (by exact Nat.lt_of_le_of_lt hij hjn), hall j (by exact Nat.le_trans hi hij) hjn]; exact KeyOrd.kle_refl _
    ·have hj' : j = lo + n := by exact Nat.le_antisymm (Nat.le_of_not_lt fun hg => lin [lo, n, j] [(1, (.a (.v 2) (.n 1)), (.a (.v 0) (.a (.v 1) (.n 1)))), (1, (.a (.a (.v 0) (.v 1)) (.n 1)), (.v 2))] rfl hj hg) (Nat.le_of_not_lt fun hg => lin [lo, n, j] [(1, (.a (.v 0) (.v 1)), (.v 2)), (1, (.a (.v 2) (.n 1)), (.a (.v 0) (.v 1)))] rfl (Nat.le_of_not_lt hjn) hg)
     subst hj'
     by_cases hi' : i = lo + n
     ·subst hi'; exact KeyOrd.kle_refl _
     ·rw [hall i (by exact hi) (by exact Nat.lt_of_le_of_ne hij hi')]; exact KeyOrd.kle_of_klt hlt
  ·rw [if_neg hgt]
   have hn1' : n = 1 := by omega
   subst hn1'
   refine ts_desc hL hn (by exact Nat.lt_of_le_of_ne h1 hnn) hB ?_ h
   intro i j hi hij hj
   by_cases hi' : i = j
   ·subst hi'; exact KeyOrd.kle_refl _
   ·have hi0 : i = lo := by exact Nat.le_antisymm (Nat.le_of_not_lt fun hg => Or.elim hor (fun hs0 => Or.elim (Nat.lt_or_gt_of_ne hnn) (fun hs1 => lin [nrem] [(1, (.v 0), (.n 1)), (1, (.a (.n 1) (.n 1)), (.v 0))] rfl (Nat.le_of_eq (Eq.symm hs0)) hs1) (fun hs1 => lin [nrem] [(1, (.n 1), (.v 0)), (1, (.a (.v 0) (.n 1)), (.n 1))] rfl h1 hs1)) (fun hs0 => Or.elim (Nat.lt_or_gt_of_ne hi') (fun hs1 => lin [lo, i, j] [(1, (.a (.v 2) (.n 1)), (.a (.v 0) (.a (.n 1) (.n 1)))), (1, (.a (.v 0) (.n 1)), (.v 1)), (1, (.a (.v 1) (.n 1)), (.v 2))] rfl hj hg hs1) (fun hs1 => lin [i, j] [(1, (.v 0), (.v 1)), (1, (.a (.v 1) (.n 1)), (.v 0))] rfl hij hs1))) (Nat.le_of_not_lt fun hg => lin [lo, i] [(1, (.v 0), (.v 1)), (1, (.a (.v 1) (.n 1)), (.v 0))] rfl hi hg)
    have hj1 : j = lo + 1 := by exact Nat.le_antisymm (Nat.le_of_not_lt fun hg => lin [lo, j] [(1, (.a (.v 1) (.n 1)), (.a (.v 0) (.a (.n 1) (.n 1)))), (1, (.a (.a (.v 0) (.n 1)) (.n 1)), (.v 1))] rfl hj hg) (Nat.le_of_not_lt fun hg => Or.elim hor (fun hs0 => Or.elim (Nat.lt_or_gt_of_ne hnn) (fun hs1 => lin [nrem] [(1, (.v 0), (.n 1)), (1, (.a (.n 1) (.n 1)), (.v 0))] rfl (Nat.le_of_eq (Eq.symm hs0)) hs1) (fun hs1 => lin [nrem] [(1, (.n 1), (.v 0)), (1, (.a (.v 0) (.n 1)), (.n 1))] rfl h1 hs1)) (fun hs0 => Or.elim (Nat.lt_or_gt_of_ne hi') (fun hs1 => lin [lo, i, j] [(1, (.v 0), (.v 1)), (1, (.a (.v 2) (.n 1)), (.a (.v 0) (.n 1))), (1, (.a (.v 1) (.n 1)), (.v 2))] rfl hi hg hs1) (fun hs1 => lin [i, j] [(1, (.v 0), (.v 1)), (1, (.a (.v 1) (.n 1)), (.v 0))] rfl hij hs1)))
    subst hi0; subst hj1
    exact KeyOrd.kle_of_klt hlt
end walk
end Mine
end
noncomputable section
namespace Mine
open PySem PyProof.Rows
noncomputable def gallopM : Bool → Keyed → Array Keyed → Nat → Nat → Nat → StateT SortSt Sem (Option Nat) := sortPriv% PySem.Builtin.gallop
noncomputable def mergeLoM : Array Keyed → Array Keyed → StateT SortSt Sem (Array Keyed) := sortPriv% PySem.Builtin.mergeLo
noncomputable def mergeHiM : Array Keyed → Array Keyed → StateT SortSt Sem (Array Keyed) := sortPriv% PySem.Builtin.mergeHi
noncomputable def bey {O : KeyOrd} (key : Keyed → O.α) (left : Bool) (k : Keyed) (arr : Array Keyed) (i : Nat) : Bool :=
 if left then O.blt (tk key arr i) (key k) else !O.blt (key k) (tk key arr i)
noncomputable def beyM (left : Bool) (k : Keyed) (arr : Array Keyed) (base i : Nat) : StateT SortSt Sem (Option Bool) := do
 let x ← elem' arr (base + i)
 if left then lt' x k else return (← lt' k x).map (!·)
section walk
variable {prog : Program} {w : World} {A : Around} {E : Value → Shared → Prop} {s : Shared} {kd : SortKind} {O : KeyOrd} {key : Keyed → O.α} {a₀ : Array Keyed}
theorem ts_bey {st : SortSt} {left : Bool} {k : Keyed} {arr : Array Keyed} {base i : Nat} {Q : Option Bool → SortSt → Prop} (hL : LtOk prog w A E s kd O key a₀)
  (hk : k ∈ a₀.toList) (ha : ∀ x ∈ arr.toList, x ∈ a₀.toList) (hi : base + i < arr.size) (hkd : kindOf st = kd)
  (h : Q (some (bey key left k arr (base + i))) st) : wpS (model prog w) A E s (beyM left k arr base i) Q st := by
 have e : arr[base + i]? = some arr[base + i] := getElem?_pos arr _ hi
 have m : arr[base + i] ∈ a₀.toList := ha _ (by simp)
 have et : tk key arr (base + i) = key arr[base + i] := by unfold tk; rw [e]; rfl
 unfold beyM
 rw [elem'_eq, e]
 refine wpS_bind (wpS_pure ?_)
 unfold bey at h
 rw [et] at h
 cases left with
 | true => exact hL _ _ m hk _ _ hkd h
 | false =>
  simp only [Bool.false_eq_true, if_false] at h ⊢
  exact wpS_bind (hL _ _ hk m _ _ hkd (wpS_pure h))
theorem ts_share {α β γ : Type} {Q : α → SortSt → Prop} {st : SortSt} {m : StateT SortSt Sem α} {G : β → γ → StateT SortSt Sem α} (H : β → γ → Prop) (use : (∀ x y, H x y → wpS (model prog w) A E s (G x y) Q st) → wpS (model prog w) A E s m Q st)
  (key : ∀ x y, H x y → wpS (model prog w) A E s (G x y) Q st) : wpS (model prog w) A E s m Q st := use key
theorem ts_gallop {st : SortSt} {left : Bool} {k : Keyed} {arr : Array Keyed} {base n hint : Nat} {Q : Option Nat → SortSt → Prop} (hL : LtOk prog w A E s kd O key a₀)
  (hk : k ∈ a₀.toList) (ha : ∀ x ∈ arr.toList, x ∈ a₀.toList) (hn : base + n ≤ arr.size) (hh : hint < n) (hkd : kindOf st = kd)
  (hm : ∀ i j, i ≤ j → j < n → bey key left k arr (base + j) = true → bey key left k arr (base + i) = true)
  (h : ∀ r, r ≤ n → (∀ i, i < r → bey key left k arr (base + i) = true) → (∀ i, r ≤ i → i < n → bey key left k arr (base + i) = false) → Q (some r) st) :
  wpS (model prog w) A E s (gallopM left k arr base n hint) Q st := by
 have hb : ∀ {i : Nat} {Q : Option Bool → SortSt → Prop}, i < n → Q (some (bey key left k arr (base + i))) st → wpS (model prog w) A E s (beyM left k arr base i) Q st :=
  fun hi h => ts_bey hL hk ha (by (rename_i zz1 zz0; exact Nat.lt_of_not_le fun hg => lin [base, n, (arr.size), zz1] [(1, (.a (.v 0) (.v 1)), (.v 2)), (1, (.a (.v 3) (.n 1)), (.v 1)), (1, (.v 2), (.a (.v 0) (.v 3)))] rfl hn hi hg)) hkd h
 have hmf : ∀ i j, i ≤ j → j < n → bey key left k arr (base + i) = false → bey key left k arr (base + j) = false := by
  intro i j hij hj hf
  cases hbj : bey key left k arr (base + j) with
  | false => rfl
  | true => rw [hm i j hij hj hbj] at hf; cases hf
 unfold gallopM
 refine wpS_bind (hb hh ?_)
 refine' ts_share (G := ?G) (fun lo hi => lo ≤ hi ∧ hi ≤ n ∧ (∀ i, i < lo → bey key left k arr (base + i) = true) ∧ (∀ i, hi ≤ i → i < n → bey key left k arr (base + i) = false)) (fun K => ?use) ?key
 case use =>
  cases hr : bey key left k arr (base + hint) with
  | true =>
   refine ts_for (fun x c st' => st' = st ∧ ∃ l o, c = (none, l, o) ∧ l < o ∧ x + 1 ≤ o ∧ l < n - hint ∧ bey key left k arr (base + (hint + l)) = true)
    (fun c st' => st' = st ∧ ∃ l o, c = (none, l, o) ∧ l < o ∧ l < n - hint ∧ bey key left k arr (base + (hint + l)) = true ∧ (o < n - hint → bey key left k arr (base + (hint + o)) = false)) ?step ?fin ⟨rfl, 0, 1, rfl, Nat.one_pos, Nat.le_refl _, by exact Nat.sub_pos_of_lt hh, hr⟩ ?post
   case fin =>
    rintro c st' ⟨rfl, l, o, rfl, h1, h2, h3, h4⟩
    exact ⟨rfl, l, o, rfl, h1, h3, h4, fun h5 => absurd h5 (Nat.not_lt.mpr (Nat.le_trans (Nat.sub_le _ _) (Nat.le_trans (Nat.le_max_right _ _) (Nat.le_of_succ_le h2))))⟩
   case step =>
    rintro F hF x c st' ⟨rfl, l, o, rfl, h1, h2, h3, h4⟩
    subst hF
    dsimp only
    by_cases ho : o ≥ n - hint
    ·rw [if_pos ho]
     exact wpS_pure ⟨rfl, l, o, rfl, h1, h3, h4, fun h5 => absurd h5 (Nat.not_lt.mpr ho)⟩
    ·rw [if_neg ho]
     refine wpS_bind (hb (Nat.add_lt_of_lt_sub' (Nat.lt_of_not_le ho)) ?_)
     cases hbo : bey key left k arr (base + (hint + o)) with
     | true => exact wpS_pure ⟨rfl, o, 2 * o + 1, rfl, by exact Nat.lt_of_not_le fun hg => lin [l, o] [(1, (.a (.v 0) (.n 1)), (.v 1)), (1, (.a (.m 2 (.v 1)) (.n 1)), (.v 1))] rfl h1 hg, by exact Nat.le_of_not_lt fun hg => lin [l, o, x] [(1, (.a (.v 0) (.n 1)), (.v 1)), (1, (.a (.v 2) (.n 1)), (.v 1)), (1, (.a (.a (.m 2 (.v 1)) (.n 1)) (.n 1)), (.a (.a (.v 2) (.n 1)) (.n 1)))] rfl h1 h2 hg, by exact Nat.lt_of_not_le ho, hbo⟩
     | false => exact wpS_pure ⟨rfl, l, o, rfl, h1, h3, h4, fun _ => hbo⟩
   case post =>
    rintro K2 hK c st' ⟨hst, l, o, rfl, h1, h3, h4, h5⟩
    rw [hst]
    subst hK
    dsimp only
    have H : hint + l + 1 ≤ hint + min o (n - hint) ∧ hint + min o (n - hint) ≤ n ∧ (∀ i, i < hint + l + 1 → bey key left k arr (base + i) = true) ∧ (∀ i, hint + min o (n - hint) ≤ i → i < n → bey key left k arr (base + i) = false) := by
     refine ⟨by exact Nat.le_of_not_lt fun hg => Or.elim (sub_or (n) (hint)) (fun hs0 => Or.elim (min_or (o) (n - hint)) (fun hs1 => lin [hint, l, o, (min o (n - hint))] [(1, (.a (.v 1) (.n 1)), (.v 2)), (1, (.a (.a (.v 0) (.v 3)) (.n 1)), (.a (.a (.v 0) (.v 1)) (.n 1))), (1, (.v 2), (.v 3))] rfl h1 hg hs1) (fun hs1 => lin [hint, l, (n - hint), (min o (n - hint))] [(1, (.a (.v 1) (.n 1)), (.v 2)), (1, (.a (.a (.v 0) (.v 3)) (.n 1)), (.a (.a (.v 0) (.v 1)) (.n 1))), (1, (.v 2), (.v 3))] rfl h3 hg hs1)) (fun hs0 => lin [n, hint, (n - hint)] [(1, (.a (.v 1) (.n 1)), (.v 0)), (1, (.v 0), (.a (.v 2) (.v 1))), (1, (.v 2), (.n 0))] rfl hh (sub_lo (n) (hint)) (Nat.le_of_eq hs0)), by exact Nat.le_of_not_lt fun hg => lin [n, hint, (n - hint), (min o (n - hint))] [(1, (.v 3), (.v 2)), (1, (.a (.v 2) (.v 1)), (.v 0)), (1, (.a (.v 0) (.n 1)), (.a (.v 1) (.v 3)))] rfl (Nat.min_le_right (o) (n - hint)) (sub_hi (Nat.le_of_not_lt fun hg => lin [n, hint] [(1, (.a (.v 1) (.n 1)), (.v 0)), (1, (.a (.v 0) (.n 1)), (.v 1))] rfl hh hg)) hg, fun i hi => hm i (hint + l) (by exact Nat.le_of_lt_succ hi) (by exact Nat.lt_of_not_le fun hg => lin [n, hint, l, (n - hint)] [(1, (.a (.v 2) (.n 1)), (.v 3)), (1, (.a (.v 3) (.v 1)), (.v 0)), (1, (.v 0), (.a (.v 1) (.v 2)))] rfl h3 (sub_hi (Nat.le_of_not_lt fun hg => lin [n, hint] [(1, (.a (.v 1) (.n 1)), (.v 0)), (1, (.a (.v 0) (.n 1)), (.v 1))] rfl hh hg)) hg) h4, fun i h6 h7 => ?_⟩
     by_cases ho : o < n - hint
     ·exact hmf (hint + o) i (by exact Nat.le_of_not_lt fun hg => Or.elim (sub_or (n) (hint)) (fun hs0 => Or.elim (min_or (o) (n - hint)) (fun hs1 => lin [hint, o, (min o (n - hint)), i] [(1, (.a (.v 0) (.v 2)), (.v 3)), (1, (.a (.v 3) (.n 1)), (.a (.v 0) (.v 1))), (1, (.v 1), (.v 2))] rfl h6 hg hs1) (fun hs1 => lin [hint, o, (n - hint), (min o (n - hint)), i] [(1, (.a (.v 0) (.v 3)), (.v 4)), (1, (.a (.v 1) (.n 1)), (.v 2)), (1, (.a (.v 4) (.n 1)), (.a (.v 0) (.v 1))), (1, (.v 2), (.v 3))] rfl h6 ho hg hs1)) (fun hs0 => lin [n, hint, (n - hint)] [(1, (.a (.v 1) (.n 1)), (.v 0)), (1, (.v 0), (.a (.v 2) (.v 1))), (1, (.v 2), (.n 0))] rfl hh (sub_lo (n) (hint)) (Nat.le_of_eq hs0))) h7 (h5 ho)
     ·exact absurd h7 (Nat.not_lt.mpr (by rwa [Nat.min_eq_right (Nat.le_of_not_lt ho), Nat.add_sub_cancel' (Nat.le_of_lt hh)] at h6))
    generalize hint + l + 1 = lo at H ⊢
    generalize hint + min o (n - hint) = hi at H ⊢
    exact K lo hi H
  | false =>
   refine ts_for (fun x c st' => st' = st ∧ ∃ l o, c = (none, l, o) ∧ l < o ∧ x + 1 ≤ o ∧ l ≤ hint ∧ bey key left k arr (base + (hint - l)) = false)
    (fun c st' => st' = st ∧ ∃ l o, c = (none, l, o) ∧ l < o ∧ l ≤ hint ∧ bey key left k arr (base + (hint - l)) = false ∧ (o ≤ hint → bey key left k arr (base + (hint - o)) = true)) ?step ?fin ⟨rfl, 0, 1, rfl, Nat.one_pos, Nat.le_refl _, Nat.zero_le _, hr⟩ ?post
   case fin =>
    rintro c st' ⟨rfl, l, o, rfl, h1, h2, h3, h4⟩
    exact ⟨rfl, l, o, rfl, h1, h3, h4, fun h5 => absurd (Nat.lt_of_le_of_lt h5 hh) (Nat.not_lt.mpr (Nat.le_trans (Nat.le_max_right _ _) (Nat.le_of_succ_le h2)))⟩
   case step =>
    rintro F hF x c st' ⟨rfl, l, o, rfl, h1, h2, h3, h4⟩
    subst hF
    dsimp only
    by_cases ho : o ≥ hint + 1
    ·rw [if_pos ho]
     exact wpS_pure ⟨rfl, l, o, rfl, h1, h3, h4, fun h5 => absurd ho (Nat.not_le.mpr (Nat.lt_succ_of_le h5))⟩
    ·rw [if_neg ho]
     refine wpS_bind (hb (by exact Nat.lt_of_le_of_lt (Nat.sub_le _ _) hh) ?_)
     cases hbo : bey key left k arr (base + (hint - o)) with
     | false => exact wpS_pure ⟨rfl, o, 2 * o + 1, rfl, by exact Nat.lt_of_not_le fun hg => lin [l, o] [(1, (.a (.v 0) (.n 1)), (.v 1)), (1, (.a (.m 2 (.v 1)) (.n 1)), (.v 1))] rfl h1 hg, by exact Nat.le_of_not_lt fun hg => lin [l, o, x] [(1, (.a (.v 0) (.n 1)), (.v 1)), (1, (.a (.v 2) (.n 1)), (.v 1)), (1, (.a (.a (.m 2 (.v 1)) (.n 1)) (.n 1)), (.a (.a (.v 2) (.n 1)) (.n 1)))] rfl h1 h2 hg, by exact Nat.le_of_not_lt ho, hbo⟩
     | true => exact wpS_pure ⟨rfl, l, o, rfl, h1, h3, h4, fun _ => hbo⟩
   case post =>
    rintro K2 hK c st' ⟨hst, l, o, rfl, h1, h3, h4, h5⟩
    rw [hst]
    subst hK
    dsimp only
    refine K _ _ ⟨by exact Nat.le_of_not_lt fun hg => Or.elim (sub_or (hint + 1) (min o (hint + 1))) (fun hs0 => Or.elim (min_or (o) (hint + 1)) (fun hs1 => lin [hint, l, o, (hint + 1 - min o (hint + 1)), (hint - l), (min o (hint + 1))] [(1, (.a (.v 1) (.n 1)), (.v 2)), (1, (.a (.v 3) (.v 5)), (.a (.v 0) (.n 1))), (1, (.v 0), (.a (.v 4) (.v 1))), (1, (.a (.v 4) (.n 1)), (.v 3)), (1, (.v 2), (.v 5))] rfl h1 (sub_hi (Nat.le_of_not_lt fun hg => lin [hint, (min o (hint + 1))] [(1, (.v 1), (.a (.v 0) (.n 1))), (1, (.a (.a (.v 0) (.n 1)) (.n 1)), (.v 1))] rfl (Nat.min_le_right (o) (hint + 1)) hg)) (sub_lo (hint) (l)) hg hs1) (fun hs1 => lin [hint, l, (hint + 1 - min o (hint + 1)), (hint - l), (min o (hint + 1))] [(1, (.v 1), (.v 0)), (1, (.a (.v 2) (.v 4)), (.a (.v 0) (.n 1))), (1, (.v 0), (.a (.v 3) (.v 1))), (1, (.a (.v 3) (.n 1)), (.v 2)), (1, (.a (.v 0) (.n 1)), (.v 4))] rfl h3 (sub_hi (Nat.le_of_not_lt fun hg => lin [hint, (min o (hint + 1))] [(1, (.v 1), (.a (.v 0) (.n 1))), (1, (.a (.a (.v 0) (.n 1)) (.n 1)), (.v 1))] rfl (Nat.min_le_right (o) (hint + 1)) hg)) (sub_lo (hint) (l)) hg hs1)) (fun hs0 => lin [hint, l, (hint + 1 - min o (hint + 1)), (hint - l)] [(1, (.v 1), (.v 0)), (1, (.v 0), (.a (.v 3) (.v 1))), (1, (.a (.v 3) (.n 1)), (.v 2)), (1, (.v 2), (.n 0))] rfl h3 (sub_lo (hint) (l)) hg (Nat.le_of_eq hs0)), by exact Nat.le_of_not_lt fun hg => lin [n, hint, l, (hint - l)] [(1, (.a (.v 1) (.n 1)), (.v 0)), (1, (.a (.v 3) (.v 2)), (.v 1)), (1, (.a (.v 0) (.n 1)), (.v 3))] rfl hh (sub_hi (Nat.le_of_not_lt fun hg => lin [hint, l] [(1, (.v 1), (.v 0)), (1, (.a (.v 0) (.n 1)), (.v 1))] rfl h3 hg)) hg, fun i hi => ?_, fun i h6 h7 => hmf (hint - l) i (by exact h6) h7 h4⟩
    by_cases ho : o ≤ hint
    ·exact hm i (hint - o) (by exact Nat.le_of_not_lt fun hg => Or.elim (sub_or (hint + 1) (min o (hint + 1))) (fun hs0 => Or.elim (min_or (o) (hint + 1)) (fun hs1 => lin [hint, o, i, (hint + 1 - min o (hint + 1)), (hint - o), (min o (hint + 1))] [(1, (.a (.v 2) (.n 1)), (.v 3)), (1, (.a (.v 3) (.v 5)), (.a (.v 0) (.n 1))), (1, (.v 0), (.a (.v 4) (.v 1))), (1, (.a (.v 4) (.n 1)), (.v 2)), (1, (.v 1), (.v 5))] rfl hi (sub_hi (Nat.le_of_not_lt fun hg => lin [hint, o, (min o (hint + 1))] [(1, (.v 1), (.v 0)), (1, (.v 2), (.v 1)), (1, (.a (.a (.v 0) (.n 1)) (.n 1)), (.v 2))] rfl ho (Nat.min_le_left (o) (hint + 1)) hg)) (sub_lo (hint) (o)) hg hs1) (fun hs1 => lin [hint, o, (min o (hint + 1))] [(1, (.v 1), (.v 0)), (1, (.v 2), (.v 1)), (1, (.a (.v 0) (.n 1)), (.v 2))] rfl ho (Nat.min_le_left (o) (hint + 1)) hs1)) (fun hs0 => lin [hint, o, i, (hint + 1 - min o (hint + 1)), (hint - o)] [(1, (.a (.v 2) (.n 1)), (.v 3)), (1, (.v 1), (.v 0)), (1, (.v 0), (.a (.v 4) (.v 1))), (1, (.a (.v 4) (.n 1)), (.v 2)), (1, (.v 3), (.n 0))] rfl hi ho (sub_lo (hint) (o)) hg (Nat.le_of_eq hs0))) (by exact Nat.lt_of_le_of_lt (Nat.sub_le _ _) hh) (h5 ho)
    ·exact absurd hi (by rw [Nat.min_eq_right (Nat.lt_of_not_le ho), Nat.sub_self]; exact Nat.not_lt_zero _)
 case key =>
  rintro lo hi ⟨b1, b2, b4, b5⟩
  refine ts_for (fun x c st'' => st'' = st ∧ ∃ lo hi, c = (none, lo, hi) ∧ lo ≤ hi ∧ hi ≤ n ∧ hi - lo ≤ n - x ∧
    (∀ i, i < lo → bey key left k arr (base + i) = true) ∧ (∀ i, hi ≤ i → i < n → bey key left k arr (base + i) = false))
   (fun c st'' => st'' = st ∧ ∃ lo hi, c = (none, lo, hi) ∧ hi ≤ n ∧
    (∀ i, i < hi → bey key left k arr (base + i) = true) ∧ (∀ i, hi ≤ i → i < n → bey key left k arr (base + i) = false)) ?step ?fin ⟨rfl, lo, hi, rfl, b1, b2, by exact Nat.le_trans (Nat.sub_le _ _) b2, b4, b5⟩ ?post
  case fin =>
   rintro c st'' ⟨rfl, lo, hi, rfl, a1, a2, a3, a4, a5⟩
   have : lo = hi := by exact Nat.le_antisymm (Nat.le_of_not_lt fun hg => lin [lo, hi] [(1, (.v 0), (.v 1)), (1, (.a (.v 1) (.n 1)), (.v 0))] rfl a1 hg) (Nat.le_of_not_lt fun hg => lin [n, lo, hi, (hi - lo), (n - max 0 n)] [(1, (.v 3), (.v 4)), (1, (.v 2), (.a (.v 3) (.v 1))), (1, (.a (.v 4) (.v 0)), (.v 0)), (1, (.a (.v 1) (.n 1)), (.v 2))] rfl a3 (sub_lo (hi) (lo)) (sub_hi (Nat.le_of_not_lt fun hg => lin [n] [(1, (.a (.v 0) (.n 1)), (.v 0))] rfl hg)) hg)
   subst this
   exact ⟨rfl, lo, lo, rfl, a2, a4, a5⟩
  case step =>
   rintro F hF x c st'' ⟨rfl, lo, hi, rfl, a1, a2, a3, a4, a5⟩
   subst hF
   dsimp only
   by_cases hge : lo ≥ hi
   ·rw [if_pos hge]
    have : lo = hi := by exact Nat.le_antisymm a1 hge
    subst this
    exact wpS_pure ⟨rfl, lo, lo, rfl, a2, a4, a5⟩
   ·rw [if_neg hge]
    have hmid : lo + (hi - lo) / 2 < hi := Nat.lt_of_lt_of_eq (Nat.add_lt_add_left (Nat.div_lt_self (Nat.sub_pos_of_lt (Nat.lt_of_not_le hge)) (by decide)) lo) (Nat.add_sub_cancel' a1)
    refine wpS_bind (hb (i := lo + (hi - lo) / 2) (Nat.lt_of_lt_of_le hmid a2) ?_)
    cases hbo : bey key left k arr (base + (lo + (hi - lo) / 2)) with
    | true => exact wpS_pure ⟨rfl, _, hi, rfl, hmid, a2, by exact Nat.le_of_not_lt fun hg => Or.elim (sub_or (n) (x)) (fun hs0 => Or.elim (sub_or (hi) (lo + (hi - lo) / 2 + 1)) (fun hs1 => lin [n, lo, hi, (hi - lo), (n - x), (hi - (lo + (hi - lo) / 2 + 1)), (n - (x + 1)), x, ((hi - lo) / 2)] [(1, (.v 1), (.v 2)), (2, (.v 3), (.v 4)), (1, (.a (.v 3) (.n 1)), (.a (.m 2 (.v 8)) (.n 2))), (3, (.v 2), (.a (.v 3) (.v 1))), (2, (.v 0), (.a (.v 6) (.a (.v 7) (.n 1)))), (2, (.a (.v 6) (.n 1)), (.v 5)), (2, (.a (.v 4) (.v 7)), (.v 0)), (2, (.a (.v 5) (.a (.a (.v 1) (.v 8)) (.n 1))), (.v 2))] rfl a1 a3 (Mine.div_hi (hi - lo) 2 (by decide)) (sub_lo (hi) (lo)) (sub_lo (n) (x + 1)) hg (Nat.le_of_eq hs0) (Nat.le_of_eq hs1)) (fun hs1 => lin [(hi - (lo + (hi - lo) / 2 + 1)), (n - (x + 1))] [(1, (.a (.v 1) (.n 1)), (.v 0)), (1, (.v 0), (.n 0))] rfl hg (Nat.le_of_eq hs1))) (fun hs0 => Or.elim (sub_or (hi) (lo + (hi - lo) / 2 + 1)) (fun hs1 => lin [lo, hi, (hi - lo), (n - x), (hi - (lo + (hi - lo) / 2 + 1)), ((hi - lo) / 2)] [(1, (.v 2), (.v 3)), (1, (.a (.v 2) (.n 1)), (.a (.m 2 (.v 5)) (.n 2))), (2, (.v 1), (.a (.v 2) (.v 0))), (1, (.v 3), (.n 0)), (2, (.a (.v 4) (.a (.a (.v 0) (.v 5)) (.n 1))), (.v 1))] rfl a3 (Mine.div_hi (hi - lo) 2 (by decide)) (sub_lo (hi) (lo)) (Nat.le_of_eq hs0) (Nat.le_of_eq hs1)) (fun hs1 => lin [(hi - (lo + (hi - lo) / 2 + 1)), (n - (x + 1))] [(1, (.a (.v 1) (.n 1)), (.v 0)), (1, (.v 0), (.n 0))] rfl hg (Nat.le_of_eq hs1))), fun i hi' => hm i _ (by exact Nat.le_of_lt_succ hi') (by omega) hbo, a5⟩
    | false => exact wpS_pure ⟨rfl, lo, _, rfl, by exact Nat.le_add_right _ _, by exact Nat.le_of_not_lt fun hg => lin [n, lo, hi, (hi - lo), ((hi - lo) / 2)] [(1, (.v 1), (.v 2)), (2, (.v 2), (.v 0)), (1, (.m 2 (.v 4)), (.v 3)), (1, (.a (.v 3) (.v 1)), (.v 2)), (2, (.a (.v 0) (.n 1)), (.a (.v 1) (.v 4)))] rfl a1 a2 (Mine.div_lo (hi - lo) 2) (sub_hi (Nat.le_of_not_lt fun hg => lin [lo, hi] [(1, (.v 0), (.v 1)), (1, (.a (.v 1) (.n 1)), (.v 0))] rfl a1 hg)) hg, by exact Nat.le_of_not_lt fun hg => Or.elim (sub_or (hi) (lo)) (fun hs0 => Or.elim (sub_or (n) (x)) (fun hs1 => lin [n, lo, (hi - lo), (n - x), (lo + (hi - lo) / 2 - lo), (n - (x + 1)), x, ((hi - lo) / 2)] [(1, (.v 2), (.v 3)), (1, (.m 2 (.v 7)), (.v 2)), (2, (.a (.v 4) (.v 1)), (.a (.v 1) (.v 7))), (1, (.v 0), (.a (.v 5) (.a (.v 6) (.n 1)))), (2, (.a (.v 5) (.n 1)), (.v 4)), (1, (.a (.v 3) (.v 6)), (.v 0))] rfl a3 (Mine.div_lo (hi - lo) 2) (sub_hi (Nat.le_of_not_lt fun hg => lin [lo, hi, (hi - lo), ((hi - lo) / 2)] [(1, (.v 0), (.v 1)), (1, (.a (.v 2) (.n 1)), (.a (.m 2 (.v 3)) (.n 2))), (1, (.v 1), (.a (.v 2) (.v 0))), (2, (.a (.a (.v 0) (.v 3)) (.n 1)), (.v 0))] rfl a1 (Mine.div_hi (hi - lo) 2 (by decide)) (sub_lo (hi) (lo)) hg)) (sub_lo (n) (x + 1)) hg (Nat.le_of_eq hs1)) (fun hs1 => lin [lo, (hi - lo), (n - x), (lo + (hi - lo) / 2 - lo), (n - (x + 1)), ((hi - lo) / 2)] [(1, (.v 1), (.v 2)), (1, (.m 2 (.v 5)), (.v 1)), (2, (.a (.v 3) (.v 0)), (.a (.v 0) (.v 5))), (2, (.a (.v 4) (.n 1)), (.v 3)), (1, (.v 2), (.n 0))] rfl a3 (Mine.div_lo (hi - lo) 2) (sub_hi (Nat.le_of_not_lt fun hg => lin [lo, hi, (hi - lo), ((hi - lo) / 2)] [(1, (.v 0), (.v 1)), (1, (.a (.v 2) (.n 1)), (.a (.m 2 (.v 3)) (.n 2))), (1, (.v 1), (.a (.v 2) (.v 0))), (2, (.a (.a (.v 0) (.v 3)) (.n 1)), (.v 0))] rfl a1 (Mine.div_hi (hi - lo) 2 (by decide)) (sub_lo (hi) (lo)) hg)) hg (Nat.le_of_eq hs1))) (fun hs0 => lin [lo, (hi - lo), (lo + (hi - lo) / 2 - lo), (n - (x + 1)), ((hi - lo) / 2)] [(1, (.m 2 (.v 4)), (.v 1)), (2, (.a (.v 2) (.v 0)), (.a (.v 0) (.v 4))), (2, (.a (.v 3) (.n 1)), (.v 2)), (1, (.v 1), (.n 0))] rfl (Mine.div_lo (hi - lo) 2) (sub_hi (Nat.le_of_not_lt fun hg => lin [lo, hi, (hi - lo), ((hi - lo) / 2)] [(1, (.v 0), (.v 1)), (1, (.a (.v 2) (.n 1)), (.a (.m 2 (.v 3)) (.n 2))), (1, (.v 1), (.a (.v 2) (.v 0))), (2, (.a (.a (.v 0) (.v 3)) (.n 1)), (.v 0))] rfl a1 (Mine.div_hi (hi - lo) 2 (by decide)) (sub_lo (hi) (lo)) hg)) hg (Nat.le_of_eq hs0)), a4, fun i h6 h7 => hmf _ i h6 h7 hbo⟩
  case post =>
   rintro K hK c st'' ⟨rfl, lo, hi, rfl, a2, a4, a5⟩
   subst hK
   exact wpS_pure (h hi a2 a4 a5)
end walk
end Mine
end
noncomputable section
namespace Mine
open PySem PyProof.Rows
abbrev Srt {O : KeyOrd} (key : Keyed → O.α) (l : List Keyed) : Prop := l.Pairwise fun x y => O.kle (key x) (key y)
structure Same (st st' : SortSt) : Prop where
 arr : arrOf st' = arrOf st
 kind : kindOf st' = kindOf st
 failed : failedOf st' = failedOf st
 pend : pendingOf st' = pendingOf st
theorem Same.refl {st : SortSt} : Same st st := ⟨rfl, rfl, rfl, rfl⟩
theorem Same.trans {a b c : SortSt} (h : Same a b) (k : Same b c) : Same a c :=
 ⟨k.arr.trans h.arr, k.kind.trans h.kind, k.failed.trans h.failed, k.pend.trans h.pend⟩
section pure
variable {O : KeyOrd} {key : Keyed → O.α}
theorem tk_get {arr : Array Keyed} {i : Nat} (hi : i < arr.size) : tk key arr i = key arr[i] := by
 unfold tk; rw [getElem?_pos arr i hi]; rfl
theorem mem_idx {arr : Array Keyed} {x : Keyed} {d : Nat} (h : x ∈ arr.toList.drop d) : ∃ i, d ≤ i ∧ i < arr.size ∧ key x = tk key arr i := by
 obtain ⟨i, hi, e⟩ := List.getElem_of_mem h
 simp only [List.length_drop, Array.length_toList] at hi
 refine ⟨d + i, by exact Nat.le_add_right _ _, by exact Nat.lt_of_not_le fun hg => Or.elim (sub_or (arr.size) (d)) (fun hs0 => lin [i, (arr.size - d), d, (arr.size)] [(1, (.a (.v 0) (.n 1)), (.v 1)), (1, (.v 3), (.a (.v 2) (.v 0))), (1, (.a (.v 1) (.v 2)), (.v 3))] rfl hi hg (Nat.le_of_eq hs0)) (fun hs0 => lin [i, (arr.size - d)] [(1, (.a (.v 0) (.n 1)), (.v 1)), (1, (.v 1), (.n 0))] rfl hi (Nat.le_of_eq hs0)), ?_⟩
 rw [tk_get (by exact Nat.lt_of_not_le fun hg => Or.elim (sub_or (arr.size) (d)) (fun hs0 => lin [i, (arr.size - d), d, (arr.size)] [(1, (.a (.v 0) (.n 1)), (.v 1)), (1, (.v 3), (.a (.v 2) (.v 0))), (1, (.a (.v 1) (.v 2)), (.v 3))] rfl hi hg (Nat.le_of_eq hs0)) (fun hs0 => lin [i, (arr.size - d)] [(1, (.a (.v 0) (.n 1)), (.v 1)), (1, (.v 1), (.n 0))] rfl hi (Nat.le_of_eq hs0))), ← e]
 simp
theorem mem_idxT {arr : Array Keyed} {x : Keyed} {d : Nat} (h : x ∈ arr.toList.take d) : ∃ i, i < d ∧ i < arr.size ∧ key x = tk key arr i := by
 obtain ⟨i, hi, e⟩ := List.getElem_of_mem h
 simp only [List.length_take, Array.length_toList] at hi
 refine ⟨i, by exact Nat.lt_of_not_le fun hg => lin [i, (min d arr.size), d] [(1, (.a (.v 0) (.n 1)), (.v 1)), (1, (.v 1), (.v 2)), (1, (.v 2), (.v 0))] rfl hi (Nat.min_le_left (d) (arr.size)) hg, by exact Nat.lt_of_not_le fun hg => lin [i, (min d arr.size), (arr.size)] [(1, (.a (.v 0) (.n 1)), (.v 1)), (1, (.v 1), (.v 2)), (1, (.v 2), (.v 0))] rfl hi (Nat.min_le_right (d) (arr.size)) hg, ?_⟩
 rw [tk_get (by exact Nat.lt_of_not_le fun hg => lin [i, (min d arr.size), (arr.size)] [(1, (.a (.v 0) (.n 1)), (.v 1)), (1, (.v 1), (.v 2)), (1, (.v 2), (.v 0))] rfl hi (Nat.min_le_right (d) (arr.size)) hg), ← e]
 simp
theorem srt_idx {arr : Array Keyed} (h : Srt key arr.toList) : ∀ i j, i ≤ j → j < arr.size → O.kle (tk key arr i) (tk key arr j) := by
 intro i j hij hj
 by_cases e : i = j
 ·subst e; exact KeyOrd.kle_refl _
 ·rw [tk_get (by exact Nat.lt_of_le_of_lt hij hj), tk_get hj]
  have := List.pairwise_iff_getElem.mp h i j (by simpa using (by exact Nat.lt_of_le_of_lt hij hj : i < arr.size)) (by simpa using hj) (by exact Nat.lt_of_le_of_ne hij e)
  simpa using this
theorem srt_of_idx {arr : Array Keyed} {i j : Nat} (h : SIn key arr i j) (hj : j ≤ arr.size) : Srt key (arr.extract i j).toList := by
 refine List.pairwise_iff_getElem.mpr ?_
 intro p q hp hq hpq
 simp only [Array.toList_extract, List.extract_eq_take_drop, List.length_take, List.length_drop, Array.length_toList] at hp hq
 have := h (i + p) (i + q) (by exact Nat.le_add_right _ _) (by exact Nat.le_of_not_lt fun hg => lin [p, q, i] [(1, (.a (.v 0) (.n 1)), (.v 1)), (1, (.a (.a (.v 2) (.v 1)) (.n 1)), (.a (.v 2) (.v 0)))] rfl hpq hg) (by exact Nat.lt_of_not_le fun hg => Or.elim (min_or (j - i) (arr.size - i)) (fun hs0 => Or.elim (sub_or (j) (i)) (fun hs1 => lin [j, q, (min (j - i) (arr.size - i)), i, (j - i)] [(1, (.a (.v 1) (.n 1)), (.v 2)), (1, (.v 2), (.v 4)), (1, (.v 0), (.a (.v 3) (.v 1))), (1, (.a (.v 4) (.v 3)), (.v 0))] rfl hq (Nat.min_le_left (j - i) (arr.size - i)) hg (Nat.le_of_eq hs1)) (fun hs1 => lin [p, q, (min (j - i) (arr.size - i)), (j - i)] [(1, (.a (.v 0) (.n 1)), (.v 1)), (1, (.a (.v 1) (.n 1)), (.v 2)), (1, (.v 2), (.v 3)), (1, (.v 3), (.n 0))] rfl hpq hq (Nat.min_le_left (j - i) (arr.size - i)) (Nat.le_of_eq hs1))) (fun hs0 => Or.elim (sub_or (j) (i)) (fun hs1 => lin [j, q, (min (j - i) (arr.size - i)), i, (j - i)] [(1, (.a (.v 1) (.n 1)), (.v 2)), (1, (.v 2), (.v 4)), (1, (.v 0), (.a (.v 3) (.v 1))), (1, (.a (.v 4) (.v 3)), (.v 0))] rfl hq (Nat.min_le_left (j - i) (arr.size - i)) hg (Nat.le_of_eq hs1)) (fun hs1 => lin [p, q, (min (j - i) (arr.size - i)), (j - i)] [(1, (.a (.v 0) (.n 1)), (.v 1)), (1, (.a (.v 1) (.n 1)), (.v 2)), (1, (.v 2), (.v 3)), (1, (.v 3), (.n 0))] rfl hpq hq (Nat.min_le_left (j - i) (arr.size - i)) (Nat.le_of_eq hs1))))
 rw [tk_get (by exact Nat.lt_of_not_le fun hg => Or.elim (min_or (j - i) (arr.size - i)) (fun hs0 => Or.elim (sub_or (j) (i)) (fun hs1 => lin [j, (arr.size), p, (min (j - i) (arr.size - i)), i, (j - i)] [(1, (.v 0), (.v 1)), (1, (.a (.v 2) (.n 1)), (.v 3)), (1, (.v 3), (.v 5)), (1, (.v 1), (.a (.v 4) (.v 2))), (1, (.a (.v 5) (.v 4)), (.v 0))] rfl hj hp (Nat.min_le_left (j - i) (arr.size - i)) hg (Nat.le_of_eq hs1)) (fun hs1 => lin [p, q, (min (j - i) (arr.size - i)), (j - i)] [(1, (.a (.v 0) (.n 1)), (.v 1)), (1, (.a (.v 1) (.n 1)), (.v 2)), (1, (.v 2), (.v 3)), (1, (.v 3), (.n 0))] rfl hpq hq (Nat.min_le_left (j - i) (arr.size - i)) (Nat.le_of_eq hs1))) (fun hs0 => Or.elim (sub_or (j) (i)) (fun hs1 => lin [j, (arr.size), p, (min (j - i) (arr.size - i)), i, (j - i)] [(1, (.v 0), (.v 1)), (1, (.a (.v 2) (.n 1)), (.v 3)), (1, (.v 3), (.v 5)), (1, (.v 1), (.a (.v 4) (.v 2))), (1, (.a (.v 5) (.v 4)), (.v 0))] rfl hj hp (Nat.min_le_left (j - i) (arr.size - i)) hg (Nat.le_of_eq hs1)) (fun hs1 => lin [p, q, (min (j - i) (arr.size - i)), (j - i)] [(1, (.a (.v 0) (.n 1)), (.v 1)), (1, (.a (.v 1) (.n 1)), (.v 2)), (1, (.v 2), (.v 3)), (1, (.v 3), (.n 0))] rfl hpq hq (Nat.min_le_left (j - i) (arr.size - i)) (Nat.le_of_eq hs1)))), tk_get (by exact Nat.lt_of_not_le fun hg => Or.elim (min_or (j - i) (arr.size - i)) (fun hs0 => Or.elim (sub_or (j) (i)) (fun hs1 => lin [j, (arr.size), q, (min (j - i) (arr.size - i)), i, (j - i)] [(1, (.v 0), (.v 1)), (1, (.a (.v 2) (.n 1)), (.v 3)), (1, (.v 3), (.v 5)), (1, (.v 1), (.a (.v 4) (.v 2))), (1, (.a (.v 5) (.v 4)), (.v 0))] rfl hj hq (Nat.min_le_left (j - i) (arr.size - i)) hg (Nat.le_of_eq hs1)) (fun hs1 => lin [p, q, (min (j - i) (arr.size - i)), (j - i)] [(1, (.a (.v 0) (.n 1)), (.v 1)), (1, (.a (.v 1) (.n 1)), (.v 2)), (1, (.v 2), (.v 3)), (1, (.v 3), (.n 0))] rfl hpq hq (Nat.min_le_left (j - i) (arr.size - i)) (Nat.le_of_eq hs1))) (fun hs0 => Or.elim (sub_or (j) (i)) (fun hs1 => lin [j, (arr.size), q, (min (j - i) (arr.size - i)), i, (j - i)] [(1, (.v 0), (.v 1)), (1, (.a (.v 2) (.n 1)), (.v 3)), (1, (.v 3), (.v 5)), (1, (.v 1), (.a (.v 4) (.v 2))), (1, (.a (.v 5) (.v 4)), (.v 0))] rfl hj hq (Nat.min_le_left (j - i) (arr.size - i)) hg (Nat.le_of_eq hs1)) (fun hs1 => lin [p, q, (min (j - i) (arr.size - i)), (j - i)] [(1, (.a (.v 0) (.n 1)), (.v 1)), (1, (.a (.v 1) (.n 1)), (.v 2)), (1, (.v 2), (.v 3)), (1, (.v 3), (.n 0))] rfl hpq hq (Nat.min_le_left (j - i) (arr.size - i)) (Nat.le_of_eq hs1))))] at this
 simpa [Array.toList_extract, List.extract_eq_take_drop] using this
theorem srt_app {l r : List Keyed} (hl : Srt key l) (hr : Srt key r) (h : ∀ x ∈ l, ∀ y ∈ r, O.kle (key x) (key y)) : Srt key (l ++ r) :=
 List.pairwise_append.mpr ⟨hl, hr, h⟩
theorem bey_mono {left : Bool} {k : Keyed} {arr : Array Keyed} {base n : Nat} (hs : SIn key arr base (base + n)) :
  ∀ i j, i ≤ j → j < n → bey key left k arr (base + j) = true → bey key left k arr (base + i) = true := by
 intro i j hij hj h
 have hle := hs (base + i) (base + j) (by exact Nat.le_add_right _ _) (by exact Nat.add_le_add_left hij _) (by exact Nat.add_le_add_left hj _)
 cases left with
 | true => exact KeyOrd.klt_of_kle_of_klt hle h
 | false =>
  have h' : O.kle (tk key arr (base + j)) (key k) := by unfold KeyOrd.kle; simpa [bey] using h
  have : O.kle (tk key arr (base + i)) (key k) := KeyOrd.kle_trans hle h'
  have : O.blt (key k) (tk key arr (base + i)) = false := this
  simp [bey, this]
theorem bey_right {k : Keyed} {arr : Array Keyed} {i : Nat} : (bey key false k arr i = true → O.kle (tk key arr i) (key k)) ∧ (bey key false k arr i = false → O.klt (key k) (tk key arr i)) := by
 refine ⟨fun h => ?_, fun h => ?_⟩
 ·unfold KeyOrd.kle; simpa [bey] using h
 ·unfold KeyOrd.klt; simpa [bey] using h
theorem bey_left {k : Keyed} {arr : Array Keyed} {i : Nat} : (bey key true k arr i = true → O.klt (tk key arr i) (key k)) ∧ (bey key true k arr i = false → O.kle (key k) (tk key arr i)) :=
 ⟨fun h => h, fun h => h⟩
structure Good (key : Keyed → O.α) (a b m : Array Keyed) : Prop where
 perm : m.toList.Perm (a.toList ++ b.toList)
 srt : Srt key m.toList
structure Mid (key : Keyed → O.α) (a b out : Array Keyed) (ia ib : Nat) : Prop where
 perm : (out.toList ++ (a.toList.drop ia ++ b.toList.drop ib)).Perm (a.toList ++ b.toList)
 srt : Srt key out.toList
 low : ∀ x ∈ out.toList, (∀ i, ia ≤ i → i < a.size → O.kle (key x) (tk key a i)) ∧ (∀ j, ib ≤ j → j < b.size → O.kle (key x) (tk key b j))
variable {a b out : Array Keyed} {ia ib : Nat}
theorem drop_get {arr : Array Keyed} {i : Nat} (hi : i < arr.size) : arr.toList.drop i = arr[i] :: arr.toList.drop (i + 1) := by
 rw [List.drop_eq_getElem_cons (by simpa using hi)]
 simp
theorem drop_ext {arr : Array Keyed} {i k : Nat} : arr.toList.drop i = (arr.extract i (i + k)).toList ++ arr.toList.drop (i + k) := by
 rw [Array.toList_extract, List.extract_eq_take_drop, show i + k - i = k by exact Nat.le_antisymm (Nat.le_of_not_lt fun hg => lin [(i + k - i), k, i] [(1, (.a (.v 0) (.v 2)), (.a (.v 2) (.v 1))), (1, (.a (.v 1) (.n 1)), (.v 0))] rfl (sub_hi (Nat.le_of_not_lt fun hg => lin [k, i] [(1, (.a (.a (.v 1) (.v 0)) (.n 1)), (.v 1))] rfl hg)) hg) (Nat.le_of_not_lt fun hg => lin [(i + k - i), k, i] [(1, (.a (.v 2) (.v 1)), (.a (.v 0) (.v 2))), (1, (.a (.v 0) (.n 1)), (.v 1))] rfl (sub_lo (i + k) (i)) hg), ← List.drop_drop, List.take_append_drop]
theorem Mid.pushB (h : Mid key a b out ia ib) (sb : Srt key b.toList) (hi : ib < b.size) (hle : ∀ i, ia ≤ i → i < a.size → O.kle (tk key b ib) (tk key a i)) :
  Mid key a b (out.push b[ib]) ia (ib + 1) := by
 refine ⟨?_, ?_, fun x hx => ?_⟩
 ·refine List.Perm.trans ?_ h.perm
  rw [Array.toList_push, drop_get hi, List.append_assoc]
  refine List.Perm.append_left _ ?_
  rw [List.singleton_append]
  exact List.perm_middle.symm
 ·rw [Array.toList_push]
  refine srt_app h.srt (List.pairwise_singleton ..) fun x hx y hy => ?_
  rw [List.mem_singleton.mp hy, ← tk_get (key := key) hi]
  exact (h.low x hx).2 ib (Nat.le_refl _) hi
 ·rw [Array.toList_push] at hx
  rcases List.mem_append.mp hx with hx | hx
  ·exact ⟨(h.low x hx).1, fun j h1 h2 => (h.low x hx).2 j (by exact Nat.le_of_lt h1) h2⟩
  ·rw [List.mem_singleton.mp hx, ← tk_get (key := key) hi]
   exact ⟨hle, fun j h1 h2 => srt_idx sb _ _ (by exact Nat.le_of_lt h1) h2⟩
theorem Mid.pushA (h : Mid key a b out ia ib) (sa : Srt key a.toList) (hi : ia < a.size) (hle : ∀ j, ib ≤ j → j < b.size → O.kle (tk key a ia) (tk key b j)) :
  Mid key a b (out.push a[ia]) (ia + 1) ib := by
 refine ⟨?_, ?_, fun x hx => ?_⟩
 ·refine List.Perm.trans ?_ h.perm
  rw [Array.toList_push, drop_get hi, List.append_assoc]
  exact List.Perm.append_left _ (List.Perm.refl _)
 ·rw [Array.toList_push]
  refine srt_app h.srt (List.pairwise_singleton ..) fun x hx y hy => ?_
  rw [List.mem_singleton.mp hy, ← tk_get (key := key) hi]
  exact (h.low x hx).1 ia (Nat.le_refl _) hi
 ·rw [Array.toList_push] at hx
  rcases List.mem_append.mp hx with hx | hx
  ·exact ⟨fun i h1 h2 => (h.low x hx).1 i (by exact Nat.le_of_lt h1) h2, (h.low x hx).2⟩
  ·rw [List.mem_singleton.mp hx, ← tk_get (key := key) hi]
   exact ⟨fun j h1 h2 => srt_idx sa _ _ (by exact Nat.le_of_lt h1) h2, hle⟩
theorem mem_ext {arr : Array Keyed} {x : Keyed} {i j : Nat} (h : x ∈ (arr.extract i j).toList) : ∃ p, i ≤ p ∧ p < j ∧ p < arr.size ∧ key x = tk key arr p := by
 obtain ⟨p, hp, e⟩ := List.getElem_of_mem h
 simp only [Array.toList_extract, List.extract_eq_take_drop, List.length_take, List.length_drop, Array.length_toList] at hp
 refine ⟨i + p, by exact Nat.le_add_right _ _, by exact Nat.lt_of_not_le fun hg => Or.elim (min_or (j - i) (arr.size - i)) (fun hs0 => Or.elim (sub_or (j) (i)) (fun hs1 => lin [p, (min (j - i) (arr.size - i)), i, j, (j - i)] [(1, (.a (.v 0) (.n 1)), (.v 1)), (1, (.v 1), (.v 4)), (1, (.v 3), (.a (.v 2) (.v 0))), (1, (.a (.v 4) (.v 2)), (.v 3))] rfl hp (Nat.min_le_left (j - i) (arr.size - i)) hg (Nat.le_of_eq hs1)) (fun hs1 => lin [p, (min (j - i) (arr.size - i)), (j - i)] [(1, (.a (.v 0) (.n 1)), (.v 1)), (1, (.v 1), (.v 2)), (1, (.v 2), (.n 0))] rfl hp (Nat.min_le_left (j - i) (arr.size - i)) (Nat.le_of_eq hs1))) (fun hs0 => Or.elim (sub_or (j) (i)) (fun hs1 => lin [p, (min (j - i) (arr.size - i)), i, j, (j - i)] [(1, (.a (.v 0) (.n 1)), (.v 1)), (1, (.v 1), (.v 4)), (1, (.v 3), (.a (.v 2) (.v 0))), (1, (.a (.v 4) (.v 2)), (.v 3))] rfl hp (Nat.min_le_left (j - i) (arr.size - i)) hg (Nat.le_of_eq hs1)) (fun hs1 => lin [p, (min (j - i) (arr.size - i)), (j - i)] [(1, (.a (.v 0) (.n 1)), (.v 1)), (1, (.v 1), (.v 2)), (1, (.v 2), (.n 0))] rfl hp (Nat.min_le_left (j - i) (arr.size - i)) (Nat.le_of_eq hs1))), by exact Nat.lt_of_not_le fun hg => Or.elim (min_or (j - i) (arr.size - i)) (fun hs0 => Or.elim (sub_or (arr.size) (i)) (fun hs1 => lin [p, (min (j - i) (arr.size - i)), i, (arr.size), (arr.size - i)] [(1, (.a (.v 0) (.n 1)), (.v 1)), (1, (.v 1), (.v 4)), (1, (.v 3), (.a (.v 2) (.v 0))), (1, (.a (.v 4) (.v 2)), (.v 3))] rfl hp (Nat.min_le_right (j - i) (arr.size - i)) hg (Nat.le_of_eq hs1)) (fun hs1 => lin [p, (min (j - i) (arr.size - i)), (arr.size - i)] [(1, (.a (.v 0) (.n 1)), (.v 1)), (1, (.v 1), (.v 2)), (1, (.v 2), (.n 0))] rfl hp (Nat.min_le_right (j - i) (arr.size - i)) (Nat.le_of_eq hs1))) (fun hs0 => Or.elim (sub_or (arr.size) (i)) (fun hs1 => lin [p, (min (j - i) (arr.size - i)), i, (arr.size), (arr.size - i)] [(1, (.a (.v 0) (.n 1)), (.v 1)), (1, (.v 1), (.v 4)), (1, (.v 3), (.a (.v 2) (.v 0))), (1, (.a (.v 4) (.v 2)), (.v 3))] rfl hp (Nat.min_le_right (j - i) (arr.size - i)) hg (Nat.le_of_eq hs1)) (fun hs1 => lin [p, (min (j - i) (arr.size - i)), (arr.size - i)] [(1, (.a (.v 0) (.n 1)), (.v 1)), (1, (.v 1), (.v 2)), (1, (.v 2), (.n 0))] rfl hp (Nat.min_le_right (j - i) (arr.size - i)) (Nat.le_of_eq hs1))), ?_⟩
 rw [tk_get (by exact Nat.lt_of_not_le fun hg => Or.elim (min_or (j - i) (arr.size - i)) (fun hs0 => Or.elim (sub_or (arr.size) (i)) (fun hs1 => lin [p, (min (j - i) (arr.size - i)), i, (arr.size), (arr.size - i)] [(1, (.a (.v 0) (.n 1)), (.v 1)), (1, (.v 1), (.v 4)), (1, (.v 3), (.a (.v 2) (.v 0))), (1, (.a (.v 4) (.v 2)), (.v 3))] rfl hp (Nat.min_le_right (j - i) (arr.size - i)) hg (Nat.le_of_eq hs1)) (fun hs1 => lin [p, (min (j - i) (arr.size - i)), (arr.size - i)] [(1, (.a (.v 0) (.n 1)), (.v 1)), (1, (.v 1), (.v 2)), (1, (.v 2), (.n 0))] rfl hp (Nat.min_le_right (j - i) (arr.size - i)) (Nat.le_of_eq hs1))) (fun hs0 => Or.elim (sub_or (arr.size) (i)) (fun hs1 => lin [p, (min (j - i) (arr.size - i)), i, (arr.size), (arr.size - i)] [(1, (.a (.v 0) (.n 1)), (.v 1)), (1, (.v 1), (.v 4)), (1, (.v 3), (.a (.v 2) (.v 0))), (1, (.a (.v 4) (.v 2)), (.v 3))] rfl hp (Nat.min_le_right (j - i) (arr.size - i)) hg (Nat.le_of_eq hs1)) (fun hs1 => lin [p, (min (j - i) (arr.size - i)), (arr.size - i)] [(1, (.a (.v 0) (.n 1)), (.v 1)), (1, (.v 1), (.v 2)), (1, (.v 2), (.n 0))] rfl hp (Nat.min_le_right (j - i) (arr.size - i)) (Nat.le_of_eq hs1)))), ← e]
 simp [Array.toList_extract]
theorem Mid.appA (h : Mid key a b out ia ib) (sa : Srt key a.toList) {k : Nat} (hi : ia + k ≤ a.size) (hle : ∀ i, i < k → ∀ j, ib ≤ j → j < b.size → O.kle (tk key a (ia + i)) (tk key b j)) :
  Mid key a b (out ++ a.extract ia (ia + k)) (ia + k) ib := by
 refine ⟨?_, ?_, fun x hx => ?_⟩
 ·refine List.Perm.trans ?_ h.perm
  rw [Array.toList_append, drop_ext (arr := a) (i := ia) (k := k), List.append_assoc, List.append_assoc]
 ·rw [Array.toList_append]
  refine srt_app h.srt (srt_of_idx (fun p q _ h2 h3 => srt_idx sa p q h2 (by exact Nat.le_trans h3 hi)) hi) fun x hx y hy => ?_
  obtain ⟨p, h1, h2, h3, e⟩ := mem_ext (key := key) hy
  rw [e]
  exact (h.low x hx).1 p h1 h3
 ·rw [Array.toList_append] at hx
  rcases List.mem_append.mp hx with hx | hx
  ·exact ⟨fun i h1 h2 => (h.low x hx).1 i (by exact Nat.le_trans (Nat.le_add_right _ _) h1) h2, (h.low x hx).2⟩
  ·obtain ⟨p, h1, h2, h3, e⟩ := mem_ext (key := key) hx
   rw [e]
   refine ⟨fun j h4 h5 => srt_idx sa _ _ (by exact Nat.le_of_lt (Nat.lt_of_lt_of_le h2 h4)) h5, fun j h4 h5 => ?_⟩
   have := hle (p - ia) (by exact Nat.lt_of_not_le fun hg => lin [ia, k, p, (p - ia)] [(1, (.a (.v 2) (.n 1)), (.a (.v 0) (.v 1))), (1, (.a (.v 3) (.v 0)), (.v 2)), (1, (.v 1), (.v 3))] rfl h2 (sub_hi (Nat.le_of_not_lt fun hg => lin [ia, p] [(1, (.v 0), (.v 1)), (1, (.a (.v 1) (.n 1)), (.v 0))] rfl h1 hg)) hg) j h4 h5
   rwa [show ia + (p - ia) = p by exact Nat.add_sub_cancel' h1] at this
theorem Mid.appB (h : Mid key a b out ia ib) (sb : Srt key b.toList) {k : Nat} (hi : ib + k ≤ b.size) (hle : ∀ i, i < k → ∀ j, ia ≤ j → j < a.size → O.kle (tk key b (ib + i)) (tk key a j)) :
  Mid key a b (out ++ b.extract ib (ib + k)) ia (ib + k) := by
 refine ⟨?_, ?_, fun x hx => ?_⟩
 ·refine List.Perm.trans ?_ h.perm
  rw [Array.toList_append, drop_ext (arr := b) (i := ib) (k := k), List.append_assoc]
  refine List.Perm.append_left _ ?_
  rw [← List.append_assoc, ← List.append_assoc]
  exact List.Perm.append_right _ List.perm_append_comm
 ·rw [Array.toList_append]
  refine srt_app h.srt (srt_of_idx (fun p q _ h2 h3 => srt_idx sb p q h2 (by exact Nat.le_trans h3 hi)) hi) fun x hx y hy => ?_
  obtain ⟨p, h1, h2, h3, e⟩ := mem_ext (key := key) hy
  rw [e]
  exact (h.low x hx).2 p h1 h3
 ·rw [Array.toList_append] at hx
  rcases List.mem_append.mp hx with hx | hx
  ·exact ⟨(h.low x hx).1, fun i h1 h2 => (h.low x hx).2 i (by exact Nat.le_trans (Nat.le_add_right _ _) h1) h2⟩
  ·obtain ⟨p, h1, h2, h3, e⟩ := mem_ext (key := key) hx
   rw [e]
   refine ⟨fun j h4 h5 => ?_, fun j h4 h5 => srt_idx sb _ _ (by exact Nat.le_of_lt (Nat.lt_of_lt_of_le h2 h4)) h5⟩
   have := hle (p - ib) (by exact Nat.lt_of_not_le fun hg => lin [ib, k, p, (p - ib)] [(1, (.a (.v 2) (.n 1)), (.a (.v 0) (.v 1))), (1, (.a (.v 3) (.v 0)), (.v 2)), (1, (.v 1), (.v 3))] rfl h2 (sub_hi (Nat.le_of_not_lt fun hg => lin [ib, p] [(1, (.v 0), (.v 1)), (1, (.a (.v 1) (.n 1)), (.v 0))] rfl h1 hg)) hg) j h4 h5
   rwa [show ib + (p - ib) = p by exact Nat.add_sub_cancel' h1] at this
theorem ext_drop {arr : Array Keyed} {i : Nat} : (arr.extract i arr.size).toList = arr.toList.drop i := by
 rw [Array.toList_extract, List.extract_eq_take_drop]
 exact List.take_of_length_le (by simp)
theorem Mid.done (h : Mid key a b out ia ib) (sa : Srt key a.toList) (sb : Srt key b.toList) (he : ib = b.size ∨ ia = a.size) :
  Good key a b (out ++ a.extract ia a.size ++ b.extract ib b.size) := by
 have p : (out.toList ++ a.toList.drop ia ++ b.toList.drop ib).Perm (a.toList ++ b.toList) := by rw [List.append_assoc]; exact h.perm
 refine ⟨by rw [Array.toList_append, Array.toList_append, ext_drop, ext_drop]; exact p, ?_⟩
 rw [Array.toList_append, Array.toList_append, ext_drop, ext_drop]
 refine srt_app (srt_app h.srt (sa.sublist (List.drop_sublist _ _)) fun x hx y hy => ?_) (sb.sublist (List.drop_sublist _ _)) fun x hx y hy => ?_
 ·obtain ⟨i, h1, h2, e⟩ := mem_idx (key := key) hy
  rw [e]
  exact (h.low x hx).1 i h1 h2
 ·obtain ⟨i, h1, h2, e⟩ := mem_idx (key := key) hy
  rw [e]
  rcases List.mem_append.mp hx with hx | hx
  ·exact (h.low x hx).2 i h1 h2
  ·obtain ⟨j, h3, h4, e2⟩ := mem_idx (key := key) hx
   exact False.elim (Or.elim he (fun hs0 => lin [ib, (b.size), i] [(1, (.v 0), (.v 2)), (1, (.a (.v 2) (.n 1)), (.v 1)), (1, (.v 1), (.v 0))] rfl h1 h2 (Nat.le_of_eq (Eq.symm hs0))) (fun hs0 => lin [ia, (a.size), j] [(1, (.v 0), (.v 2)), (1, (.a (.v 2) (.n 1)), (.v 1)), (1, (.v 1), (.v 0))] rfl h3 h4 (Nat.le_of_eq (Eq.symm hs0))))
theorem Mid.last (h : Mid key a b out ia ib) (sa : Srt key a.toList) (sb : Srt key b.toList) (he : ia + 1 = a.size) (hl : ∀ j, j < b.size → O.kle (tk key b j) (tk key a (a.size - 1))) :
  Good key a b (out ++ b.extract ib b.size ++ a.extract ia a.size) := by
 have p : (out.toList ++ b.toList.drop ib ++ a.toList.drop ia).Perm (a.toList ++ b.toList) := by
  rw [List.append_assoc]
  exact (List.Perm.append_left _ List.perm_append_comm).trans h.perm
 refine ⟨by rw [Array.toList_append, Array.toList_append, ext_drop, ext_drop]; exact p, ?_⟩
 rw [Array.toList_append, Array.toList_append, ext_drop, ext_drop]
 refine srt_app (srt_app h.srt (sb.sublist (List.drop_sublist _ _)) fun x hx y hy => ?_) (sa.sublist (List.drop_sublist _ _)) fun x hx y hy => ?_
 ·obtain ⟨i, h1, h2, e⟩ := mem_idx (key := key) hy
  rw [e]
  exact (h.low x hx).2 i h1 h2
 ·obtain ⟨i, h1, h2, e⟩ := mem_idx (key := key) hy
  rw [e]
  rcases List.mem_append.mp hx with hx | hx
  ·exact (h.low x hx).1 i h1 h2
  ·obtain ⟨j, h3, h4, e2⟩ := mem_idx (key := key) hx
   rw [e2, show i = a.size - 1 by exact Nat.le_antisymm (Nat.le_of_not_lt fun hg => lin [(a.size), i, (a.size - 1)] [(1, (.a (.v 1) (.n 1)), (.v 0)), (1, (.v 0), (.a (.v 2) (.n 1))), (1, (.a (.v 2) (.n 1)), (.v 1))] rfl h2 (sub_lo (a.size) (1)) hg) (Nat.le_of_not_lt fun hg => lin [ia, (a.size), i, (a.size - 1)] [(1, (.v 1), (.a (.v 0) (.n 1))), (1, (.v 0), (.v 2)), (1, (.a (.v 3) (.n 1)), (.v 1)), (1, (.a (.v 2) (.n 1)), (.v 3))] rfl (Nat.le_of_eq (Eq.symm he)) h1 (sub_hi (Nat.le_of_not_lt fun hg => lin [ia, (a.size)] [(1, (.a (.v 0) (.n 1)), (.v 1)), (1, (.a (.v 1) (.n 1)), (.n 1))] rfl (Nat.le_of_eq he) hg)) hg)]
   exact hl j h4
end pure
end Mine
end
noncomputable section
namespace Mine
open PySem PyProof.Rows
section walk
variable {prog : Program} {w : World} {A : Around} {E : Value → Shared → Prop} {s : Shared} {kd : SortKind} {O : KeyOrd} {key : Keyed → O.α} {a₀ : Array Keyed}
inductive LoD (key : Keyed → O.α) (a b : Array Keyed) {γ : Type} : Option (Array Keyed) × γ → Prop
 | mk (m : Array Keyed) (r : γ) (h : Good key a b m) : LoD key a b (some m, r)
inductive LoI (key : Keyed → O.α) (a b : Array Keyed) (x n : Nat) {γ : Type} : Option (Array Keyed) × Array Keyed × Nat × Nat × γ → Prop
 | mk (out : Array Keyed) (i j : Nat) (r : γ) (hM : Mid key a b out i j) (hi : i + 1 < a.size) (hj : j < b.size) (hr : (a.size - i) + (b.size - j) + x ≤ n) : LoI key a b x n (none, out, i, j, r)
theorem ts_elem {st : SortSt} {arr : Array Keyed} {i : Nat} {Q : Keyed → SortSt → Prop} (hi : i < arr.size) (h : Q arr[i] st) : wpS (model prog w) A E s (elem' arr i) Q st := by
 rw [elem'_eq, getElem?_pos arr i hi]
 exact wpS_pure h
theorem ts_if {α : Type} {st : SortSt} {c : Prop} [Decidable c] {t e : StateT SortSt Sem α} {Q : α → SortSt → Prop} (h1 : c → wpS (model prog w) A E s t Q st) (h2 : ¬c → wpS (model prog w) A E s e Q st) :
  wpS (model prog w) A E s (if c then t else e) Q st := by
 by_cases h : c
 ·rw [if_pos h]; exact h1 h
 ·rw [if_neg h]; exact h2 h
theorem ts_ifG {α β : Type} {st : SortSt} {c : Prop} [Decidable c] {t e : StateT SortSt Sem α} {Q : α → SortSt → Prop} {F : β → StateT SortSt Sem α} (x y : β) (he : e = F x) (ht : t = F y) (key : ∀ z, wpS (model prog w) A E s (F z) Q st) :
  wpS (model prog w) A E s (if c then t else e) Q st := ts_if (fun _ => ht ▸ key y) (fun _ => he ▸ key x)
theorem ts_ifF {α β γ : Type} {st : SortSt} {c : Prop} [Decidable c] {t e : StateT SortSt Sem α} {Q : α → SortSt → Prop} {F : β → γ → StateT SortSt Sem α} (H : β → γ → Prop) (x : β) (y : γ) (he : e = F x y)
  (key : ∀ x' y', H x' y' → wpS (model prog w) A E s (F x' y') Q st) (h1 : c → (∀ x' y', H x' y' → wpS (model prog w) A E s (F x' y') Q st) → wpS (model prog w) A E s t Q st) (h2 : ¬c → H x y) :
  wpS (model prog w) A E s (if c then t else e) Q st := ts_if (fun h => h1 h key) (fun h => he ▸ key x y (h2 h))
theorem ts_lt {st : SortSt} {a b : Array Keyed} {i j : Nat} {Q : Option Bool → SortSt → Prop} (hL : LtOk prog w A E s kd O key a₀) (ha : ∀ x ∈ a.toList, x ∈ a₀.toList) (hb : ∀ x ∈ b.toList, x ∈ a₀.toList)
  (hi : i < a.size) (hj : j < b.size) (hkd : kindOf st = kd) (h : Q (some (O.blt (tk key a i) (tk key b j))) st) : wpS (model prog w) A E s (lt' a[i] b[j]) Q st := by
 rw [tk_get hi, tk_get hj] at h
 exact hL _ _ (ha _ (by simp)) (hb _ (by simp)) _ _ hkd h
theorem ts_elemB {β : Type} {st : SortSt} {arr : Array Keyed} {i : Nat} {f : Keyed → StateT SortSt Sem β} {Q : β → SortSt → Prop} (hi : i < arr.size) (h : wpS (model prog w) A E s (f arr[i]) Q st) : wpS (model prog w) A E s (elem' arr i >>= f) Q st := wpS_bind (ts_elem hi h)
theorem ts_cmpB {β : Type} {st : SortSt} {a b : Array Keyed} {i j : Nat} {r : Bool} {f : Option Bool → StateT SortSt Sem β} {Q : β → SortSt → Prop} (hL : LtOk prog w A E s kd O key a₀) (ha : ∀ x ∈ a.toList, x ∈ a₀.toList) (hb : ∀ x ∈ b.toList, x ∈ a₀.toList)
  (hi : i < a.size) (hj : j < b.size) (hkd : kindOf st = kd) (hr : O.blt (tk key a i) (tk key b j) = r) (h : wpS (model prog w) A E s (f (some r)) Q st) : wpS (model prog w) A E s (elem' a i >>= fun x => elem' b j >>= fun y => lt' x y >>= f) Q st :=
 ts_elemB hi (ts_elemB hj (wpS_bind (ts_lt hL ha hb hi hj hkd (hr ▸ h))))
theorem ts_lo {st : SortSt} {a b : Array Keyed} {Q : Array Keyed → SortSt → Prop} (hL : LtOk prog w A E s kd O key a₀) (ha : ∀ x ∈ a.toList, x ∈ a₀.toList) (hb : ∀ x ∈ b.toList, x ∈ a₀.toList)
  (sa : Srt key a.toList) (sb : Srt key b.toList) (na : 0 < a.size) (nb : 0 < b.size) (h1 : ∀ i, i < a.size → O.kle (tk key b 0) (tk key a i))
  (h2 : ∀ j, j < b.size → O.kle (tk key b j) (tk key a (a.size - 1))) (hkd : kindOf st = kd)
  (h : ∀ m st', Good key a b m → Same st st' → Q m st') : wpS (model prog w) A E s (mergeLoM a b) Q st := by
 have ia : ∀ i j, i ≤ j → j < a.size → O.kle (tk key a i) (tk key a j) := srt_idx sa
 have ib : ∀ i j, i ≤ j → j < b.size → O.kle (tk key b i) (tk key b j) := srt_idx sb
 have m0 : Mid key a b #[b[0]] 0 1 := by
  have : Mid key a b #[] 0 0 := ⟨by simp, by simp, by simp⟩
  exact this.pushB sb nb fun i _ => h1 i
 have hSin : ∀ d n, d + n ≤ a.size → SIn key a d (d + n) := fun d n hd p q _ h4 h5 => ia _ _ h4 (by exact Nat.le_trans h5 hd)
 have hSib : ∀ d n, d + n ≤ b.size → SIn key b d (d + n) := fun d n hd p q _ h4 h5 => ib _ _ h4 (by exact Nat.le_trans h5 hd)
 unfold mergeLoM
 refine ts_ruleB ?_
 refine ts_elemB nb ?_
 refine ts_if (fun e1 => ?_) (fun e1 => ?_)
 ·simp only [beq_iff_eq] at e1
  exact wpS_pure (h _ _ (m0.done sa sb (.inl e1)) Same.refl)
 refine ts_if (fun e2 => ?_) (fun e2 => ?_)
 ·simp only [beq_iff_eq] at e2
  exact wpS_pure (h _ _ (m0.last sa sb e2 h2) Same.refl)
 refine ts_getB ?_
 refine ts_for (fun x c st' => Same st st' ∧ LoI key a b x (a.size + b.size) c) (fun c st' => Same st st' ∧ LoD key a b c) ?step ?fin ?init ?post
 case init =>
  simp only [beq_iff_eq] at e1 e2
  exact ⟨Same.refl, _, 0, 1, _, m0, by exact Nat.lt_of_not_le fun hg => Or.elim (Nat.lt_or_gt_of_ne e1) (fun hs0 => Or.elim (Nat.lt_or_gt_of_ne e2) (fun hs1 => lin [(a.size)] [(1, (.v 0), (.a (.n 0) (.n 1))), (1, (.a (.a (.n 0) (.n 1)) (.n 1)), (.v 0))] rfl hg hs1) (fun hs1 => lin [(a.size)] [(1, (.a (.n 0) (.n 1)), (.v 0)), (1, (.a (.v 0) (.n 1)), (.a (.n 0) (.n 1)))] rfl na hs1)) (fun hs0 => lin [(b.size)] [(1, (.a (.n 0) (.n 1)), (.v 0)), (1, (.a (.v 0) (.n 1)), (.n 1))] rfl nb hs0), by exact Nat.lt_of_not_le fun hg => Or.elim (Nat.lt_or_gt_of_ne e1) (fun hs0 => lin [(b.size)] [(1, (.v 0), (.n 1)), (1, (.a (.n 1) (.n 1)), (.v 0))] rfl hg hs0) (fun hs0 => lin [(b.size)] [(1, (.a (.n 0) (.n 1)), (.v 0)), (1, (.a (.v 0) (.n 1)), (.n 1))] rfl nb hs0), by exact Nat.le_of_not_lt fun hg => lin [(a.size), (b.size), (b.size - 1)] [(1, (.a (.v 2) (.n 1)), (.v 1)), (1, (.a (.a (.v 0) (.v 1)) (.n 1)), (.a (.a (.v 0) (.v 2)) (.n 0)))] rfl (sub_hi (Nat.le_of_not_lt fun hg => lin [(b.size)] [(1, (.a (.n 0) (.n 1)), (.v 0)), (1, (.a (.v 0) (.n 1)), (.n 1))] rfl nb hg)) hg⟩
 case fin =>
  rintro c st' ⟨hS, out, i, j, mg, hM, hi, hj, hx⟩
  exact And.intro (False.elim (lin [(a.size), (b.size), i, j, (a.size - i), (b.size - j), (max 0 (a.size + b.size))] [(1, (.a (.a (.v 2) (.n 1)) (.n 1)), (.v 0)), (1, (.a (.v 3) (.n 1)), (.v 1)), (1, (.a (.a (.v 4) (.v 5)) (.v 6)), (.a (.v 0) (.v 1))), (1, (.a (.v 0) (.v 1)), (.v 6)), (1, (.v 0), (.a (.v 4) (.v 2))), (1, (.v 1), (.a (.v 5) (.v 3)))] rfl hi hj hx (Nat.le_max_right (0) (a.size + b.size)) (sub_lo (a.size) (i)) (sub_lo (b.size) (j)))) (False.elim (lin [(a.size), (b.size), i, j, (a.size - i), (b.size - j), (max 0 (a.size + b.size))] [(1, (.a (.a (.v 2) (.n 1)) (.n 1)), (.v 0)), (1, (.a (.v 3) (.n 1)), (.v 1)), (1, (.a (.a (.v 4) (.v 5)) (.v 6)), (.a (.v 0) (.v 1))), (1, (.a (.v 0) (.v 1)), (.v 6)), (1, (.v 0), (.a (.v 4) (.v 2))), (1, (.v 1), (.a (.v 5) (.v 3)))] rfl hi hj hx (Nat.le_max_right (0) (a.size + b.size)) (sub_lo (a.size) (i)) (sub_lo (b.size) (j))))
 case post =>
  rintro K hK c st' ⟨hS, m, r, hG⟩
  subst hK
  exact wpS_pure (h m st' hG hS)
 case step =>
  rintro F hF x c st' ⟨hS, out, i, j, mg, hM, hi, hj, hr⟩
  clear e1 e2 m0
  subst hF
  dsimp only
  refine ts_for (fun y c st'' => st'' = st' ∧ LoI key a b y ((a.size - i) + (b.size - j)) c) (fun c st'' => st'' = st' ∧ (LoD key a b c ∨ LoI key a b 1 ((a.size - i) + (b.size - j)) c)) ?astep ?afin ⟨rfl, _, i, j, _, hM, hi, hj, by exact Nat.le_refl _⟩ ?apost
  case afin =>
   rintro c st'' ⟨rfl, out', i', j', ⟨p, q⟩, hM', hi', hj', hr'⟩
   exact ⟨rfl, .inr ⟨out', i', j', _, hM', hi', hj', by exact Nat.le_of_not_lt fun hg => lin [(a.size), (b.size), (a.size - i), (b.size - j), (a.size - i'), (b.size - j'), (max 0 (a.size + b.size))] [(1, (.a (.n 0) (.n 1)), (.v 0)), (1, (.a (.n 0) (.n 1)), (.v 1)), (1, (.a (.a (.v 4) (.v 5)) (.v 6)), (.a (.v 2) (.v 3))), (1, (.a (.v 0) (.v 1)), (.v 6)), (1, (.a (.a (.v 2) (.v 3)) (.n 1)), (.a (.a (.v 4) (.v 5)) (.n 1)))] rfl na nb hr' (Nat.le_max_right (0) (a.size + b.size)) hg⟩⟩
  case astep =>
   rintro F hF y c st'' ⟨rfl, out', i', j', ⟨p, q⟩, hM', hi', hj', hr'⟩
   have hi1 : i' < a.size := by exact Nat.le_of_lt hi'
   cases hlt : O.blt (tk key b j') (tk key a i') with
   | true =>
    have hM2 := hM'.pushB sb hj' fun k h3 h4 => KeyOrd.kle_of_klt (KeyOrd.klt_of_klt_of_kle hlt (ia _ _ h3 h4))
    subst hF
    refine ts_cmpB hL hb ha hj' hi1 (hS.kind.trans hkd) hlt ?_
    refine ts_elemB hj' ?_
    refine ts_if (fun e3 => ?_) (fun e3 => ?_)
    ·simp only [beq_iff_eq] at e3
     exact wpS_pure ⟨rfl, .inl ⟨_, _, hM2.done sa sb (.inl e3)⟩⟩
    simp only [beq_iff_eq] at e3
    have hj2 : j' + 1 < b.size := by exact Nat.lt_of_not_le fun hg => Or.elim (Nat.lt_or_gt_of_ne e3) (fun hs0 => lin [(b.size), j'] [(1, (.v 0), (.a (.v 1) (.n 1))), (1, (.a (.a (.v 1) (.n 1)) (.n 1)), (.v 0))] rfl hg hs0) (fun hs0 => lin [(b.size), j'] [(1, (.a (.v 1) (.n 1)), (.v 0)), (1, (.a (.v 0) (.n 1)), (.a (.v 1) (.n 1)))] rfl hj' hs0)
    have hr2 : (a.size - i') + (b.size - (j' + 1)) + (y + 1) ≤ (a.size - i) + (b.size - j) := by exact Nat.le_of_not_lt fun hg => lin [(b.size), (a.size - i), (b.size - j), j', (a.size - i'), (b.size - j'), y, (b.size - (j' + 1))] [(1, (.a (.a (.v 4) (.v 5)) (.v 6)), (.a (.v 1) (.v 2))), (1, (.v 0), (.a (.v 5) (.v 3))), (1, (.a (.v 7) (.a (.v 3) (.n 1))), (.v 0)), (1, (.a (.a (.v 1) (.v 2)) (.n 1)), (.a (.a (.v 4) (.v 7)) (.a (.v 6) (.n 1))))] rfl hr' (sub_lo (b.size) (j')) (sub_hi (Nat.le_of_not_lt fun hg => lin [(b.size), j'] [(1, (.a (.a (.v 1) (.n 1)) (.n 1)), (.v 0)), (1, (.a (.v 0) (.n 1)), (.a (.v 1) (.n 1)))] rfl hj2 hg)) hg
    have hr3 : (a.size - i') + (b.size - (j' + 1)) + 1 ≤ (a.size - i) + (b.size - j) := by exact Nat.lt_of_le_of_lt (Nat.le_add_right _ _) hr2
    exact ts_if (fun _ => wpS_pure ⟨rfl, .inr ⟨_, _, _, _, hM2, hi', hj2, hr3⟩⟩) fun _ => wpS_pure ⟨rfl, _, _, _, _, hM2, hi', hj2, hr2⟩
   | false =>
    have hM2 := hM'.pushA sa hi1 fun k h3 h4 => KeyOrd.kle_trans (show O.kle _ _ from hlt) (ib _ _ h3 h4)
    subst hF
    refine ts_cmpB hL hb ha hj' hi1 (hS.kind.trans hkd) hlt ?_
    refine ts_elemB hi1 ?_
    refine ts_if (fun e3 => ?_) (fun e3 => ?_)
    ·simp only [beq_iff_eq] at e3
     exact wpS_pure ⟨rfl, .inl ⟨_, _, hM2.last sa sb e3 h2⟩⟩
    simp only [beq_iff_eq] at e3
    have hi2 : i' + 1 + 1 < a.size := by exact Nat.lt_of_not_le fun hg => Or.elim (Nat.lt_or_gt_of_ne e3) (fun hs0 => lin [(a.size), i'] [(1, (.v 0), (.a (.a (.v 1) (.n 1)) (.n 1))), (1, (.a (.a (.a (.v 1) (.n 1)) (.n 1)) (.n 1)), (.v 0))] rfl hg hs0) (fun hs0 => lin [(a.size), i'] [(1, (.a (.a (.v 1) (.n 1)) (.n 1)), (.v 0)), (1, (.a (.v 0) (.n 1)), (.a (.a (.v 1) (.n 1)) (.n 1)))] rfl hi' hs0)
    have hr2 : (a.size - (i' + 1)) + (b.size - j') + (y + 1) ≤ (a.size - i) + (b.size - j) := by exact Nat.le_of_not_lt fun hg => lin [(a.size), (a.size - i), (b.size - j), i', (a.size - i'), (b.size - j'), y, (a.size - (i' + 1))] [(1, (.a (.a (.v 4) (.v 5)) (.v 6)), (.a (.v 1) (.v 2))), (1, (.v 0), (.a (.v 4) (.v 3))), (1, (.a (.v 7) (.a (.v 3) (.n 1))), (.v 0)), (1, (.a (.a (.v 1) (.v 2)) (.n 1)), (.a (.a (.v 7) (.v 5)) (.a (.v 6) (.n 1))))] rfl hr' (sub_lo (a.size) (i')) (sub_hi (Nat.le_of_not_lt fun hg => lin [(a.size), i'] [(1, (.a (.a (.a (.v 1) (.n 1)) (.n 1)) (.n 1)), (.v 0)), (1, (.a (.v 0) (.n 1)), (.a (.v 1) (.n 1)))] rfl hi2 hg)) hg
    have hr3 : (a.size - (i' + 1)) + (b.size - j') + 1 ≤ (a.size - i) + (b.size - j) := by exact Nat.lt_of_le_of_lt (Nat.le_add_right _ _) hr2
    exact ts_if (fun _ => wpS_pure ⟨rfl, .inr ⟨_, _, _, _, hM2, hi2, hj', hr3⟩⟩) fun _ => wpS_pure ⟨rfl, _, _, _, _, hM2, hi2, hj', hr2⟩
  case apost =>
   rintro K hK c st'' ⟨rfl, ⟨m, r, hG⟩ | ⟨out', i', j', ⟨p, q⟩, hM', hi', hj', hr'⟩⟩
   ·subst hK
    exact wpS_pure ⟨hS, m, _, hG⟩
   subst hK
   dsimp only
   refine ts_ruleB ?_
   refine ts_for (fun y c st3 => Same st st3 ∧ LoI key a b 1 ((a.size - i) + (b.size - j)) c) (fun c st3 => Same st st3 ∧ (LoD key a b c ∨ LoI key a b 1 ((a.size - i) + (b.size - j)) c)) ?gstep ?gfin ⟨hS, _, i', j', _, hM', hi', hj', hr'⟩ ?gpost
   case gfin =>
    rintro c st3 ⟨hS3, out', i', j', ⟨g, p, q⟩, hM', hi', hj', hr'⟩
    exact ⟨hS3, .inr ⟨out', i', j', _, hM', hi', hj', hr'⟩⟩
   case gpost =>
    rintro K hK c st3 ⟨hS3, ⟨m, r, hG⟩ | ⟨out', i', j', ⟨g, p, q⟩, hM', hi', hj', hr'⟩⟩
    ·subst hK
     exact wpS_pure ⟨hS3, m, _, hG⟩
    subst hK
    dsimp only
    refine ts_modB ?_
    exact wpS_pure ⟨hS3.trans ⟨rfl, rfl, rfl, rfl⟩, _, _, _, _, hM', hi', hj', by exact Nat.le_of_not_lt fun hg => lin [(a.size), (b.size), (a.size - i), (b.size - j), x, (a.size - i'), (b.size - j')] [(1, (.a (.a (.v 2) (.v 3)) (.v 4)), (.a (.v 0) (.v 1))), (1, (.a (.a (.v 5) (.v 6)) (.n 1)), (.a (.v 2) (.v 3))), (1, (.a (.a (.v 0) (.v 1)) (.n 1)), (.a (.a (.v 5) (.v 6)) (.a (.v 4) (.n 1))))] rfl hr hr' hg⟩
   case gstep =>
    clear hM' hi' hj' hr' hr hM hi hj hS
    generalize (a.size - i) + (b.size - j) = N
    rintro F hF y c st3 ⟨hS3, out', i', j', ⟨g, p, q⟩, hM', hi', hj', hr'⟩
    have hS4 : ∀ g', Same st (SortSt.mk' (kindOf st3) (arrOf st3) (pendingOf st3) g' (failedOf st3)) := fun g' => hS3.trans ⟨rfl, rfl, rfl, rfl⟩
    subst hF
    dsimp only
    refine' ts_ifG g (g - 1) ?he ?ht ?_
    case he => apply Eq.refl
    case ht => exact rfl
    intro g'
    refine ts_modB ?_
    refine ts_elemB hj' ?_
    refine ts_bindK fun K hK => ts_gallop (left := false) (n := a.size - i') (hint := 0) hL (hb _ (by simp)) ha (by exact Nat.le_of_not_lt fun hg => lin [(a.size), i', (a.size - i')] [(1, (.a (.v 2) (.v 1)), (.v 0)), (1, (.a (.v 0) (.n 1)), (.a (.v 1) (.v 2)))] rfl (sub_hi (Nat.le_of_not_lt fun hg => lin [(a.size), i'] [(1, (.a (.a (.v 1) (.n 1)) (.n 1)), (.v 0)), (1, (.a (.v 0) (.n 1)), (.v 1))] rfl hi' hg)) hg) (by exact Nat.lt_of_not_le fun hg => lin [(a.size), i', (a.size - i')] [(1, (.a (.a (.v 1) (.n 1)) (.n 1)), (.v 0)), (1, (.v 0), (.a (.v 2) (.v 1))), (1, (.v 2), (.n 0))] rfl hi' (sub_lo (a.size) (i')) hg) (hS3.kind.trans hkd) (bey_mono (hSin _ _ (by exact Nat.le_of_not_lt fun hg => lin [(a.size), i', (a.size - i')] [(1, (.a (.v 2) (.v 1)), (.v 0)), (1, (.a (.v 0) (.n 1)), (.a (.v 1) (.v 2)))] rfl (sub_hi (Nat.le_of_not_lt fun hg => lin [(a.size), i'] [(1, (.a (.a (.v 1) (.n 1)) (.n 1)), (.v 0)), (1, (.a (.v 0) (.n 1)), (.v 1))] rfl hi' hg)) hg))) fun k hk1 hk2 hk3 => ?_
    have hk2' : ∀ u, u < k → ∀ v, j' ≤ v → v < b.size → O.kle (tk key a (i' + u)) (tk key b v) := fun u h3 v h4 h5 =>
     KeyOrd.kle_trans (bey_right.1 (hk2 u h3)) (by rw [← tk_get (key := key) hj']; exact ib _ _ h4 h5)
    have hk3' : ∀ u, i' + k ≤ u → u < a.size → O.kle (tk key b j') (tk key a u) := fun u h3 h4 => by
     have := bey_right.2 (hk3 (u - i') (by exact Nat.le_of_not_lt fun hg => lin [i', k, u, (u - i')] [(1, (.a (.v 0) (.v 1)), (.v 2)), (1, (.v 2), (.a (.v 3) (.v 0))), (1, (.a (.v 3) (.n 1)), (.v 1))] rfl h3 (sub_lo (u) (i')) hg) (by exact Nat.lt_of_not_le fun hg => lin [(a.size), i', (a.size - i'), u, (u - i')] [(1, (.a (.v 3) (.n 1)), (.v 0)), (1, (.v 0), (.a (.v 2) (.v 1))), (1, (.a (.v 4) (.v 1)), (.v 3)), (1, (.v 2), (.v 4))] rfl h4 (sub_lo (a.size) (i')) (sub_hi (Nat.le_of_not_lt fun hg => lin [i', k, u] [(1, (.a (.v 0) (.v 1)), (.v 2)), (1, (.a (.v 2) (.n 1)), (.v 0))] rfl h3 hg)) hg))
     rw [show i' + (u - i') = u by exact Nat.le_antisymm (Nat.le_of_not_lt fun hg => lin [i', u, (u - i')] [(1, (.a (.v 2) (.v 0)), (.v 1)), (1, (.a (.v 1) (.n 1)), (.a (.v 0) (.v 2)))] rfl (sub_hi (Nat.le_of_not_lt fun hg => lin [i', k, u] [(1, (.a (.v 0) (.v 1)), (.v 2)), (1, (.a (.v 2) (.n 1)), (.v 0))] rfl h3 hg)) hg) (Nat.le_of_not_lt fun hg => lin [i', u, (u - i')] [(1, (.v 1), (.a (.v 2) (.v 0))), (1, (.a (.a (.v 0) (.v 2)) (.n 1)), (.v 1))] rfl (sub_lo (u) (i')) hg), ← tk_get (key := key) hj'] at this
     exact KeyOrd.kle_of_klt this
    clear hk2 hk3
    subst hK
    dsimp only
    refine' ts_ifF (fun i2 o2 => Mid key a b o2 i2 j' ∧ i2 + 1 < a.size ∧ (a.size - i2) + (b.size - j') + 1 ≤ N ∧ ∀ u, i2 ≤ u → u < a.size → O.kle (tk key b j') (tk key a u)) i' out' ?he ?_ (fun hk K => ?_) (fun hk => ⟨hM', hi', hr', fun u h3 h4 => hk3' u (by rw [Nat.eq_zero_of_not_pos hk]; exact h3) h4⟩)
    case he => apply Eq.refl
    ·clear hM' hi' hr' hk1 hk2' hk3'
     rintro i2 o2 ⟨hMz, hz, hzr, hzb⟩
     refine ts_elemB hj' ?_
     refine ts_if (fun e5 => ?_) (fun e5 => ?_)
     ·simp only [beq_iff_eq] at e5
      exact wpS_pure ⟨hS4 _, .inl ⟨_, _, (hMz.pushB sb hj' hzb).done sa sb (.inl e5)⟩⟩
     refine ts_elemB (Nat.lt_of_succ_lt hz) ?_
     refine ts_bindK fun K hK => ts_gallop (left := true) (n := b.size - (j' + 1)) (hint := 0) hL (ha _ (by simp)) hb (by simp only [beq_iff_eq] at e5; exact Nat.le_of_not_lt fun hg => lin [(b.size), j', (b.size - (j' + 1))] [(1, (.a (.v 2) (.a (.v 1) (.n 1))), (.v 0)), (1, (.a (.v 0) (.n 1)), (.a (.a (.v 1) (.n 1)) (.v 2)))] rfl (sub_hi (Nat.le_of_not_lt fun hg => lin [(b.size), j'] [(1, (.a (.v 1) (.n 1)), (.v 0)), (1, (.a (.v 0) (.n 1)), (.a (.v 1) (.n 1)))] rfl hj' hg)) hg) (by simp only [beq_iff_eq] at e5; exact Nat.lt_of_not_le fun hg => Or.elim (Nat.lt_or_gt_of_ne e5) (fun hs0 => lin [(b.size), j', (b.size - (j' + 1))] [(1, (.v 0), (.a (.v 2) (.a (.v 1) (.n 1)))), (1, (.v 2), (.n 0)), (1, (.a (.a (.v 1) (.n 1)) (.n 1)), (.v 0))] rfl (sub_lo (b.size) (j' + 1)) hg hs0) (fun hs0 => lin [(b.size), j'] [(1, (.a (.v 1) (.n 1)), (.v 0)), (1, (.a (.v 0) (.n 1)), (.a (.v 1) (.n 1)))] rfl hj' hs0)) (hS3.kind.trans hkd) (bey_mono (hSib _ _ (by simp only [beq_iff_eq] at e5; exact Nat.le_of_not_lt fun hg => lin [(b.size), j', (b.size - (j' + 1))] [(1, (.a (.v 2) (.a (.v 1) (.n 1))), (.v 0)), (1, (.a (.v 0) (.n 1)), (.a (.a (.v 1) (.n 1)) (.v 2)))] rfl (sub_hi (Nat.le_of_not_lt fun hg => lin [(b.size), j'] [(1, (.a (.v 1) (.n 1)), (.v 0)), (1, (.a (.v 0) (.n 1)), (.a (.v 1) (.n 1)))] rfl hj' hg)) hg))) fun k2 l1 l2 l3 => ?_
     have hz' : i2 < a.size := Nat.lt_of_succ_lt hz
     have hM2 := hMz.pushB sb hj' hzb
     simp only [beq_iff_eq] at e5
     have l2' := fun u (h3 : u < k2) => bey_left.1 (l2 u h3)
     have l3' := fun u (h3 : k2 ≤ u) (h4 : u < b.size - (j' + 1)) => bey_left.2 (l3 u h3 h4)
     rw [← tk_get (key := key) hz'] at l2' l3'
     have hv : ∀ v, j' + 1 + k2 ≤ v → v < b.size → O.kle (tk key a i2) (tk key b v) := fun v h4 h5 => by
      have := l3' (v - (j' + 1)) (by exact Nat.le_of_not_lt fun hg => lin [j', k2, v, (v - (j' + 1))] [(1, (.a (.a (.v 0) (.n 1)) (.v 1)), (.v 2)), (1, (.v 2), (.a (.v 3) (.a (.v 0) (.n 1)))), (1, (.a (.v 3) (.n 1)), (.v 1))] rfl h4 (sub_lo (v) (j' + 1)) hg) (by exact Nat.lt_of_not_le fun hg => lin [(b.size), j', (b.size - (j' + 1)), v, (v - (j' + 1))] [(1, (.a (.v 3) (.n 1)), (.v 0)), (1, (.v 0), (.a (.v 2) (.a (.v 1) (.n 1)))), (1, (.a (.v 4) (.a (.v 1) (.n 1))), (.v 3)), (1, (.v 2), (.v 4))] rfl h5 (sub_lo (b.size) (j' + 1)) (sub_hi (Nat.le_of_not_lt fun hg => lin [j', k2, v] [(1, (.a (.a (.v 0) (.n 1)) (.v 1)), (.v 2)), (1, (.a (.v 2) (.n 1)), (.a (.v 0) (.n 1)))] rfl h4 hg)) hg)
      rwa [show j' + 1 + (v - (j' + 1)) = v by exact Nat.le_antisymm (Nat.le_of_not_lt fun hg => lin [j', v, (v - (j' + 1))] [(1, (.a (.v 2) (.a (.v 0) (.n 1))), (.v 1)), (1, (.a (.v 1) (.n 1)), (.a (.a (.v 0) (.n 1)) (.v 2)))] rfl (sub_hi (Nat.le_of_not_lt fun hg => lin [j', k2, v] [(1, (.a (.a (.v 0) (.n 1)) (.v 1)), (.v 2)), (1, (.a (.v 2) (.n 1)), (.a (.v 0) (.n 1)))] rfl h4 hg)) hg) (Nat.le_of_not_lt fun hg => lin [j', v, (v - (j' + 1))] [(1, (.v 1), (.a (.v 2) (.a (.v 0) (.n 1)))), (1, (.a (.a (.a (.v 0) (.n 1)) (.v 2)) (.n 1)), (.v 1))] rfl (sub_lo (v) (j' + 1)) hg)] at this
     have hMm : 0 < k2 → _ := fun _ => hM2.appB sb (k := k2) (by exact Nat.le_of_not_lt fun hg => lin [(b.size), j', k2, (b.size - (j' + 1))] [(1, (.v 2), (.v 3)), (1, (.a (.v 3) (.a (.v 1) (.n 1))), (.v 0)), (1, (.a (.v 0) (.n 1)), (.a (.a (.v 1) (.n 1)) (.v 2)))] rfl l1 (sub_hi (Nat.le_of_not_lt fun hg => lin [(b.size), j'] [(1, (.a (.v 1) (.n 1)), (.v 0)), (1, (.a (.v 0) (.n 1)), (.a (.v 1) (.n 1)))] rfl hj' hg)) hg) fun u h3 v h4 h5 => KeyOrd.kle_trans (KeyOrd.kle_of_klt (l2' u h3)) (ia _ _ h4 h5)
     have hj1 : j' + 1 < b.size := by exact Nat.lt_of_not_le fun hg => Or.elim (Nat.lt_or_gt_of_ne e5) (fun hs0 => lin [(b.size), j'] [(1, (.v 0), (.a (.v 1) (.n 1))), (1, (.a (.a (.v 1) (.n 1)) (.n 1)), (.v 0))] rfl hg hs0) (fun hs0 => lin [(b.size), j'] [(1, (.a (.v 1) (.n 1)), (.v 0)), (1, (.a (.v 0) (.n 1)), (.a (.v 1) (.n 1)))] rfl hj' hs0)
     have hm1 : (a.size - (i2 + 1)) + (b.size - (j' + 1)) + 1 ≤ N := by exact Nat.le_of_not_lt fun hg => lin [(a.size), (b.size), j', i2, (a.size - i2), (b.size - j'), N, (b.size - (j' + 1)), (a.size - (i2 + 1))] [(1, (.a (.a (.v 4) (.v 5)) (.n 1)), (.v 6)), (1, (.v 0), (.a (.v 4) (.v 3))), (1, (.v 1), (.a (.v 5) (.v 2))), (1, (.a (.v 7) (.a (.v 2) (.n 1))), (.v 1)), (1, (.a (.v 8) (.a (.v 3) (.n 1))), (.v 0)), (1, (.a (.v 6) (.n 1)), (.a (.a (.v 8) (.v 7)) (.n 1)))] rfl hzr (sub_lo (a.size) (i2)) (sub_lo (b.size) (j')) (sub_hi (Nat.le_of_not_lt fun hg => lin [(b.size), j'] [(1, (.a (.a (.v 1) (.n 1)) (.n 1)), (.v 0)), (1, (.a (.v 0) (.n 1)), (.a (.v 1) (.n 1)))] rfl hj1 hg)) (sub_hi (Nat.le_of_not_lt fun hg => lin [(a.size), i2] [(1, (.a (.a (.v 1) (.n 1)) (.n 1)), (.v 0)), (1, (.a (.v 0) (.n 1)), (.a (.v 1) (.n 1)))] rfl hz hg)) hg
     clear l2 l3 l2' l3' e5
     subst hK
     dsimp only
     generalize j' + 1 = j1 at hM2 hv hMm hj1 hm1 l1 ⊢
     generalize o2.push b[j'] = o1 at hM2 hMm ⊢
     refine' ts_ifF (fun j2 o3 => Mid key a b o3 i2 j2 ∧ j2 < b.size ∧ (a.size - (i2 + 1)) + (b.size - j2) + 1 ≤ N ∧ ∀ v, j2 ≤ v → v < b.size → O.kle (tk key a i2) (tk key b v)) j1 o1 ?he ?_ (fun hk K => ?_) (fun hk => ⟨hM2, hj1, hm1, fun v h4 h5 => hv v (by rw [Nat.eq_zero_of_not_pos hk]; exact h4) h5⟩)
     case he => apply Eq.refl
     ·clear hM2 hv hMm hj1 hm1 l1
      rintro j2 o3 ⟨hM3, hj2, hm2, hw⟩
      have hM5 := hM3.pushA sa hz' hw
      refine ts_elemB hz' ?_
      refine ts_if (fun e7 => ?_) (fun e7 => ?_)
      ·simp only [beq_iff_eq] at e7
       exact wpS_pure ⟨hS4 _, .inl ⟨_, _, hM5.last sa sb e7 h2⟩⟩
      simp only [beq_iff_eq] at e7
      have hi5 : i2 + 1 + 1 < a.size := by exact Nat.lt_of_not_le fun hg => Or.elim (Nat.lt_or_gt_of_ne e7) (fun hs0 => lin [(a.size), i2] [(1, (.v 0), (.a (.a (.v 1) (.n 1)) (.n 1))), (1, (.a (.a (.a (.v 1) (.n 1)) (.n 1)) (.n 1)), (.v 0))] rfl hg hs0) (fun hs0 => lin [(a.size), i2] [(1, (.a (.a (.v 1) (.n 1)) (.n 1)), (.v 0)), (1, (.a (.v 0) (.n 1)), (.a (.a (.v 1) (.n 1)) (.n 1)))] rfl hz hs0)
      exact ts_if (fun _ => wpS_pure ⟨hS4 _, .inr ⟨_, _, _, _, hM5, hi5, hj2, hm2⟩⟩) fun _ => wpS_pure ⟨hS4 _, _, _, _, _, hM5, hi5, hj2, hm2⟩
     ·have hMm := hMm hk
      refine ts_if (fun e6 => ?_) (fun e6 => ?_)
      ·simp only [beq_iff_eq] at e6
       exact wpS_pure ⟨hS4 _, .inl ⟨_, _, hMm.done sa sb (.inl e6)⟩⟩
      simp only [beq_iff_eq] at e6
      exact K (j1 + k2) _ ⟨hMm, by exact Nat.lt_of_not_le fun hg => Or.elim (Nat.lt_or_gt_of_ne e6) (fun hs0 => lin [(b.size), j1, k2] [(1, (.v 0), (.a (.v 1) (.v 2))), (1, (.a (.a (.v 1) (.v 2)) (.n 1)), (.v 0))] rfl hg hs0) (fun hs0 => lin [(b.size), j1, (b.size - j1), k2] [(1, (.v 3), (.v 2)), (1, (.a (.v 2) (.v 1)), (.v 0)), (1, (.a (.v 0) (.n 1)), (.a (.v 1) (.v 3)))] rfl l1 (sub_hi (Nat.le_of_not_lt fun hg => lin [(b.size), j1] [(1, (.a (.v 1) (.n 1)), (.v 0)), (1, (.a (.v 0) (.n 1)), (.v 1))] rfl hj1 hg)) hs0), by exact Nat.le_of_not_lt fun hg => Or.elim (Nat.lt_or_gt_of_ne e6) (fun hs0 => Or.elim (sub_or (b.size) (j1 + k2)) (fun hs1 => lin [(b.size), N, j1, (a.size - (i2 + 1)), (b.size - j1), k2, (b.size - (j1 + k2))] [(1, (.a (.a (.v 3) (.v 4)) (.n 1)), (.v 1)), (1, (.a (.n 0) (.n 1)), (.v 5)), (1, (.v 0), (.a (.v 4) (.v 2))), (1, (.a (.v 1) (.n 1)), (.a (.a (.v 3) (.v 6)) (.n 1))), (1, (.a (.v 6) (.a (.v 2) (.v 5))), (.v 0))] rfl hm1 hk (sub_lo (b.size) (j1)) hg (Nat.le_of_eq hs1)) (fun hs1 => lin [(b.size), j1, k2, (b.size - (j1 + k2))] [(1, (.v 0), (.a (.v 3) (.a (.v 1) (.v 2)))), (1, (.a (.a (.v 1) (.v 2)) (.n 1)), (.v 0)), (1, (.v 3), (.n 0))] rfl (sub_lo (b.size) (j1 + k2)) hs0 (Nat.le_of_eq hs1))) (fun hs0 => lin [(b.size), j1, (b.size - j1), k2] [(1, (.v 3), (.v 2)), (1, (.a (.v 2) (.v 1)), (.v 0)), (1, (.a (.v 0) (.n 1)), (.a (.v 1) (.v 3)))] rfl l1 (sub_hi (Nat.le_of_not_lt fun hg => lin [(b.size), j1] [(1, (.a (.v 1) (.n 1)), (.v 0)), (1, (.a (.v 0) (.n 1)), (.v 1))] rfl hj1 hg)) hs0), hv⟩
    ·have hMz := hM'.appA sa (k := k) (by exact Nat.le_of_not_lt fun hg => lin [(a.size), i', (a.size - i'), k] [(1, (.v 3), (.v 2)), (1, (.a (.v 2) (.v 1)), (.v 0)), (1, (.a (.v 0) (.n 1)), (.a (.v 1) (.v 3)))] rfl hk1 (sub_hi (Nat.le_of_not_lt fun hg => lin [(a.size), i'] [(1, (.a (.a (.v 1) (.n 1)) (.n 1)), (.v 0)), (1, (.a (.v 0) (.n 1)), (.v 1))] rfl hi' hg)) hg) hk2'
     refine ts_if (fun e3 => ?_) (fun e3 => ?_)
     ·simp only [beq_iff_eq] at e3
      exact wpS_pure ⟨hS4 _, .inl ⟨_, _, hMz.last sa sb e3 h2⟩⟩
     refine ts_if (fun e4 => ?_) (fun e4 => ?_)
     ·simp only [beq_iff_eq] at e4
      exact wpS_pure ⟨hS4 _, .inl ⟨_, _, hMz.done sa sb (.inr e4)⟩⟩
     simp only [beq_iff_eq] at e3 e4
     exact K (i' + k) _ ⟨hMz, by exact Nat.lt_of_not_le fun hg => Or.elim (Nat.lt_or_gt_of_ne e3) (fun hs0 => lin [(a.size), i', k] [(1, (.v 0), (.a (.a (.v 1) (.v 2)) (.n 1))), (1, (.a (.a (.a (.v 1) (.v 2)) (.n 1)) (.n 1)), (.v 0))] rfl hg hs0) (fun hs0 => Or.elim (Nat.lt_or_gt_of_ne e4) (fun hs1 => lin [(a.size), i', k] [(1, (.a (.v 0) (.n 1)), (.a (.a (.v 1) (.v 2)) (.n 1))), (1, (.a (.a (.v 1) (.v 2)) (.n 1)), (.v 0))] rfl hs0 hs1) (fun hs1 => lin [(a.size), i', (a.size - i'), k] [(1, (.v 3), (.v 2)), (1, (.a (.v 2) (.v 1)), (.v 0)), (1, (.a (.v 0) (.n 1)), (.a (.v 1) (.v 3)))] rfl hk1 (sub_hi (Nat.le_of_not_lt fun hg => lin [(a.size), i'] [(1, (.a (.a (.v 1) (.n 1)) (.n 1)), (.v 0)), (1, (.a (.v 0) (.n 1)), (.v 1))] rfl hi' hg)) hs1)), by exact Nat.le_of_not_lt fun hg => Or.elim (Nat.lt_or_gt_of_ne e3) (fun hs0 => Or.elim (sub_or (a.size) (i' + k)) (fun hs1 => lin [(a.size), i', (a.size - i'), (b.size - j'), N, k, (a.size - (i' + k))] [(1, (.a (.a (.v 2) (.v 3)) (.n 1)), (.v 4)), (1, (.a (.n 0) (.n 1)), (.v 5)), (1, (.v 0), (.a (.v 2) (.v 1))), (1, (.a (.v 4) (.n 1)), (.a (.a (.v 6) (.v 3)) (.n 1))), (1, (.a (.v 6) (.a (.v 1) (.v 5))), (.v 0))] rfl hr' hk (sub_lo (a.size) (i')) hg (Nat.le_of_eq hs1)) (fun hs1 => lin [(a.size), i', k, (a.size - (i' + k))] [(1, (.v 0), (.a (.v 3) (.a (.v 1) (.v 2)))), (1, (.a (.a (.a (.v 1) (.v 2)) (.n 1)) (.n 1)), (.v 0)), (1, (.v 3), (.n 0))] rfl (sub_lo (a.size) (i' + k)) hs0 (Nat.le_of_eq hs1))) (fun hs0 => Or.elim (Nat.lt_or_gt_of_ne e4) (fun hs1 => lin [(a.size), i', k] [(1, (.a (.v 0) (.n 1)), (.a (.a (.v 1) (.v 2)) (.n 1))), (1, (.a (.a (.v 1) (.v 2)) (.n 1)), (.v 0))] rfl hs0 hs1) (fun hs1 => lin [(a.size), i', (a.size - i'), k] [(1, (.v 3), (.v 2)), (1, (.a (.v 2) (.v 1)), (.v 0)), (1, (.a (.v 0) (.n 1)), (.a (.v 1) (.v 3)))] rfl hk1 (sub_hi (Nat.le_of_not_lt fun hg => lin [(a.size), i'] [(1, (.a (.a (.v 1) (.n 1)) (.n 1)), (.v 0)), (1, (.a (.v 0) (.n 1)), (.v 1))] rfl hi' hg)) hs1)), hk3'⟩
end walk
end Mine
end
noncomputable section
namespace Mine
open PySem PyProof.Rows
section pure
variable {O : KeyOrd} {key : Keyed → O.α}
structure MidH (key : Keyed → O.α) (a b out : Array Keyed) (na nb : Nat) : Prop where
 perm : (a.toList.take na ++ (b.toList.take nb ++ out.toList.reverse)).Perm (a.toList ++ b.toList)
 srt : Srt key out.toList.reverse
 high : ∀ x ∈ out.toList, (∀ i, i < na → i < a.size → O.kle (tk key a i) (key x)) ∧ (∀ j, j < nb → j < b.size → O.kle (tk key b j) (key x))
variable {a b out : Array Keyed} {na nb : Nat}
theorem take_get {arr : Array Keyed} {i : Nat} (h0 : 0 < i) (hi : i ≤ arr.size) : arr.toList.take i = arr.toList.take (i - 1) ++ [arr[i - 1]] := by
 obtain ⟨k, rfl⟩ : ∃ k, i = k + 1 := ⟨i - 1, by exact (Nat.sub_add_cancel h0).symm⟩
 rw [List.take_add_one, List.getElem?_eq_getElem (by simpa using (by exact hi : k < arr.size))]
 simp
theorem take_ext {arr : Array Keyed} {i j : Nat} (hij : i ≤ j) : arr.toList.take j = arr.toList.take i ++ (arr.extract i j).toList := by
 rw [Array.toList_extract, List.extract_eq_take_drop]
 obtain ⟨k, rfl⟩ : ∃ k, j = i + k := ⟨j - i, by exact Nat.le_antisymm (Nat.le_of_not_lt fun hg => lin [i, j, (j - i)] [(1, (.v 1), (.a (.v 2) (.v 0))), (1, (.a (.a (.v 0) (.v 2)) (.n 1)), (.v 1))] rfl (sub_lo (j) (i)) hg) (Nat.le_of_not_lt fun hg => lin [i, j, (j - i)] [(1, (.a (.v 2) (.v 0)), (.v 1)), (1, (.a (.v 1) (.n 1)), (.a (.v 0) (.v 2)))] rfl (sub_hi (Nat.le_of_not_lt fun hg => lin [i, j] [(1, (.v 0), (.v 1)), (1, (.a (.v 1) (.n 1)), (.v 0))] rfl hij hg)) hg)⟩
 rw [show i + k - i = k by exact Nat.le_antisymm (Nat.le_of_not_lt fun hg => lin [i, k, (i + k - i)] [(1, (.a (.v 2) (.v 0)), (.a (.v 0) (.v 1))), (1, (.a (.v 1) (.n 1)), (.v 2))] rfl (sub_hi (Nat.le_of_not_lt fun hg => lin [i, k] [(1, (.v 0), (.a (.v 0) (.v 1))), (1, (.a (.a (.v 0) (.v 1)) (.n 1)), (.v 0))] rfl hij hg)) hg) (Nat.le_of_not_lt fun hg => lin [i, k, (i + k - i)] [(1, (.a (.v 0) (.v 1)), (.a (.v 2) (.v 0))), (1, (.a (.v 2) (.n 1)), (.v 1))] rfl (sub_lo (i + k) (i)) hg), List.take_add]
theorem MidH.pushA (h : MidH key a b out na nb) (sa : Srt key a.toList) (h0 : 0 < na) (hi : na ≤ a.size) (hle : ∀ j, j < nb → j < b.size → O.kle (tk key b j) (tk key a (na - 1))) :
  MidH key a b (out.push a[na - 1]) (na - 1) nb := by
 have hi1 : na - 1 < a.size := by exact Nat.le_trans (Nat.sub_lt h0 Nat.one_pos) hi
 refine ⟨?_, ?_, fun x hx => ?_⟩
 ·refine List.Perm.trans ?_ h.perm
  rw [Array.toList_push, take_get h0 hi, List.append_assoc]
  refine List.Perm.append_left _ ?_
  rw [List.reverse_append, List.reverse_singleton, List.singleton_append, List.singleton_append]
  exact List.perm_middle
 ·rw [Array.toList_push, List.reverse_append, List.reverse_singleton]
  refine srt_app (List.pairwise_singleton ..) h.srt fun x hx y hy => ?_
  rw [List.mem_singleton.mp hx, ← tk_get (key := key) hi1]
  exact (h.high y (List.mem_reverse.mp hy)).1 _ (by exact Nat.sub_lt h0 Nat.one_pos) hi1
 ·rw [Array.toList_push] at hx
  rcases List.mem_append.mp hx with hx | hx
  ·exact ⟨fun i h1 h2 => (h.high x hx).1 i (by exact Nat.lt_of_not_le fun hg => lin [na, (na - 1), i] [(1, (.a (.v 2) (.n 1)), (.v 1)), (1, (.a (.v 1) (.n 1)), (.v 0)), (1, (.v 0), (.v 2))] rfl h1 (sub_hi (Nat.le_of_not_lt fun hg => lin [na] [(1, (.a (.n 0) (.n 1)), (.v 0)), (1, (.a (.v 0) (.n 1)), (.n 1))] rfl h0 hg)) hg) h2, (h.high x hx).2⟩
  ·rw [List.mem_singleton.mp hx, ← tk_get (key := key) hi1]
   exact ⟨fun i h1 h2 => srt_idx sa _ _ (by exact Nat.le_of_lt h1) (by exact hi1), hle⟩
theorem MidH.pushB (h : MidH key a b out na nb) (sb : Srt key b.toList) (h0 : 0 < nb) (hi : nb ≤ b.size) (hle : ∀ i, i < na → i < a.size → O.kle (tk key a i) (tk key b (nb - 1))) :
  MidH key a b (out.push b[nb - 1]) na (nb - 1) := by
 have hi1 : nb - 1 < b.size := by exact Nat.le_trans (Nat.sub_lt h0 Nat.one_pos) hi
 refine ⟨?_, ?_, fun x hx => ?_⟩
 ·refine List.Perm.trans ?_ h.perm
  rw [Array.toList_push, take_get h0 hi]
  refine List.Perm.append_left _ ?_
  rw [List.reverse_append, List.reverse_singleton, List.append_assoc]
 ·rw [Array.toList_push, List.reverse_append, List.reverse_singleton]
  refine srt_app (List.pairwise_singleton ..) h.srt fun x hx y hy => ?_
  rw [List.mem_singleton.mp hx, ← tk_get (key := key) hi1]
  exact (h.high y (List.mem_reverse.mp hy)).2 _ (by exact Nat.sub_lt h0 Nat.one_pos) hi1
 ·rw [Array.toList_push] at hx
  rcases List.mem_append.mp hx with hx | hx
  ·exact ⟨(h.high x hx).1, fun i h1 h2 => (h.high x hx).2 i (by exact Nat.lt_of_not_le fun hg => lin [nb, (nb - 1), i] [(1, (.a (.v 2) (.n 1)), (.v 1)), (1, (.a (.v 1) (.n 1)), (.v 0)), (1, (.v 0), (.v 2))] rfl h1 (sub_hi (Nat.le_of_not_lt fun hg => lin [nb] [(1, (.a (.n 0) (.n 1)), (.v 0)), (1, (.a (.v 0) (.n 1)), (.n 1))] rfl h0 hg)) hg) h2⟩
  ·rw [List.mem_singleton.mp hx, ← tk_get (key := key) hi1]
   exact ⟨hle, fun i h1 h2 => srt_idx sb _ _ (by exact Nat.le_of_lt h1) (by exact hi1)⟩
theorem MidH.appA (h : MidH key a b out na nb) (sa : Srt key a.toList) {k : Nat} (hk : k ≤ na) (hi : na ≤ a.size) (hle : ∀ i, k ≤ i → i < na → ∀ j, j < nb → j < b.size → O.kle (tk key b j) (tk key a i)) :
  MidH key a b (out ++ (a.extract k na).reverse) k nb := by
 refine ⟨?_, ?_, fun x hx => ?_⟩
 ·refine List.Perm.trans ?_ h.perm
  rw [Array.toList_append, Array.toList_reverse, List.reverse_append, List.reverse_reverse, take_ext hk, List.append_assoc]
  refine List.Perm.append_left _ ?_
  rw [← List.append_assoc, ← List.append_assoc]
  exact List.Perm.append_right _ List.perm_append_comm
 ·rw [Array.toList_append, Array.toList_reverse, List.reverse_append, List.reverse_reverse]
  refine srt_app (srt_of_idx (fun p q _ h2 h3 => srt_idx sa p q h2 (by exact Nat.le_trans h3 hi)) hi) h.srt fun x hx y hy => ?_
  obtain ⟨p, h1, h2, h3, e⟩ := mem_ext (key := key) hx
  rw [e]
  exact (h.high y (List.mem_reverse.mp hy)).1 p h2 h3
 ·rw [Array.toList_append, Array.toList_reverse] at hx
  rcases List.mem_append.mp hx with hx | hx
  ·exact ⟨fun i h1 h2 => (h.high x hx).1 i (by exact Nat.le_trans h1 hk) h2, (h.high x hx).2⟩
  ·obtain ⟨p, h1, h2, h3, e⟩ := mem_ext (key := key) (List.mem_reverse.mp hx)
   rw [e]
   exact ⟨fun j h4 h5 => srt_idx sa _ _ (by exact Nat.le_of_lt (Nat.lt_of_lt_of_le h4 h1)) h3, fun j h4 h5 => hle p h1 h2 j h4 h5⟩
theorem MidH.appB (h : MidH key a b out na nb) (sb : Srt key b.toList) {k : Nat} (hk : k ≤ nb) (hi : nb ≤ b.size) (hle : ∀ i, k ≤ i → i < nb → ∀ j, j < na → j < a.size → O.kle (tk key a j) (tk key b i)) :
  MidH key a b (out ++ (b.extract k nb).reverse) na k := by
 refine ⟨?_, ?_, fun x hx => ?_⟩
 ·refine List.Perm.trans ?_ h.perm
  rw [Array.toList_append, Array.toList_reverse, List.reverse_append, List.reverse_reverse, take_ext hk]
  refine List.Perm.append_left _ ?_
  rw [List.append_assoc]
 ·rw [Array.toList_append, Array.toList_reverse, List.reverse_append, List.reverse_reverse]
  refine srt_app (srt_of_idx (fun p q _ h2 h3 => srt_idx sb p q h2 (by exact Nat.le_trans h3 hi)) hi) h.srt fun x hx y hy => ?_
  obtain ⟨p, h1, h2, h3, e⟩ := mem_ext (key := key) hx
  rw [e]
  exact (h.high y (List.mem_reverse.mp hy)).2 p h2 h3
 ·rw [Array.toList_append, Array.toList_reverse] at hx
  rcases List.mem_append.mp hx with hx | hx
  ·exact ⟨(h.high x hx).1, fun i h1 h2 => (h.high x hx).2 i (by exact Nat.le_trans h1 hk) h2⟩
  ·obtain ⟨p, h1, h2, h3, e⟩ := mem_ext (key := key) (List.mem_reverse.mp hx)
   rw [e]
   exact ⟨fun j h4 h5 => hle p h1 h2 j h4 h5, fun j h4 h5 => srt_idx sb _ _ (by exact Nat.le_of_lt (Nat.lt_of_lt_of_le h4 h1)) h3⟩
theorem ext_take {arr : Array Keyed} {i : Nat} : (arr.extract 0 i).toList = arr.toList.take i := by
 rw [Array.toList_extract, List.extract_eq_take_drop]
 simp
theorem MidH.done (h : MidH key a b out na nb) (sa : Srt key a.toList) (sb : Srt key b.toList) (he : na = 0 ∨ nb = 0) :
  Good key a b (a.extract 0 na ++ b.extract 0 nb ++ out.reverse) := by
 refine ⟨by rw [Array.toList_append, Array.toList_append, ext_take, ext_take, Array.toList_reverse, List.append_assoc]; exact h.perm, ?_⟩
 rw [Array.toList_append, Array.toList_append, ext_take, ext_take, Array.toList_reverse]
 refine srt_app (srt_app (sa.sublist (List.take_sublist _ _)) (sb.sublist (List.take_sublist _ _)) fun x hx y hy => ?_) h.srt fun x hx y hy => ?_
 ·obtain ⟨i, h1, h2, e⟩ := mem_idxT (key := key) hy
  obtain ⟨j, h3, h4, e2⟩ := mem_idxT (key := key) hx
  exact False.elim (Or.elim he (fun hs0 => lin [na, j] [(1, (.a (.v 1) (.n 1)), (.v 0)), (1, (.v 0), (.n 0))] rfl h3 (Nat.le_of_eq hs0)) (fun hs0 => lin [nb, i] [(1, (.a (.v 1) (.n 1)), (.v 0)), (1, (.v 0), (.n 0))] rfl h1 (Nat.le_of_eq hs0)))
 ·have hy' := List.mem_reverse.mp hy
  rcases List.mem_append.mp hx with hx | hx
  ·obtain ⟨i, h1, h2, e⟩ := mem_idxT (key := key) hx
   rw [e]
   exact (h.high y hy').1 i h1 h2
  ·obtain ⟨i, h1, h2, e⟩ := mem_idxT (key := key) hx
   rw [e]
   exact (h.high y hy').2 i h1 h2
theorem MidH.first (h : MidH key a b out na nb) (sa : Srt key a.toList) (sb : Srt key b.toList) (he : nb = 1) (hl : ∀ i, i < a.size → O.kle (tk key b 0) (tk key a i)) :
  Good key a b (b.extract 0 nb ++ a.extract 0 na ++ out.reverse) := by
 refine ⟨?_, ?_⟩
 ·rw [Array.toList_append, Array.toList_append, ext_take, ext_take, Array.toList_reverse]
  refine List.Perm.trans ?_ h.perm
  rw [← List.append_assoc]
  exact List.Perm.append_right _ List.perm_append_comm
 rw [Array.toList_append, Array.toList_append, ext_take, ext_take, Array.toList_reverse]
 refine srt_app (srt_app (sb.sublist (List.take_sublist _ _)) (sa.sublist (List.take_sublist _ _)) fun x hx y hy => ?_) h.srt fun x hx y hy => ?_
 ·obtain ⟨i, h1, h2, e⟩ := mem_idxT (key := key) hy
  obtain ⟨j, h3, h4, e2⟩ := mem_idxT (key := key) hx
  rw [e, e2, show j = 0 by exact Nat.le_antisymm (Nat.le_of_not_lt fun hg => lin [nb, j] [(1, (.v 0), (.n 1)), (1, (.a (.v 1) (.n 1)), (.v 0)), (1, (.a (.n 0) (.n 1)), (.v 1))] rfl (Nat.le_of_eq he) h3 hg) (Nat.le_of_not_lt fun hg => lin [j] [(1, (.a (.v 0) (.n 1)), (.n 0))] rfl hg)]
  exact hl i h2
 ·have hy' := List.mem_reverse.mp hy
  rcases List.mem_append.mp hx with hx | hx
  ·obtain ⟨i, h1, h2, e⟩ := mem_idxT (key := key) hx
   rw [e]
   exact (h.high y hy').2 i h1 h2
  ·obtain ⟨i, h1, h2, e⟩ := mem_idxT (key := key) hx
   rw [e]
   exact (h.high y hy').1 i h1 h2
end pure
end Mine
end
noncomputable section
namespace Mine
open PySem PyProof.Rows
section walk
variable {prog : Program} {w : World} {A : Around} {E : Value → Shared → Prop} {s : Shared} {kd : SortKind} {O : KeyOrd} {key : Keyed → O.α} {a₀ : Array Keyed}
inductive HiI (key : Keyed → O.α) (a b : Array Keyed) (x n : Nat) {γ : Type} : Option (Array Keyed) × Nat × Nat × Array Keyed × γ → Prop
 | mk (i j : Nat) (out : Array Keyed) (r : γ) (hM : MidH key a b out i j) (hi : 0 < i) (hi2 : i ≤ a.size) (hj : 1 < j) (hj2 : j ≤ b.size) (hr : i + j + x ≤ n) : HiI key a b x n (none, i, j, out, r)
theorem ts_hi {st : SortSt} {a b : Array Keyed} {Q : Array Keyed → SortSt → Prop} (hL : LtOk prog w A E s kd O key a₀) (ha : ∀ x ∈ a.toList, x ∈ a₀.toList) (hb : ∀ x ∈ b.toList, x ∈ a₀.toList)
  (sa : Srt key a.toList) (sb : Srt key b.toList) (na : 0 < a.size) (nb : 0 < b.size) (h1 : ∀ i, i < a.size → O.kle (tk key b 0) (tk key a i))
  (h2 : ∀ j, j < b.size → O.kle (tk key b j) (tk key a (a.size - 1))) (hkd : kindOf st = kd)
  (h : ∀ m st', Good key a b m → Same st st' → Q m st') : wpS (model prog w) A E s (mergeHiM a b) Q st := by
 have ia : ∀ i j, i ≤ j → j < a.size → O.kle (tk key a i) (tk key a j) := srt_idx sa
 have ib : ∀ i j, i ≤ j → j < b.size → O.kle (tk key b i) (tk key b j) := srt_idx sb
 have m0 : MidH key a b #[a[a.size - 1]] (a.size - 1) b.size := by
  have : MidH key a b #[] a.size b.size := ⟨by rw [List.take_of_length_le (by simp), List.take_of_length_le (by simp)]; simp, by simp, by simp⟩
  exact this.pushA sa na (Nat.le_refl _) fun j _ => h2 j
 have hSin : ∀ n, 0 + n ≤ a.size → SIn key a 0 (0 + n) := fun n hd p q _ h4 h5 => ia _ _ h4 (by exact Nat.le_trans h5 hd)
 have hSib : ∀ n, 0 + n ≤ b.size → SIn key b 0 (0 + n) := fun n hd p q _ h4 h5 => ib _ _ h4 (by exact Nat.le_trans h5 hd)
 unfold mergeHiM
 refine ts_ruleB ?_
 refine ts_elemB (by exact Nat.sub_lt na Nat.one_pos : a.size - 1 < a.size) ?_
 refine ts_if (fun e1 => ?_) (fun e1 => ?_)
 ·simp only [beq_iff_eq] at e1
  exact wpS_pure (h _ _ (m0.done sa sb (.inl e1)) Same.refl)
 refine ts_if (fun e2 => ?_) (fun e2 => ?_)
 ·simp only [beq_iff_eq] at e2
  exact wpS_pure (h _ _ (m0.first sa sb e2 h1) Same.refl)
 refine ts_getB ?_
 refine ts_for (fun x c st' => Same st st' ∧ HiI key a b x (a.size + b.size) c) (fun c st' => Same st st' ∧ LoD key a b c) ?step ?fin ?init ?post
 case init =>
  simp only [beq_iff_eq] at e1 e2
  exact ⟨Same.refl, _, _, _, _, m0, by exact Nat.pos_of_ne_zero e1, by exact Nat.sub_le _ _, by exact Nat.lt_of_not_le fun hg => Or.elim (Nat.lt_or_gt_of_ne e1) (fun hs0 => lin [(a.size), (a.size - 1)] [(1, (.a (.n 0) (.n 1)), (.v 0)), (1, (.v 0), (.a (.v 1) (.n 1))), (1, (.a (.v 1) (.n 1)), (.n 0))] rfl na (sub_lo (a.size) (1)) hs0) (fun hs0 => Or.elim (Nat.lt_or_gt_of_ne e2) (fun hs1 => lin [(b.size)] [(1, (.a (.n 0) (.n 1)), (.v 0)), (1, (.a (.v 0) (.n 1)), (.n 1))] rfl nb hs1) (fun hs1 => lin [(b.size)] [(1, (.v 0), (.n 1)), (1, (.a (.n 1) (.n 1)), (.v 0))] rfl hg hs1)), by exact Nat.le_refl _, by exact Nat.le_of_not_lt fun hg => lin [(a.size), (b.size), (a.size - 1)] [(1, (.a (.v 2) (.n 1)), (.v 0)), (1, (.a (.a (.v 0) (.v 1)) (.n 1)), (.a (.a (.v 2) (.v 1)) (.n 0)))] rfl (sub_hi (Nat.le_of_not_lt fun hg => lin [(a.size)] [(1, (.a (.n 0) (.n 1)), (.v 0)), (1, (.a (.v 0) (.n 1)), (.n 1))] rfl na hg)) hg⟩
 case fin =>
  rintro c st' ⟨hS, i, j, out, mg, hM, hi, hi2, hj, hj2, hx⟩
  exact And.intro (False.elim (lin [(a.size), (b.size), i, j, (max 0 (a.size + b.size))] [(1, (.a (.n 0) (.n 1)), (.v 2)), (1, (.a (.n 1) (.n 1)), (.v 3)), (1, (.a (.a (.v 2) (.v 3)) (.v 4)), (.a (.v 0) (.v 1))), (1, (.a (.v 0) (.v 1)), (.v 4))] rfl hi hj hx (Nat.le_max_right (0) (a.size + b.size)))) (False.elim (lin [(a.size), (b.size), i, j, (max 0 (a.size + b.size))] [(1, (.a (.n 0) (.n 1)), (.v 2)), (1, (.a (.n 1) (.n 1)), (.v 3)), (1, (.a (.a (.v 2) (.v 3)) (.v 4)), (.a (.v 0) (.v 1))), (1, (.a (.v 0) (.v 1)), (.v 4))] rfl hi hj hx (Nat.le_max_right (0) (a.size + b.size))))
 case post =>
  rintro K hK c st' ⟨hS, m, r, hG⟩
  subst hK
  exact wpS_pure (h m st' hG hS)
 case step =>
  rintro F hF x c st' ⟨hS, i, j, out, mg, hM, hi, hi2, hj, hj2, hr⟩
  clear e1 e2 m0
  subst hF
  dsimp only
  refine ts_for (fun y c st'' => st'' = st' ∧ HiI key a b y (i + j) c) (fun c st'' => st'' = st' ∧ (LoD key a b c ∨ HiI key a b 1 (i + j) c)) ?astep ?afin ⟨rfl, i, j, _, _, hM, hi, hi2, hj, hj2, by exact Nat.le_refl _⟩ ?apost
  case afin =>
   rintro c st'' ⟨rfl, i', j', out', ⟨p, q⟩, hM', hi', hi2', hj', hj2', hr'⟩
   exact ⟨rfl, .inr ⟨i', j', out', _, hM', hi', hi2', hj', hj2', by exact Nat.le_of_not_lt fun hg => lin [(a.size), (b.size), i, j, i', j', (max 0 (a.size + b.size))] [(1, (.v 2), (.v 0)), (1, (.v 3), (.v 1)), (1, (.a (.n 0) (.n 1)), (.v 4)), (1, (.a (.n 1) (.n 1)), (.v 5)), (1, (.a (.a (.v 4) (.v 5)) (.v 6)), (.a (.v 2) (.v 3))), (1, (.a (.v 0) (.v 1)), (.v 6))] rfl hi2 hj2 hi' hj' hr' (Nat.le_max_right (0) (a.size + b.size))⟩⟩
  case astep =>
   rintro F hF y c st'' ⟨rfl, i', j', out', ⟨p, q⟩, hM', hi', hi2', hj', hj2', hr'⟩
   have hia : i' - 1 < a.size := by exact Nat.le_trans (Nat.sub_lt hi' Nat.one_pos) hi2'
   have hjb : j' - 1 < b.size := by exact Nat.lt_of_not_le fun hg => lin [(b.size), j', (j' - 1)] [(1, (.v 1), (.v 0)), (1, (.a (.v 2) (.n 1)), (.v 1)), (1, (.v 0), (.v 2))] rfl hj2' (sub_hi (Nat.le_of_not_lt fun hg => lin [j'] [(1, (.a (.n 1) (.n 1)), (.v 0)), (1, (.a (.v 0) (.n 1)), (.n 1))] rfl hj' hg)) hg
   cases hlt : O.blt (tk key b (j' - 1)) (tk key a (i' - 1)) with
   | true =>
    have hM2 := hM'.pushA sa hi' hi2' fun k h3 h4 => KeyOrd.kle_trans (ib k (j' - 1) (by exact Nat.le_of_not_lt fun hg => lin [j', (j' - 1), k] [(1, (.a (.v 2) (.n 1)), (.v 0)), (1, (.v 0), (.a (.v 1) (.n 1))), (1, (.a (.v 1) (.n 1)), (.v 2))] rfl h3 (sub_lo (j') (1)) hg) hjb) (KeyOrd.kle_of_klt hlt)
    subst hF
    refine ts_cmpB hL hb ha hjb hia (hS.kind.trans hkd) hlt ?_
    refine ts_elemB hia ?_
    refine ts_if (fun e3 => ?_) (fun e3 => ?_)
    ·simp only [beq_iff_eq] at e3
     exact wpS_pure ⟨rfl, .inl ⟨_, _, hM2.done sa sb (.inl e3)⟩⟩
    simp only [beq_iff_eq] at e3
    have hi3 : 0 < i' - 1 := Nat.pos_of_ne_zero e3
    have hr2 : i' - 1 + j' + (y + 1) ≤ i + j := by exact Nat.le_of_not_lt fun hg => lin [i, j, i', j', y, (i' - 1)] [(1, (.a (.a (.v 2) (.v 3)) (.v 4)), (.a (.v 0) (.v 1))), (1, (.a (.v 5) (.n 1)), (.v 2)), (1, (.a (.a (.v 0) (.v 1)) (.n 1)), (.a (.a (.v 5) (.v 3)) (.a (.v 4) (.n 1))))] rfl hr' (sub_hi (Nat.le_of_not_lt fun hg => lin [i'] [(1, (.a (.n 0) (.n 1)), (.v 0)), (1, (.a (.v 0) (.n 1)), (.n 1))] rfl hi' hg)) hg
    have hr3 : i' - 1 + j' + 1 ≤ i + j := by exact Nat.lt_of_le_of_lt (Nat.le_add_right _ _) hr2
    exact ts_if (fun _ => wpS_pure ⟨rfl, .inr ⟨_, _, _, _, hM2, hi3, Nat.le_of_lt hia, hj', hj2', hr3⟩⟩) fun _ => wpS_pure ⟨rfl, _, _, _, _, hM2, hi3, Nat.le_of_lt hia, hj', hj2', hr2⟩
   | false =>
    have hM2 := hM'.pushB sb (by exact Nat.le_of_lt hj') hj2' fun k h3 h4 => KeyOrd.kle_trans (ia k (i' - 1) (by exact Nat.le_of_not_lt fun hg => lin [i', (i' - 1), k] [(1, (.a (.v 2) (.n 1)), (.v 0)), (1, (.v 0), (.a (.v 1) (.n 1))), (1, (.a (.v 1) (.n 1)), (.v 2))] rfl h3 (sub_lo (i') (1)) hg) hia) (show O.kle _ _ from hlt)
    subst hF
    refine ts_cmpB hL hb ha hjb hia (hS.kind.trans hkd) hlt ?_
    refine ts_elemB hjb ?_
    refine ts_if (fun e3 => ?_) (fun e3 => ?_)
    ·simp only [beq_iff_eq] at e3
     exact wpS_pure ⟨rfl, .inl ⟨_, _, hM2.first sa sb e3 h1⟩⟩
    simp only [beq_iff_eq] at e3
    have hj3 : 1 < j' - 1 := by exact Nat.lt_of_not_le fun hg => Or.elim (Nat.lt_or_gt_of_ne e3) (fun hs0 => lin [j', (j' - 1)] [(1, (.a (.n 1) (.n 1)), (.v 0)), (1, (.v 0), (.a (.v 1) (.n 1))), (1, (.a (.v 1) (.n 1)), (.n 1))] rfl hj' (sub_lo (j') (1)) hs0) (fun hs0 => lin [(j' - 1)] [(1, (.v 0), (.n 1)), (1, (.a (.n 1) (.n 1)), (.v 0))] rfl hg hs0)
    have hr2 : i' + (j' - 1) + (y + 1) ≤ i + j := by exact Nat.le_of_not_lt fun hg => lin [i, j, i', j', y, (j' - 1)] [(1, (.a (.a (.v 2) (.v 3)) (.v 4)), (.a (.v 0) (.v 1))), (1, (.a (.v 5) (.n 1)), (.v 3)), (1, (.a (.a (.v 0) (.v 1)) (.n 1)), (.a (.a (.v 2) (.v 5)) (.a (.v 4) (.n 1))))] rfl hr' (sub_hi (Nat.le_of_not_lt fun hg => lin [j'] [(1, (.a (.n 1) (.n 1)), (.v 0)), (1, (.a (.v 0) (.n 1)), (.n 1))] rfl hj' hg)) hg
    have hr3 : i' + (j' - 1) + 1 ≤ i + j := by exact Nat.lt_of_le_of_lt (Nat.le_add_right _ _) hr2
    exact ts_if (fun _ => wpS_pure ⟨rfl, .inr ⟨_, _, _, _, hM2, hi', hi2', hj3, Nat.le_of_lt hjb, hr3⟩⟩) fun _ => wpS_pure ⟨rfl, _, _, _, _, hM2, hi', hi2', hj3, Nat.le_of_lt hjb, hr2⟩
  case apost =>
   rintro K hK c st'' ⟨rfl, ⟨m, r, hG⟩ | ⟨i', j', out', ⟨p, q⟩, hM', hi', hi2', hj', hj2', hr'⟩⟩
   ·subst hK
    exact wpS_pure ⟨hS, m, _, hG⟩
   subst hK
   dsimp only
   refine ts_ruleB ?_
   refine ts_for (fun y c st3 => Same st st3 ∧ HiI key a b 1 (i + j) c) (fun c st3 => Same st st3 ∧ (LoD key a b c ∨ HiI key a b 1 (i + j) c)) ?gstep ?gfin ⟨hS, i', j', _, _, hM', hi', hi2', hj', hj2', hr'⟩ ?gpost
   case gfin =>
    rintro c st3 ⟨hS3, i', j', out', ⟨g, p, q⟩, hM', hi', hi2', hj', hj2', hr'⟩
    exact ⟨hS3, .inr ⟨i', j', out', _, hM', hi', hi2', hj', hj2', hr'⟩⟩
   case gpost =>
    rintro K hK c st3 ⟨hS3, ⟨m, r, hG⟩ | ⟨i', j', out', ⟨g, p, q⟩, hM', hi', hi2', hj', hj2', hr'⟩⟩
    ·subst hK
     exact wpS_pure ⟨hS3, m, _, hG⟩
    subst hK
    dsimp only
    refine ts_modB ?_
    exact wpS_pure ⟨hS3.trans ⟨rfl, rfl, rfl, rfl⟩, _, _, _, _, hM', hi', hi2', hj', hj2', by exact Nat.le_of_not_lt fun hg => lin [(a.size), (b.size), i, j, x, i', j'] [(1, (.a (.a (.v 2) (.v 3)) (.v 4)), (.a (.v 0) (.v 1))), (1, (.a (.a (.v 5) (.v 6)) (.n 1)), (.a (.v 2) (.v 3))), (1, (.a (.a (.v 0) (.v 1)) (.n 1)), (.a (.a (.v 5) (.v 6)) (.a (.v 4) (.n 1))))] rfl hr hr' hg⟩
   case gstep =>
    clear hM' hi' hj' hr' hi2' hj2' hr hM hi hi2 hj hj2 hS
    generalize i + j = N
    rintro F hF y c st3 ⟨hS3, i', j', out', ⟨g, p, q⟩, hM', hi', hi2', hj', hj2', hr'⟩
    have hjb : j' - 1 < b.size := by exact Nat.lt_of_not_le fun hg => lin [(b.size), j', (j' - 1)] [(1, (.v 1), (.v 0)), (1, (.a (.v 2) (.n 1)), (.v 1)), (1, (.v 0), (.v 2))] rfl hj2' (sub_hi (Nat.le_of_not_lt fun hg => lin [j'] [(1, (.a (.n 1) (.n 1)), (.v 0)), (1, (.a (.v 0) (.n 1)), (.n 1))] rfl hj' hg)) hg
    have hS4 : ∀ g', Same st (SortSt.mk' (kindOf st3) (arrOf st3) (pendingOf st3) g' (failedOf st3)) := fun g' => hS3.trans ⟨rfl, rfl, rfl, rfl⟩
    subst hF
    dsimp only
    refine' ts_ifG g (g - 1) ?he ?ht ?_
    case he => apply Eq.refl
    case ht => exact rfl
    intro g'
    refine ts_modB ?_
    refine ts_elemB hjb ?_
    refine ts_bindK fun K hK => ts_gallop (left := false) (n := i') (hint := i' - 1) hL (hb _ (by simp)) ha (by exact Nat.le_of_not_lt fun hg => lin [(a.size), i'] [(1, (.v 1), (.v 0)), (1, (.a (.v 0) (.n 1)), (.a (.n 0) (.v 1)))] rfl hi2' hg) (by exact Nat.sub_lt hi' Nat.one_pos) (hS3.kind.trans hkd) (bey_mono (hSin _ (by exact Nat.le_of_not_lt fun hg => lin [(a.size), i'] [(1, (.v 1), (.v 0)), (1, (.a (.v 0) (.n 1)), (.a (.n 0) (.v 1)))] rfl hi2' hg))) fun k hk1 hk2 hk3 => ?_
    have hk2' : ∀ u, u < k → u < a.size → O.kle (tk key a u) (tk key b (j' - 1)) := fun u h3 h4 => by
     have := bey_right.1 (hk2 u h3)
     rwa [Nat.zero_add, ← tk_get (key := key) hjb] at this
    have hk3' : ∀ u, k ≤ u → u < i' → ∀ v, v < j' → v < b.size → O.kle (tk key b v) (tk key a u) := fun u h3 h4 v h5 h6 => by
     have := bey_right.2 (hk3 u h3 h4)
     rw [Nat.zero_add, ← tk_get (key := key) hjb] at this
     exact KeyOrd.kle_trans (ib v (j' - 1) (by exact Nat.le_of_not_lt fun hg => lin [j', (j' - 1), v] [(1, (.a (.v 2) (.n 1)), (.v 0)), (1, (.v 0), (.a (.v 1) (.n 1))), (1, (.a (.v 1) (.n 1)), (.v 2))] rfl h5 (sub_lo (j') (1)) hg) hjb) (KeyOrd.kle_of_klt this)
    clear hk2 hk3
    subst hK
    dsimp only
    generalize hd1 : i' - k = d1
    refine' ts_ifF (fun i2 o2 => MidH key a b o2 i2 j' ∧ 0 < i2 ∧ i2 ≤ a.size ∧ i2 + j' + 1 ≤ N ∧ ∀ u, u < i2 → u < a.size → O.kle (tk key a u) (tk key b (j' - 1))) i' out' ?he ?_ (fun hk K => ?_) (fun hk => ⟨hM', hi', hi2', hr', fun u h3 h4 => hk2' u (Nat.lt_of_lt_of_le h3 (Nat.le_of_sub_eq_zero (hd1.trans (Nat.eq_zero_of_not_pos hk)))) h4⟩)
    case he => apply Eq.refl
    ·clear hM' hi' hi2' hr' hk1 hk2' hk3' hd1
     rintro i2 o2 ⟨hMz, hz, hz2, hzr, hzb⟩
     refine ts_elemB hjb ?_
     refine ts_if (fun e5 => ?_) (fun e5 => ?_)
     ·simp only [beq_iff_eq] at e5
      exact wpS_pure ⟨hS4 _, .inl ⟨_, _, (hMz.pushB sb (by exact Nat.le_of_lt hj') hj2' hzb).first sa sb e5 h1⟩⟩
     refine ts_elemB (by exact Nat.le_trans (Nat.sub_lt hz Nat.one_pos) hz2 : i2 - 1 < a.size) ?_
     refine ts_bindK fun K hK => ts_gallop (left := true) (n := j' - 1) (hint := j' - 1 - 1) hL (ha _ (by simp)) hb (by exact Nat.le_of_not_lt fun hg => lin [(b.size), j', (j' - 1)] [(1, (.v 1), (.v 0)), (1, (.a (.v 2) (.n 1)), (.v 1)), (1, (.a (.v 0) (.n 1)), (.a (.n 0) (.v 2)))] rfl hj2' (sub_hi (Nat.le_of_not_lt fun hg => lin [j'] [(1, (.a (.n 1) (.n 1)), (.v 0)), (1, (.a (.v 0) (.n 1)), (.n 1))] rfl hj' hg)) hg) (by exact Nat.lt_of_not_le fun hg => lin [(j' - 1), (j' - 1 - 1)] [(1, (.a (.v 1) (.n 1)), (.v 0)), (1, (.v 0), (.v 1))] rfl (sub_hi (Nat.le_of_not_lt fun hg => lin [j', (j' - 1)] [(1, (.a (.n 1) (.n 1)), (.v 0)), (1, (.v 0), (.a (.v 1) (.n 1))), (1, (.a (.v 1) (.n 1)), (.n 1))] rfl hj' (sub_lo (j') (1)) hg)) hg) (hS3.kind.trans hkd) (bey_mono (hSib _ (by exact Nat.le_of_not_lt fun hg => lin [(b.size), j', (j' - 1)] [(1, (.v 1), (.v 0)), (1, (.a (.v 2) (.n 1)), (.v 1)), (1, (.a (.v 0) (.n 1)), (.a (.n 0) (.v 2)))] rfl hj2' (sub_hi (Nat.le_of_not_lt fun hg => lin [j'] [(1, (.a (.n 1) (.n 1)), (.v 0)), (1, (.a (.v 0) (.n 1)), (.n 1))] rfl hj' hg)) hg))) fun k2 l1 l2 l3 => ?_
     have hz' : i2 - 1 < a.size := by exact Nat.le_trans (Nat.sub_lt hz Nat.one_pos) hz2
     have hM2 := hMz.pushB sb (by exact Nat.le_of_lt hj') hj2' hzb
     simp only [beq_iff_eq] at e5
     have l2' := fun u (h3 : u < k2) => bey_left.1 (l2 u h3)
     have l3' := fun u (h3 : k2 ≤ u) (h4 : u < j' - 1) => bey_left.2 (l3 u h3 h4)
     simp only [Nat.zero_add] at l2' l3'
     rw [← tk_get (key := key) hz'] at l2' l3'
     have hMm := hM2.appB sb l1 (by exact Nat.le_of_lt hjb) fun u h3 h4 v h5 h6 => KeyOrd.kle_trans (ia v _ (by exact Nat.le_of_not_lt fun hg => lin [i2, (i2 - 1), v] [(1, (.a (.v 2) (.n 1)), (.v 0)), (1, (.v 0), (.a (.v 1) (.n 1))), (1, (.a (.v 1) (.n 1)), (.v 2))] rfl h5 (sub_lo (i2) (1)) hg) hz') (l3' u h3 h4)
     have hv : ∀ v, v < k2 → v < b.size → O.kle (tk key b v) (tk key a (i2 - 1)) := fun v h4 h5 => KeyOrd.kle_of_klt (l2' v h4)
     have hj1 : 1 < j' - 1 := by exact Nat.lt_of_not_le fun hg => Or.elim (Nat.lt_or_gt_of_ne e5) (fun hs0 => lin [j', (j' - 1)] [(1, (.a (.n 1) (.n 1)), (.v 0)), (1, (.v 0), (.a (.v 1) (.n 1))), (1, (.a (.v 1) (.n 1)), (.n 1))] rfl hj' (sub_lo (j') (1)) hs0) (fun hs0 => lin [(j' - 1)] [(1, (.v 0), (.n 1)), (1, (.a (.n 1) (.n 1)), (.v 0))] rfl hg hs0)
     have hj12 : j' - 1 ≤ b.size := by exact Nat.le_of_lt hjb
     have hm1 : i2 - 1 + (j' - 1) + 1 ≤ N := by exact Nat.le_of_not_lt fun hg => lin [j', (j' - 1), i2, N, (i2 - 1)] [(1, (.a (.a (.v 2) (.v 0)) (.n 1)), (.v 3)), (1, (.a (.v 1) (.n 1)), (.v 0)), (1, (.a (.v 4) (.n 1)), (.v 2)), (1, (.a (.v 3) (.n 1)), (.a (.a (.v 4) (.v 1)) (.n 1)))] rfl hzr (sub_hi (Nat.le_of_not_lt fun hg => lin [j'] [(1, (.a (.n 1) (.n 1)), (.v 0)), (1, (.a (.v 0) (.n 1)), (.n 1))] rfl hj' hg)) (sub_hi (Nat.le_of_not_lt fun hg => lin [i2] [(1, (.a (.n 0) (.n 1)), (.v 0)), (1, (.a (.v 0) (.n 1)), (.n 1))] rfl hz hg)) hg
     clear l2 l3 l2' l3' e5
     subst hK
     dsimp only
     generalize o2.push b[j' - 1] = o1 at hM2 hMm ⊢
     generalize j' - 1 = j1 at hM2 hMm hj1 hj12 hm1 l1 ⊢
     generalize hd2 : j1 - k2 = d2
     refine' ts_ifF (fun j2 o3 => MidH key a b o3 i2 j2 ∧ 1 < j2 ∧ j2 ≤ b.size ∧ i2 - 1 + j2 + 1 ≤ N ∧ ∀ v, v < j2 → v < b.size → O.kle (tk key b v) (tk key a (i2 - 1))) j1 o1 ?he ?_ (fun hk K => ?_) (fun hk => ⟨hM2, hj1, hj12, hm1, fun v h4 h5 => hv v (Nat.lt_of_lt_of_le h4 (Nat.le_of_sub_eq_zero (hd2.trans (Nat.eq_zero_of_not_pos hk)))) h5⟩)
     case he => apply Eq.refl
     ·clear hM2 hv hMm hj1 hj12 hm1 l1 hd2
      rintro j2 o3 ⟨hM3, hj3, hj4, hm2, hw⟩
      have hM5 := hM3.pushA sa hz hz2 hw
      refine ts_elemB hz' ?_
      refine ts_if (fun e7 => ?_) (fun e7 => ?_)
      ·simp only [beq_iff_eq] at e7
       exact wpS_pure ⟨hS4 _, .inl ⟨_, _, hM5.done sa sb (.inl e7)⟩⟩
      simp only [beq_iff_eq] at e7
      have hi5 : 0 < i2 - 1 := Nat.pos_of_ne_zero e7
      exact ts_if (fun _ => wpS_pure ⟨hS4 _, .inr ⟨_, _, _, _, hM5, hi5, Nat.le_of_lt hz', hj3, hj4, hm2⟩⟩) fun _ => wpS_pure ⟨hS4 _, _, _, _, _, hM5, hi5, Nat.le_of_lt hz', hj3, hj4, hm2⟩
     ·refine ts_if (fun e6 => ?_) (fun e6 => ?_)
      ·simp only [beq_iff_eq] at e6
       exact wpS_pure ⟨hS4 _, .inl ⟨_, _, hMm.first sa sb e6 h1⟩⟩
      refine ts_if (fun e9 => ?_) (fun e9 => ?_)
      ·simp only [beq_iff_eq] at e9
       exact wpS_pure ⟨hS4 _, .inl ⟨_, _, hMm.done sa sb (.inr e9)⟩⟩
      simp only [beq_iff_eq] at e6 e9
      exact K k2 _ ⟨hMm, by exact Nat.lt_of_not_le fun hg => Or.elim (Nat.lt_or_gt_of_ne e6) (fun hs0 => Or.elim (Nat.lt_or_gt_of_ne e9) (fun hs1 => lin [k2] [(1, (.a (.v 0) (.n 1)), (.n 0))] rfl hs1) (fun hs1 => lin [k2] [(1, (.a (.v 0) (.n 1)), (.n 1)), (1, (.a (.n 0) (.n 1)), (.v 0))] rfl hs0 hs1)) (fun hs0 => lin [k2] [(1, (.v 0), (.n 1)), (1, (.a (.n 1) (.n 1)), (.v 0))] rfl hg hs0), by exact Nat.le_trans l1 hj12, by exact Nat.le_of_not_lt fun hg => lin [N, (i2 - 1), j1, k2] [(1, (.a (.a (.v 1) (.v 2)) (.n 1)), (.v 0)), (1, (.v 3), (.v 2)), (1, (.a (.v 0) (.n 1)), (.a (.a (.v 1) (.v 3)) (.n 1)))] rfl hm1 l1 hg, hv⟩
    ·have hMz := hM'.appA sa hk1 hi2' hk3'
     refine ts_if (fun e3 => ?_) (fun e3 => ?_)
     ·simp only [beq_iff_eq] at e3
      exact wpS_pure ⟨hS4 _, .inl ⟨_, _, hMz.done sa sb (.inl e3)⟩⟩
     simp only [beq_iff_eq] at e3
     exact K k _ ⟨hMz, by exact Nat.pos_of_ne_zero e3, by exact Nat.le_trans hk1 hi2', by exact Nat.le_of_not_lt fun hg => lin [i', j', N, k] [(1, (.a (.a (.v 0) (.v 1)) (.n 1)), (.v 2)), (1, (.v 3), (.v 0)), (1, (.a (.v 2) (.n 1)), (.a (.a (.v 3) (.v 1)) (.n 1)))] rfl hr' hk1 hg, hk2'⟩
end walk
end Mine
end
noncomputable section
namespace Mine
open PySem PyProof.Rows
section pure
variable {O : KeyOrd} {key : Keyed → O.α}
theorem fold_set (o : Nat) : ∀ (l : List Keyed) (d : Nat) (arr : Array Keyed), o + d + l.length ≤ arr.size →
  ((l.zipIdx d).foldl (fun a (pj : Keyed × Nat) => a.setIfInBounds (o + pj.2) pj.1) arr).toList = arr.toList.take (o + d) ++ (l ++ arr.toList.drop (o + d + l.length))
 | [], d, arr, h => by simp
 | x :: l, d, arr, h => by
  rw [List.zipIdx_cons, List.foldl_cons]
  simp only [List.length_cons] at h
  rw [fold_set o l (d + 1) _ (by rw [Array.size_setIfInBounds]; exact Nat.le_of_not_lt fun hg => lin [o, d, (l.length), (arr.size)] [(1, (.a (.a (.v 0) (.v 1)) (.a (.v 2) (.n 1))), (.v 3)), (1, (.a (.v 3) (.n 1)), (.a (.a (.v 0) (.a (.v 1) (.n 1))) (.v 2)))] rfl h hg)]
  rw [Array.toList_setIfInBounds]
  have hl : arr.toList.length = arr.size := Array.length_toList
  rw [List.take_set, List.drop_set_of_lt (by exact Nat.le_add_right _ _), show o + (d + 1) = o + d + 1 by exact rfl]
  rw [List.take_add_one, List.getElem?_eq_getElem (by exact Nat.lt_of_le_of_lt (Nat.le_add_right _ _) h), List.set_append]
  simp only [Option.toList_some, List.length_take, List.length_cons]
  rw [if_neg (by exact fun hg => lin [o, d, (min (o + d) arr.toList.length)] [(1, (.v 2), (.a (.v 0) (.v 1))), (1, (.a (.a (.v 0) (.v 1)) (.n 1)), (.v 2))] rfl (Nat.min_le_left (o + d) (arr.toList.length)) hg), show o + d - min (o + d) arr.toList.length = 0 by exact Nat.le_antisymm (Nat.le_of_not_lt fun hg => Or.elim (sub_or (o + d) (min (o + d) arr.toList.length)) (fun hs0 => Or.elim (min_or (o + d) (arr.toList.length)) (fun hs1 => lin [o, d, (o + d - min (o + d) arr.toList.length), (min (o + d) arr.toList.length)] [(1, (.a (.v 2) (.v 3)), (.a (.v 0) (.v 1))), (1, (.a (.n 0) (.n 1)), (.v 2)), (1, (.a (.v 0) (.v 1)), (.v 3))] rfl (sub_hi (Nat.le_of_not_lt fun hg => lin [o, d, (min (o + d) arr.toList.length)] [(1, (.v 2), (.a (.v 0) (.v 1))), (1, (.a (.a (.v 0) (.v 1)) (.n 1)), (.v 2))] rfl (Nat.min_le_left (o + d) (arr.toList.length)) hg)) hg hs1) (fun hs1 => lin [o, d, (l.length), (arr.size), (o + d - min (o + d) arr.toList.length), (min (o + d) arr.toList.length)] [(1, (.a (.a (.v 0) (.v 1)) (.a (.v 2) (.n 1))), (.v 3)), (1, (.a (.v 4) (.v 5)), (.a (.v 0) (.v 1))), (1, (.a (.n 0) (.n 1)), (.v 4)), (1, (.v 3), (.v 5))] rfl h (sub_hi (Nat.le_of_not_lt fun hg => lin [o, d, (min (o + d) arr.toList.length)] [(1, (.v 2), (.a (.v 0) (.v 1))), (1, (.a (.a (.v 0) (.v 1)) (.n 1)), (.v 2))] rfl (Nat.min_le_left (o + d) (arr.toList.length)) hg)) hg hs1)) (fun hs0 => lin [(o + d - min (o + d) arr.toList.length)] [(1, (.a (.n 0) (.n 1)), (.v 0)), (1, (.v 0), (.n 0))] rfl hg (Nat.le_of_eq hs0))) (Nat.le_of_not_lt fun hg => lin [o, d, (o + d - min (o + d) arr.toList.length), (min (o + d) arr.toList.length)] [(1, (.v 3), (.a (.v 0) (.v 1))), (1, (.a (.v 0) (.v 1)), (.a (.v 2) (.v 3))), (1, (.a (.v 2) (.n 1)), (.n 0))] rfl (Nat.min_le_left (o + d) (arr.toList.length)) (sub_lo (o + d) (min (o + d) arr.toList.length)) hg)]
  simp only [List.set_cons_zero, List.append_assoc, List.cons_append, List.nil_append]
  rw [show o + d + 1 + l.length = o + d + (l.length + 1) by exact Nat.add_right_comm _ _ _]
theorem mid_get {arr arr' : Array Keyed} {M : List Keyed} {i j : Nat} (e : arr'.toList = arr.toList.take i ++ (M ++ arr.toList.drop j)) (hij : i ≤ j) (hj : j ≤ arr.size) (hM : M.length = j - i) (p : Nat) :
  arr'[p]? = if p < i then arr[p]? else if p < j then M[p - i]? else arr[p]? := by
 have hl : arr.toList.length = arr.size := Array.length_toList
 rw [← Array.getElem?_toList, e, List.getElem?_append]
 simp only [List.length_take, hl]
 rw [show min i arr.size = i by exact Nat.le_antisymm (Nat.le_of_not_lt fun hg => lin [i, (min i arr.size)] [(1, (.v 1), (.v 0)), (1, (.a (.v 0) (.n 1)), (.v 1))] rfl (Nat.min_le_left (i) (arr.size)) hg) (Nat.le_of_not_lt fun hg => Or.elim (sub_or (j) (i)) (fun hs0 => Or.elim (min_or (i) (arr.size)) (fun hs1 => lin [i, (min i arr.size)] [(1, (.a (.v 1) (.n 1)), (.v 0)), (1, (.v 0), (.v 1))] rfl hg hs1) (fun hs1 => lin [i, j, (arr.size), (min i arr.size)] [(1, (.v 0), (.v 1)), (1, (.v 1), (.v 2)), (1, (.a (.v 3) (.n 1)), (.v 0)), (1, (.v 2), (.v 3))] rfl hij hj hg hs1)) (fun hs0 => Or.elim (min_or (i) (arr.size)) (fun hs1 => lin [i, (min i arr.size)] [(1, (.a (.v 1) (.n 1)), (.v 0)), (1, (.v 0), (.v 1))] rfl hg hs1) (fun hs1 => lin [i, j, (arr.size), (min i arr.size)] [(1, (.v 0), (.v 1)), (1, (.v 1), (.v 2)), (1, (.a (.v 3) (.n 1)), (.v 0)), (1, (.v 2), (.v 3))] rfl hij hj hg hs1)))]
 split
 ·rename_i h
  rw [List.getElem?_take_of_lt h, Array.getElem?_toList]
 ·rw [List.getElem?_append, hM]
  split
  ·rename_i h h'
   rw [if_pos (by exact Nat.lt_of_not_le fun hg => lin [i, j, (j - i), p, (p - i)] [(1, (.a (.v 4) (.n 1)), (.v 2)), (1, (.a (.v 2) (.v 0)), (.v 1)), (1, (.v 3), (.a (.v 4) (.v 0))), (1, (.v 1), (.v 3))] rfl h' (sub_hi (Nat.le_of_not_lt fun hg => lin [i, j] [(1, (.v 0), (.v 1)), (1, (.a (.v 1) (.n 1)), (.v 0))] rfl hij hg)) (sub_lo (p) (i)) hg)]
  ·rename_i h h'
   rw [if_neg (by exact fun hg => lin [i, j, (j - i), p, (p - i)] [(1, (.v 2), (.v 4)), (1, (.v 1), (.a (.v 2) (.v 0))), (1, (.a (.v 4) (.v 0)), (.v 3)), (1, (.a (.v 3) (.n 1)), (.v 1))] rfl (Nat.le_of_not_lt h') (sub_lo (j) (i)) (sub_hi (Nat.le_of_not_lt fun hg => lin [i, p] [(1, (.v 0), (.v 1)), (1, (.a (.v 1) (.n 1)), (.v 0))] rfl (Nat.le_of_not_lt h) hg)) hg), List.getElem?_drop, Array.getElem?_toList]
   congr 1
   exact Nat.le_antisymm (Nat.le_of_not_lt fun hg => lin [i, j, (j - i), p, (p - i), (p - i - (j - i))] [(1, (.v 1), (.a (.v 2) (.v 0))), (1, (.a (.v 4) (.v 0)), (.v 3)), (1, (.a (.v 5) (.v 2)), (.v 4)), (1, (.a (.v 3) (.n 1)), (.a (.v 1) (.v 5)))] rfl (sub_lo (j) (i)) (sub_hi (Nat.le_of_not_lt fun hg => lin [i, p] [(1, (.v 0), (.v 1)), (1, (.a (.v 1) (.n 1)), (.v 0))] rfl (Nat.le_of_not_lt h) hg)) (sub_hi (Nat.le_of_not_lt fun hg => lin [(j - i), (p - i)] [(1, (.v 0), (.v 1)), (1, (.a (.v 1) (.n 1)), (.v 0))] rfl (Nat.le_of_not_lt h') hg)) hg) (Nat.le_of_not_lt fun hg => lin [i, j, (j - i), p, (p - i), (p - i - (j - i))] [(1, (.a (.v 2) (.v 0)), (.v 1)), (1, (.v 3), (.a (.v 4) (.v 0))), (1, (.v 4), (.a (.v 5) (.v 2))), (1, (.a (.a (.v 1) (.v 5)) (.n 1)), (.v 3))] rfl (sub_hi (Nat.le_of_not_lt fun hg => lin [i, j] [(1, (.v 0), (.v 1)), (1, (.a (.v 1) (.n 1)), (.v 0))] rfl hij hg)) (sub_lo (p) (i)) (sub_lo (p - i) (j - i)) hg)
theorem cut_three {arr : Array Keyed} {i j k : Nat} (hij : i ≤ j) (hjk : j ≤ k) : arr.toList = arr.toList.take i ++ ((arr.extract i j).toList ++ (arr.extract j k).toList ++ arr.toList.drop k) := by
 have h1 := take_ext (arr := arr) hij
 have h2 := take_ext (arr := arr) hjk
 rw [List.append_assoc, ← List.append_assoc, ← h1, ← List.append_assoc, ← h2, List.take_append_drop]
theorem tk_ext {arr : Array Keyed} {i j p : Nat} (hp : i + p < j) (hj : j ≤ arr.size) : tk key (arr.extract i j) p = tk key arr (i + p) := by
 apply tk_congr
 rw [Array.getElem?_extract, if_pos (by exact Nat.lt_of_not_le fun hg => Or.elim (sub_or (min j arr.size) (i)) (fun hs0 => Or.elim (min_or (j) (arr.size)) (fun hs1 => lin [i, p, j, (min j arr.size - i), (min j arr.size)] [(1, (.a (.a (.v 0) (.v 1)) (.n 1)), (.v 2)), (1, (.v 4), (.a (.v 3) (.v 0))), (1, (.v 3), (.v 1)), (1, (.v 2), (.v 4))] rfl hp (sub_lo (min j arr.size) (i)) hg hs1) (fun hs1 => lin [i, p, j, (arr.size), (min j arr.size - i), (min j arr.size)] [(1, (.a (.a (.v 0) (.v 1)) (.n 1)), (.v 2)), (1, (.v 2), (.v 3)), (1, (.v 5), (.a (.v 4) (.v 0))), (1, (.v 4), (.v 1)), (1, (.v 3), (.v 5))] rfl hp hj (sub_lo (min j arr.size) (i)) hg hs1)) (fun hs0 => Or.elim (min_or (j) (arr.size)) (fun hs1 => lin [i, p, j, (min j arr.size - i), (min j arr.size)] [(1, (.a (.a (.v 0) (.v 1)) (.n 1)), (.v 2)), (1, (.v 4), (.a (.v 3) (.v 0))), (1, (.v 3), (.v 1)), (1, (.v 2), (.v 4))] rfl hp (sub_lo (min j arr.size) (i)) hg hs1) (fun hs1 => lin [i, p, j, (arr.size), (min j arr.size - i), (min j arr.size)] [(1, (.a (.a (.v 0) (.v 1)) (.n 1)), (.v 2)), (1, (.v 2), (.v 3)), (1, (.v 5), (.a (.v 4) (.v 0))), (1, (.v 4), (.v 1)), (1, (.v 3), (.v 5))] rfl hp hj (sub_lo (min j arr.size) (i)) hg hs1)))]
end pure
section walk
variable {prog : Program} {w : World} {A : Around} {E : Value → Shared → Prop} {s : Shared} {kd : SortKind} {O : KeyOrd} {key : Keyed → O.α} {a₀ : Array Keyed}
theorem ts_set {st st' : SortSt} {Q : PUnit → SortSt → Prop} (h : Q ⟨⟩ st') : wpS (model prog w) A E s (set st' : StateT SortSt Sem PUnit) Q st := by
 unfold wpS; rw [StateT.run_set]; exact wpAny_pure ⟨rfl, h⟩
theorem ts_mergeAt {st : SortSt} {i : Nat} {p1 p2 : List (Nat × Nat × Nat)} {sa na pw sb nb pw2 : Nat} {Q : Bool → SortSt → Prop} (hL : LtOk prog w A E s kd O key a₀) (hB : SB kd a₀ st)
  (hp : (pendingOf st).toList = p1 ++ (sa, na, pw) :: (sb, nb, pw2) :: p2) (hi : i = p1.length) (hsb : sb = sa + na) (hna : 0 < na) (hnb : 0 < nb) (hsz : sb + nb ≤ a₀.size)
  (h1 : SIn key (arrOf st) sa sb) (h2 : SIn key (arrOf st) sb (sb + nb))
  (h : ∀ st', SB kd a₀ st' → (pendingOf st').toList = p1 ++ (sa, na + nb, pw) :: p2 → (∀ k, k < sa ∨ sb + nb ≤ k → (arrOf st')[k]? = (arrOf st)[k]?) → SIn key (arrOf st') sa (sb + nb) → Q true st') :
  wpS (model prog w) A E s (mergeAt' i) Q st := by
 have hsize := hB.size
 have hmem : ∀ x ∈ (arrOf st).toList, x ∈ a₀.toList := fun x hx => (Array.perm_iff_toList_perm.mp hB.perm).mem_iff.mp hx
 have q1 : (pendingOf st)[i]? = some (sa, na, pw) := by
  rw [← Array.getElem?_toList, hp, hi, List.getElem?_append_right (Nat.le_refl _)]; simp
 have q2 : (pendingOf st)[i + 1]? = some (sb, nb, pw2) := by
  rw [← Array.getElem?_toList, hp, hi, List.getElem?_append_right (by exact Nat.le_add_right _ _)]; simp
 have hpend : (((pendingOf st).setIfInBounds i (sa, na + nb, pw)).eraseIdxIfInBounds (i + 1)).toList = p1 ++ (sa, na + nb, pw) :: p2 := by
  rw [Array.toList_eraseIdxIfInBounds, Array.toList_setIfInBounds, hp, hi, List.set_append_right _ _ (Nat.le_refl _), List.eraseIdx_append_of_length_le (by exact Nat.le_add_right _ _)]
  simp
 unfold mergeAt'
 refine ts_getB ?_
 dsimp only
 rw [q1, q2]
 dsimp only
 refine wpS_bind (ts_set ?_)
 have hsbs : sb < (arrOf st).size := by exact Nat.lt_of_not_le fun hg => lin [sb, nb, (a₀.size), ((arrOf st).size)] [(1, (.a (.n 0) (.n 1)), (.v 1)), (1, (.a (.v 0) (.v 1)), (.v 2)), (1, (.v 2), (.v 3)), (1, (.v 3), (.v 0))] rfl hnb hsz (Nat.le_of_eq (Eq.symm hsize)) hg
 have bn1 : sa + na ≤ (arrOf st).size := by exact Nat.le_of_not_lt fun hg => lin [sb, sa, na, nb, (a₀.size), ((arrOf st).size)] [(1, (.a (.v 1) (.v 2)), (.v 0)), (1, (.a (.n 0) (.n 1)), (.v 3)), (1, (.a (.v 0) (.v 3)), (.v 4)), (1, (.v 4), (.v 5)), (1, (.a (.v 5) (.n 1)), (.a (.v 1) (.v 2)))] rfl (Nat.le_of_eq (Eq.symm hsb)) hnb hsz (Nat.le_of_eq (Eq.symm hsize)) hg
 have bn2 : sb + nb ≤ (arrOf st).size := by exact Nat.le_trans hsz (Nat.le_of_eq hsize.symm)
 refine ts_elemB hsbs ?_
 refine wpS_bind (ts_gallop (left := false) (n := na) (hint := 0) hL (hmem _ (by simp)) hmem bn1 hna hB.kind (bey_mono (by rw [← hsb]; exact h1)) fun k hk1 hk2 hk3 => ?_)
 dsimp only
 have hk2' : ∀ u, sa ≤ u → u < sa + k → O.kle (tk key (arrOf st) u) (tk key (arrOf st) sb) := fun u h3 h4 => by
  have := bey_right.1 (hk2 (u - sa) (by exact Nat.lt_of_not_le fun hg => lin [sa, k, u, (u - sa)] [(1, (.a (.v 2) (.n 1)), (.a (.v 0) (.v 1))), (1, (.a (.v 3) (.v 0)), (.v 2)), (1, (.v 1), (.v 3))] rfl h4 (sub_hi (Nat.le_of_not_lt fun hg => lin [sa, u] [(1, (.v 0), (.v 1)), (1, (.a (.v 1) (.n 1)), (.v 0))] rfl h3 hg)) hg))
  rwa [show sa + (u - sa) = u by exact Nat.add_sub_cancel' h3, ← tk_get (key := key) hsbs] at this
 have hk3' : ∀ u, sa + k ≤ u → u < sb → O.klt (tk key (arrOf st) sb) (tk key (arrOf st) u) := fun u h3 h4 => by
  have := bey_right.2 (hk3 (u - sa) (by exact Nat.le_of_not_lt fun hg => lin [sa, k, u, (u - sa)] [(1, (.a (.v 0) (.v 1)), (.v 2)), (1, (.v 2), (.a (.v 3) (.v 0))), (1, (.a (.v 3) (.n 1)), (.v 1))] rfl h3 (sub_lo (u) (sa)) hg) (by exact Nat.lt_of_not_le fun hg => lin [sb, sa, na, u, (u - sa)] [(1, (.v 0), (.a (.v 1) (.v 2))), (1, (.a (.v 3) (.n 1)), (.v 0)), (1, (.a (.v 4) (.v 1)), (.v 3)), (1, (.v 2), (.v 4))] rfl (Nat.le_of_eq hsb) h4 (sub_hi (Nat.le_of_not_lt fun hg => lin [sa, k, u] [(1, (.a (.v 0) (.v 1)), (.v 2)), (1, (.a (.v 2) (.n 1)), (.v 0))] rfl h3 hg)) hg))
  rwa [show sa + (u - sa) = u by exact Nat.le_antisymm (Nat.le_of_not_lt fun hg => lin [sa, u, (u - sa)] [(1, (.a (.v 2) (.v 0)), (.v 1)), (1, (.a (.v 1) (.n 1)), (.a (.v 0) (.v 2)))] rfl (sub_hi (Nat.le_of_not_lt fun hg => lin [sa, k, u] [(1, (.a (.v 0) (.v 1)), (.v 2)), (1, (.a (.v 2) (.n 1)), (.v 0))] rfl h3 hg)) hg) (Nat.le_of_not_lt fun hg => lin [sa, u, (u - sa)] [(1, (.v 1), (.a (.v 2) (.v 0))), (1, (.a (.a (.v 0) (.v 2)) (.n 1)), (.v 1))] rfl (sub_lo (u) (sa)) hg), ← tk_get (key := key) hsbs] at this
 refine ts_if (fun e1 => ?_) (fun e1 => ?_)
 ·simp only [beq_iff_eq] at e1
  refine wpS_pure (h _ ⟨hB.perm, hB.kind, hB.failed⟩ hpend (fun _ _ => rfl) fun p q hp1 hpq hq => ?_)
  show O.kle (tk key (arrOf st) p) (tk key (arrOf st) q)
  by_cases hq2 : q < sb
  ·exact h1 p q hp1 hpq hq2
  ·by_cases hp2 : p < sb
   ·exact KeyOrd.kle_trans (hk2' p hp1 (by exact Nat.lt_of_not_le fun hg => lin [sb, sa, na, k, (na - k), p] [(1, (.v 0), (.a (.v 1) (.v 2))), (1, (.v 4), (.n 0)), (1, (.a (.v 5) (.n 1)), (.v 0)), (1, (.v 2), (.a (.v 4) (.v 3))), (1, (.a (.v 1) (.v 3)), (.v 5))] rfl (Nat.le_of_eq hsb) (Nat.le_of_eq e1) hp2 (sub_lo (na) (k)) hg)) (h2 sb q (Nat.le_refl _) (by exact Nat.le_of_not_lt hq2) hq)
   ·exact h2 p q (by exact Nat.le_of_not_lt hp2) hpq hq
 simp only [beq_iff_eq] at e1
 have hlast : sa + k + (na - k) - 1 < (arrOf st).size := by exact Nat.lt_of_not_le fun hg => lin [sb, sa, na, nb, (a₀.size), ((arrOf st).size), k, (na - k), (sa + k + (na - k) - 1)] [(1, (.a (.v 1) (.v 2)), (.v 0)), (1, (.a (.n 0) (.n 1)), (.v 3)), (1, (.a (.v 0) (.v 3)), (.v 4)), (1, (.v 4), (.v 5)), (1, (.a (.v 7) (.v 6)), (.v 2)), (1, (.a (.v 8) (.n 1)), (.a (.a (.v 1) (.v 6)) (.v 7))), (1, (.v 5), (.v 8))] rfl (Nat.le_of_eq (Eq.symm hsb)) hnb hsz (Nat.le_of_eq (Eq.symm hsize)) (sub_hi (Nat.le_of_not_lt fun hg => lin [na, k] [(1, (.v 1), (.v 0)), (1, (.a (.v 0) (.n 1)), (.v 1))] rfl hk1 hg)) (sub_hi (Nat.le_of_not_lt fun hg => lin [sa, na, k, (na - k)] [(1, (.a (.n 0) (.n 1)), (.v 1)), (1, (.v 1), (.a (.v 3) (.v 2))), (1, (.a (.a (.a (.v 0) (.v 2)) (.v 3)) (.n 1)), (.n 1))] rfl hna (sub_lo (na) (k)) hg)) hg
 have elast : sa + k + (na - k) - 1 = sb - 1 := by exact Nat.le_antisymm (Nat.le_of_not_lt fun hg => lin [sb, sa, na, k, (na - k), (sa + k + (na - k) - 1), (sb - 1)] [(1, (.a (.v 1) (.v 2)), (.v 0)), (1, (.a (.v 4) (.v 3)), (.v 2)), (1, (.a (.v 5) (.n 1)), (.a (.a (.v 1) (.v 3)) (.v 4))), (1, (.v 0), (.a (.v 6) (.n 1))), (1, (.a (.v 6) (.n 1)), (.v 5))] rfl (Nat.le_of_eq (Eq.symm hsb)) (sub_hi (Nat.le_of_not_lt fun hg => lin [na, k] [(1, (.v 1), (.v 0)), (1, (.a (.v 0) (.n 1)), (.v 1))] rfl hk1 hg)) (sub_hi (Nat.le_of_not_lt fun hg => lin [sa, na, k, (na - k)] [(1, (.a (.n 0) (.n 1)), (.v 1)), (1, (.v 1), (.a (.v 3) (.v 2))), (1, (.a (.a (.a (.v 0) (.v 2)) (.v 3)) (.n 1)), (.n 1))] rfl hna (sub_lo (na) (k)) hg)) (sub_lo (sb) (1)) hg) (Nat.le_of_not_lt fun hg => lin [sb, sa, na, k, (na - k), (sa + k + (na - k) - 1), (sb - 1)] [(1, (.v 0), (.a (.v 1) (.v 2))), (1, (.v 2), (.a (.v 4) (.v 3))), (1, (.a (.a (.v 1) (.v 3)) (.v 4)), (.a (.v 5) (.n 1))), (1, (.a (.v 6) (.n 1)), (.v 0)), (1, (.a (.v 5) (.n 1)), (.v 6))] rfl (Nat.le_of_eq hsb) (sub_lo (na) (k)) (sub_lo (sa + k + (na - k)) (1)) (sub_hi (Nat.le_of_not_lt fun hg => lin [sb, sa, na] [(1, (.a (.v 1) (.v 2)), (.v 0)), (1, (.a (.n 0) (.n 1)), (.v 2)), (1, (.a (.v 0) (.n 1)), (.n 1))] rfl (Nat.le_of_eq (Eq.symm hsb)) hna hg)) hg)
 refine ts_elemB hlast ?_
 refine wpS_bind (ts_gallop (left := true) (n := nb) (hint := nb - 1) hL (hmem _ (by simp)) hmem bn2 (by exact Nat.sub_lt hnb Nat.one_pos) hB.kind (bey_mono h2) fun k2 l1 l2 l3 => ?_)
 dsimp only
 have l2' : ∀ u, sb ≤ u → u < sb + k2 → O.klt (tk key (arrOf st) u) (tk key (arrOf st) (sb - 1)) := fun u h3 h4 => by
  have := bey_left.1 (l2 (u - sb) (by exact Nat.lt_of_not_le fun hg => lin [sb, k2, u, (u - sb)] [(1, (.a (.v 2) (.n 1)), (.a (.v 0) (.v 1))), (1, (.a (.v 3) (.v 0)), (.v 2)), (1, (.v 1), (.v 3))] rfl h4 (sub_hi (Nat.le_of_not_lt fun hg => lin [sb, u] [(1, (.v 0), (.v 1)), (1, (.a (.v 1) (.n 1)), (.v 0))] rfl h3 hg)) hg))
  rwa [show sb + (u - sb) = u by exact Nat.add_sub_cancel' h3, ← tk_get (key := key) hlast, elast] at this
 have l3' : ∀ u, sb + k2 ≤ u → u < sb + nb → O.kle (tk key (arrOf st) (sb - 1)) (tk key (arrOf st) u) := fun u h3 h4 => by
  have := bey_left.2 (l3 (u - sb) (by exact Nat.le_of_not_lt fun hg => lin [sb, k2, u, (u - sb)] [(1, (.a (.v 0) (.v 1)), (.v 2)), (1, (.v 2), (.a (.v 3) (.v 0))), (1, (.a (.v 3) (.n 1)), (.v 1))] rfl h3 (sub_lo (u) (sb)) hg) (by exact Nat.lt_of_not_le fun hg => lin [sb, nb, u, (u - sb)] [(1, (.a (.v 2) (.n 1)), (.a (.v 0) (.v 1))), (1, (.a (.v 3) (.v 0)), (.v 2)), (1, (.v 1), (.v 3))] rfl h4 (sub_hi (Nat.le_of_not_lt fun hg => lin [sb, k2, u] [(1, (.a (.v 0) (.v 1)), (.v 2)), (1, (.a (.v 2) (.n 1)), (.v 0))] rfl h3 hg)) hg))
  rwa [show sb + (u - sb) = u by exact Nat.le_antisymm (Nat.le_of_not_lt fun hg => lin [sb, u, (u - sb)] [(1, (.a (.v 2) (.v 0)), (.v 1)), (1, (.a (.v 1) (.n 1)), (.a (.v 0) (.v 2)))] rfl (sub_hi (Nat.le_of_not_lt fun hg => lin [sb, k2, u] [(1, (.a (.v 0) (.v 1)), (.v 2)), (1, (.a (.v 2) (.n 1)), (.v 0))] rfl h3 hg)) hg) (Nat.le_of_not_lt fun hg => lin [sb, u, (u - sb)] [(1, (.v 1), (.a (.v 2) (.v 0))), (1, (.a (.a (.v 0) (.v 2)) (.n 1)), (.v 1))] rfl (sub_lo (u) (sb)) hg), ← tk_get (key := key) hlast, elast] at this
 refine ts_if (fun e2 => ?_) (fun e2 => ?_)
 ·simp only [beq_iff_eq] at e2
  refine wpS_pure (h _ ⟨hB.perm, hB.kind, hB.failed⟩ hpend (fun _ _ => rfl) fun p q hp1 hpq hq => ?_)
  show O.kle (tk key (arrOf st) p) (tk key (arrOf st) q)
  by_cases hq2 : q < sb
  ·exact h1 p q hp1 hpq hq2
  ·by_cases hp2 : p < sb
   ·exact KeyOrd.kle_trans (h1 p (sb - 1) hp1 (by exact Nat.le_of_not_lt fun hg => lin [sb, sa, na, k, (na - k), (sa + k + (na - k) - 1), (sb - 1), p] [(1, (.v 0), (.a (.v 1) (.v 2))), (1, (.v 5), (.v 6)), (1, (.a (.v 7) (.n 1)), (.v 0)), (1, (.v 2), (.a (.v 4) (.v 3))), (1, (.a (.a (.v 1) (.v 3)) (.v 4)), (.a (.v 5) (.n 1))), (1, (.a (.v 6) (.n 1)), (.v 7))] rfl (Nat.le_of_eq hsb) (Nat.le_of_eq elast) hp2 (sub_lo (na) (k)) (sub_lo (sa + k + (na - k)) (1)) hg) (by exact Nat.lt_of_not_le fun hg => lin [sb, sa, na, k, (na - k), (sa + k + (na - k) - 1), (sb - 1)] [(1, (.a (.v 1) (.v 2)), (.v 0)), (1, (.v 6), (.v 5)), (1, (.a (.v 4) (.v 3)), (.v 2)), (1, (.a (.v 5) (.n 1)), (.a (.a (.v 1) (.v 3)) (.v 4))), (1, (.v 0), (.v 6))] rfl (Nat.le_of_eq (Eq.symm hsb)) (Nat.le_of_eq (Eq.symm elast)) (sub_hi (Nat.le_of_not_lt fun hg => lin [na, k] [(1, (.v 1), (.v 0)), (1, (.a (.v 0) (.n 1)), (.v 1))] rfl hk1 hg)) (sub_hi (Nat.le_of_not_lt fun hg => lin [sa, na, k, (na - k)] [(1, (.a (.n 0) (.n 1)), (.v 1)), (1, (.v 1), (.a (.v 3) (.v 2))), (1, (.a (.a (.a (.v 0) (.v 2)) (.v 3)) (.n 1)), (.n 1))] rfl hna (sub_lo (na) (k)) hg)) hg)) (l3' q (by exact Nat.le_of_not_lt fun hg => lin [sb, k2, q] [(1, (.v 1), (.n 0)), (1, (.v 0), (.v 2)), (1, (.a (.v 2) (.n 1)), (.a (.v 0) (.v 1)))] rfl (Nat.le_of_eq e2) (Nat.le_of_not_lt hq2) hg) hq)
   ·exact h2 p q (by exact Nat.le_of_not_lt hp2) hpq hq
 simp only [beq_iff_eq] at e2
 have hxs : ((arrOf st).extract (sa + k) sb).size = sb - (sa + k) := by rw [Array.size_extract]; exact Nat.le_antisymm (Nat.le_of_not_lt fun hg => Or.elim (Nat.lt_or_gt_of_ne e1) (fun hs0 => lin [na, k, (na - k)] [(1, (.v 1), (.v 0)), (1, (.v 0), (.a (.v 2) (.v 1))), (1, (.a (.v 2) (.n 1)), (.n 0))] rfl hk1 (sub_lo (na) (k)) hs0) (fun hs0 => Or.elim (sub_or (min sb (arrOf st).size) (sa + k)) (fun hs1 => lin [sb, sa, k, (min sb (arrOf st).size - (sa + k)), (sb - (sa + k)), (min sb (arrOf st).size)] [(1, (.v 5), (.v 0)), (1, (.v 0), (.a (.v 4) (.a (.v 1) (.v 2)))), (1, (.a (.v 4) (.n 1)), (.v 3)), (1, (.a (.v 3) (.a (.v 1) (.v 2))), (.v 5))] rfl (Nat.min_le_left (sb) ((arrOf st).size)) (sub_lo (sb) (sa + k)) hg (Nat.le_of_eq hs1)) (fun hs1 => lin [sb, sa, na, k, (na - k), (min sb (arrOf st).size - (sa + k)), (sb - (sa + k))] [(1, (.a (.v 1) (.v 2)), (.v 0)), (1, (.a (.v 4) (.v 3)), (.v 2)), (1, (.v 0), (.a (.v 6) (.a (.v 1) (.v 3)))), (1, (.a (.v 6) (.n 1)), (.v 5)), (1, (.a (.n 0) (.n 1)), (.v 4)), (1, (.v 5), (.n 0))] rfl (Nat.le_of_eq (Eq.symm hsb)) (sub_hi (Nat.le_of_not_lt fun hg => lin [na, k] [(1, (.v 1), (.v 0)), (1, (.a (.v 0) (.n 1)), (.v 1))] rfl hk1 hg)) (sub_lo (sb) (sa + k)) hg hs0 (Nat.le_of_eq hs1)))) (Nat.le_of_not_lt fun hg => Or.elim (Nat.lt_or_gt_of_ne e1) (fun hs0 => lin [na, k, (na - k)] [(1, (.v 1), (.v 0)), (1, (.v 0), (.a (.v 2) (.v 1))), (1, (.a (.v 2) (.n 1)), (.n 0))] rfl hk1 (sub_lo (na) (k)) hs0) (fun hs0 => Or.elim (min_or (sb) ((arrOf st).size)) (fun hs1 => lin [sb, sa, k, (min sb (arrOf st).size - (sa + k)), (sb - (sa + k)), (min sb (arrOf st).size)] [(1, (.v 5), (.a (.v 3) (.a (.v 1) (.v 2)))), (1, (.a (.v 4) (.a (.v 1) (.v 2))), (.v 0)), (1, (.a (.v 3) (.n 1)), (.v 4)), (1, (.v 0), (.v 5))] rfl (sub_lo (min sb (arrOf st).size) (sa + k)) (sub_hi (Nat.le_of_not_lt fun hg => lin [sb, sa, na, k] [(1, (.a (.v 1) (.v 2)), (.v 0)), (1, (.v 3), (.v 2)), (1, (.a (.v 0) (.n 1)), (.a (.v 1) (.v 3)))] rfl (Nat.le_of_eq (Eq.symm hsb)) hk1 hg)) hg hs1) (fun hs1 => lin [sb, nb, (a₀.size), ((arrOf st).size), (min sb (arrOf st).size)] [(1, (.a (.n 0) (.n 1)), (.v 1)), (1, (.a (.v 0) (.v 1)), (.v 2)), (1, (.v 2), (.v 3)), (1, (.v 4), (.v 0)), (1, (.v 3), (.v 4))] rfl hnb hsz (Nat.le_of_eq (Eq.symm hsize)) (Nat.min_le_left (sb) ((arrOf st).size)) hs1)))
 have hys : ((arrOf st).extract sb (sb + k2)).size = k2 := by rw [Array.size_extract]; exact Nat.le_antisymm (Nat.le_of_not_lt fun hg => Or.elim (Nat.lt_or_gt_of_ne e1) (fun hs0 => lin [na, k, (na - k)] [(1, (.v 1), (.v 0)), (1, (.v 0), (.a (.v 2) (.v 1))), (1, (.a (.v 2) (.n 1)), (.n 0))] rfl hk1 (sub_lo (na) (k)) hs0) (fun hs0 => Or.elim (sub_or (min (sb + k2) (arrOf st).size) (sb)) (fun hs1 => lin [sb, k2, (min (sb + k2) (arrOf st).size - sb), (min (sb + k2) (arrOf st).size)] [(1, (.v 3), (.a (.v 0) (.v 1))), (1, (.a (.v 1) (.n 1)), (.v 2)), (1, (.a (.v 2) (.v 0)), (.v 3))] rfl (Nat.min_le_left (sb + k2) ((arrOf st).size)) hg (Nat.le_of_eq hs1)) (fun hs1 => lin [k2, (min (sb + k2) (arrOf st).size - sb)] [(1, (.a (.v 0) (.n 1)), (.v 1)), (1, (.v 1), (.n 0))] rfl hg (Nat.le_of_eq hs1)))) (Nat.le_of_not_lt fun hg => Or.elim (Nat.lt_or_gt_of_ne e1) (fun hs0 => lin [na, k, (na - k)] [(1, (.v 1), (.v 0)), (1, (.v 0), (.a (.v 2) (.v 1))), (1, (.a (.v 2) (.n 1)), (.n 0))] rfl hk1 (sub_lo (na) (k)) hs0) (fun hs0 => Or.elim (min_or (sb + k2) ((arrOf st).size)) (fun hs1 => lin [sb, k2, (min (sb + k2) (arrOf st).size - sb), (min (sb + k2) (arrOf st).size)] [(1, (.v 3), (.a (.v 2) (.v 0))), (1, (.a (.v 2) (.n 1)), (.v 1)), (1, (.a (.v 0) (.v 1)), (.v 3))] rfl (sub_lo (min (sb + k2) (arrOf st).size) (sb)) hg hs1) (fun hs1 => lin [sb, nb, (a₀.size), ((arrOf st).size), k2, (min (sb + k2) (arrOf st).size - sb), (min (sb + k2) (arrOf st).size)] [(1, (.a (.v 0) (.v 1)), (.v 2)), (1, (.v 2), (.v 3)), (1, (.v 4), (.v 1)), (1, (.v 6), (.a (.v 5) (.v 0))), (1, (.a (.v 5) (.n 1)), (.v 4)), (1, (.v 3), (.v 6))] rfl hsz (Nat.le_of_eq (Eq.symm hsize)) l1 (sub_lo (min (sb + k2) (arrOf st).size) (sb)) hg hs1)))
 have hxm : ∀ x ∈ ((arrOf st).extract (sa + k) sb).toList, x ∈ a₀.toList := fun x hx => hmem x (by
  rw [Array.toList_extract, List.extract_eq_take_drop] at hx
  exact List.drop_subset _ _ (List.take_subset _ _ hx))
 have hym : ∀ x ∈ ((arrOf st).extract sb (sb + k2)).toList, x ∈ a₀.toList := fun x hx => hmem x (by
  rw [Array.toList_extract, List.extract_eq_take_drop] at hx
  exact List.drop_subset _ _ (List.take_subset _ _ hx))
 have hsx : Srt key ((arrOf st).extract (sa + k) sb).toList := srt_of_idx (fun p q a b c => h1 p q (by exact Nat.le_trans (Nat.le_add_right _ _) a) b c) (by exact Nat.le_of_lt hsbs)
 have hsy : Srt key ((arrOf st).extract sb (sb + k2)).toList := srt_of_idx (fun p q a b c => h2 p q a b (by exact Nat.lt_of_not_le fun hg => lin [sb, nb, k2, q] [(1, (.v 2), (.v 1)), (1, (.a (.v 3) (.n 1)), (.a (.v 0) (.v 2))), (1, (.a (.v 0) (.v 1)), (.v 3))] rfl l1 c hg)) (by exact Nat.le_of_not_lt fun hg => lin [sb, nb, (a₀.size), ((arrOf st).size), k2] [(1, (.a (.v 0) (.v 1)), (.v 2)), (1, (.v 2), (.v 3)), (1, (.v 4), (.v 1)), (1, (.a (.v 3) (.n 1)), (.a (.v 0) (.v 4)))] rfl hsz (Nat.le_of_eq (Eq.symm hsize)) l1 hg)
 have hfst : ∀ i, i < ((arrOf st).extract (sa + k) sb).size → O.kle (tk key ((arrOf st).extract sb (sb + k2)) 0) (tk key ((arrOf st).extract (sa + k) sb) i) := fun i hi => by
  rw [hxs] at hi
  rw [tk_ext (by exact Nat.lt_of_not_le fun hg => Or.elim (Nat.lt_or_gt_of_ne e1) (fun hs0 => lin [na, k, (na - k)] [(1, (.v 1), (.v 0)), (1, (.v 0), (.a (.v 2) (.v 1))), (1, (.a (.v 2) (.n 1)), (.n 0))] rfl hk1 (sub_lo (na) (k)) hs0) (fun hs0 => Or.elim (Nat.lt_or_gt_of_ne e2) (fun hs1 => lin [k2] [(1, (.a (.v 0) (.n 1)), (.n 0))] rfl hs1) (fun hs1 => lin [sb, k2] [(1, (.a (.v 0) (.v 1)), (.a (.v 0) (.n 0))), (1, (.a (.n 0) (.n 1)), (.v 1))] rfl hg hs1))) (by exact Nat.le_of_not_lt fun hg => lin [sb, nb, (a₀.size), ((arrOf st).size), k2] [(1, (.a (.v 0) (.v 1)), (.v 2)), (1, (.v 2), (.v 3)), (1, (.v 4), (.v 1)), (1, (.a (.v 3) (.n 1)), (.a (.v 0) (.v 4)))] rfl hsz (Nat.le_of_eq (Eq.symm hsize)) l1 hg), tk_ext (by exact Nat.lt_of_not_le fun hg => lin [sb, sa, k, (sb - (sa + k)), i] [(1, (.a (.v 4) (.n 1)), (.v 3)), (1, (.a (.v 3) (.a (.v 1) (.v 2))), (.v 0)), (1, (.v 0), (.a (.a (.v 1) (.v 2)) (.v 4)))] rfl hi (sub_hi (Nat.le_of_not_lt fun hg => lin [sb, sa, na, k] [(1, (.a (.v 1) (.v 2)), (.v 0)), (1, (.v 3), (.v 2)), (1, (.a (.v 0) (.n 1)), (.a (.v 1) (.v 3)))] rfl (Nat.le_of_eq (Eq.symm hsb)) hk1 hg)) hg) (by exact Nat.le_of_lt hsbs), Nat.add_zero]
  exact KeyOrd.kle_of_klt (hk3' _ (by exact Nat.le_add_right _ _) (by exact Nat.lt_of_not_le fun hg => lin [sb, sa, k, (sb - (sa + k)), i] [(1, (.a (.v 4) (.n 1)), (.v 3)), (1, (.a (.v 3) (.a (.v 1) (.v 2))), (.v 0)), (1, (.v 0), (.a (.a (.v 1) (.v 2)) (.v 4)))] rfl hi (sub_hi (Nat.le_of_not_lt fun hg => lin [sb, sa, na, k] [(1, (.a (.v 1) (.v 2)), (.v 0)), (1, (.v 3), (.v 2)), (1, (.a (.v 0) (.n 1)), (.a (.v 1) (.v 3)))] rfl (Nat.le_of_eq (Eq.symm hsb)) hk1 hg)) hg))
 have hlst : ∀ j, j < ((arrOf st).extract sb (sb + k2)).size → O.kle (tk key ((arrOf st).extract sb (sb + k2)) j) (tk key ((arrOf st).extract (sa + k) sb) (((arrOf st).extract (sa + k) sb).size - 1)) := fun j hj => by
  rw [hys] at hj
  rw [hxs, tk_ext (by exact Nat.add_le_add_left hj _) (by exact Nat.le_of_not_lt fun hg => lin [sb, nb, (a₀.size), ((arrOf st).size), k2] [(1, (.a (.v 0) (.v 1)), (.v 2)), (1, (.v 2), (.v 3)), (1, (.v 4), (.v 1)), (1, (.a (.v 3) (.n 1)), (.a (.v 0) (.v 4)))] rfl hsz (Nat.le_of_eq (Eq.symm hsize)) l1 hg), tk_ext (by exact Nat.lt_of_not_le fun hg => Or.elim (Nat.lt_or_gt_of_ne e1) (fun hs0 => lin [na, k, (na - k)] [(1, (.v 1), (.v 0)), (1, (.v 0), (.a (.v 2) (.v 1))), (1, (.a (.v 2) (.n 1)), (.n 0))] rfl hk1 (sub_lo (na) (k)) hs0) (fun hs0 => Or.elim (sub_or (sb - (sa + k)) (1)) (fun hs1 => lin [sb, sa, k, (sb - (sa + k)), (sb - (sa + k) - 1)] [(1, (.a (.v 3) (.a (.v 1) (.v 2))), (.v 0)), (1, (.v 0), (.a (.a (.v 1) (.v 2)) (.v 4))), (1, (.a (.v 4) (.n 1)), (.v 3))] rfl (sub_hi (Nat.le_of_not_lt fun hg => lin [sb, sa, na, k] [(1, (.a (.v 1) (.v 2)), (.v 0)), (1, (.v 3), (.v 2)), (1, (.a (.v 0) (.n 1)), (.a (.v 1) (.v 3)))] rfl (Nat.le_of_eq (Eq.symm hsb)) hk1 hg)) hg (Nat.le_of_eq hs1)) (fun hs1 => lin [sb, sa, na, k, (na - k), (sb - (sa + k) - 1)] [(1, (.a (.v 1) (.v 2)), (.v 0)), (1, (.a (.v 4) (.v 3)), (.v 2)), (1, (.v 0), (.a (.a (.v 1) (.v 3)) (.v 5))), (1, (.a (.n 0) (.n 1)), (.v 4)), (1, (.v 5), (.n 0))] rfl (Nat.le_of_eq (Eq.symm hsb)) (sub_hi (Nat.le_of_not_lt fun hg => lin [na, k] [(1, (.v 1), (.v 0)), (1, (.a (.v 0) (.n 1)), (.v 1))] rfl hk1 hg)) hg hs0 (Nat.le_of_eq hs1)))) (by exact Nat.le_of_lt hsbs), show sa + k + (sb - (sa + k) - 1) = sb - 1 by exact Nat.le_antisymm (Nat.le_of_not_lt fun hg => Or.elim (Nat.lt_or_gt_of_ne e1) (fun hs0 => lin [na, k, (na - k)] [(1, (.v 1), (.v 0)), (1, (.v 0), (.a (.v 2) (.v 1))), (1, (.a (.v 2) (.n 1)), (.n 0))] rfl hk1 (sub_lo (na) (k)) hs0) (fun hs0 => Or.elim (sub_or (sb - (sa + k)) (1)) (fun hs1 => lin [sb, sa, na, k, (na - k), (sa + k + (na - k) - 1), (sb - 1), (sb - (sa + k)), (sb - (sa + k) - 1)] [(1, (.v 0), (.a (.v 1) (.v 2))), (1, (.v 5), (.v 6)), (1, (.v 2), (.a (.v 4) (.v 3))), (1, (.a (.a (.v 1) (.v 3)) (.v 4)), (.a (.v 5) (.n 1))), (1, (.a (.v 7) (.a (.v 1) (.v 3))), (.v 0)), (1, (.a (.v 6) (.n 1)), (.a (.a (.v 1) (.v 3)) (.v 8))), (1, (.a (.v 8) (.n 1)), (.v 7))] rfl (Nat.le_of_eq hsb) (Nat.le_of_eq elast) (sub_lo (na) (k)) (sub_lo (sa + k + (na - k)) (1)) (sub_hi (Nat.le_of_not_lt fun hg => lin [sb, sa, na, k] [(1, (.a (.v 1) (.v 2)), (.v 0)), (1, (.v 3), (.v 2)), (1, (.a (.v 0) (.n 1)), (.a (.v 1) (.v 3)))] rfl (Nat.le_of_eq (Eq.symm hsb)) hk1 hg)) hg (Nat.le_of_eq hs1)) (fun hs1 => lin [sa, k, (na - k), (sa + k + (na - k) - 1), (sb - 1), (sb - (sa + k) - 1)] [(1, (.v 3), (.v 4)), (1, (.a (.a (.v 0) (.v 1)) (.v 2)), (.a (.v 3) (.n 1))), (1, (.a (.v 4) (.n 1)), (.a (.a (.v 0) (.v 1)) (.v 5))), (1, (.a (.n 0) (.n 1)), (.v 2)), (1, (.v 5), (.n 0))] rfl (Nat.le_of_eq elast) (sub_lo (sa + k + (na - k)) (1)) hg hs0 (Nat.le_of_eq hs1)))) (Nat.le_of_not_lt fun hg => lin [sb, sa, na, k, (na - k), (sa + k + (na - k) - 1), (sb - 1), (sb - (sa + k)), (sb - (sa + k) - 1)] [(1, (.a (.v 1) (.v 2)), (.v 0)), (1, (.v 6), (.v 5)), (1, (.a (.v 4) (.v 3)), (.v 2)), (1, (.a (.v 5) (.n 1)), (.a (.a (.v 1) (.v 3)) (.v 4))), (1, (.v 0), (.a (.v 7) (.a (.v 1) (.v 3)))), (1, (.v 7), (.a (.v 8) (.n 1))), (1, (.a (.a (.a (.v 1) (.v 3)) (.v 8)) (.n 1)), (.v 6))] rfl (Nat.le_of_eq (Eq.symm hsb)) (Nat.le_of_eq (Eq.symm elast)) (sub_hi (Nat.le_of_not_lt fun hg => lin [na, k] [(1, (.v 1), (.v 0)), (1, (.a (.v 0) (.n 1)), (.v 1))] rfl hk1 hg)) (sub_hi (Nat.le_of_not_lt fun hg => lin [sa, na, k, (na - k)] [(1, (.a (.n 0) (.n 1)), (.v 1)), (1, (.v 1), (.a (.v 3) (.v 2))), (1, (.a (.a (.a (.v 0) (.v 2)) (.v 3)) (.n 1)), (.n 1))] rfl hna (sub_lo (na) (k)) hg)) (sub_lo (sb) (sa + k)) (sub_lo (sb - (sa + k)) (1)) hg)]
  exact KeyOrd.kle_of_klt (l2' _ (by exact Nat.le_add_right _ _) (by exact Nat.add_le_add_left hj _))
 have fin : ∀ (m : Array Keyed) (st' : SortSt), Good key ((arrOf st).extract (sa + k) sb) ((arrOf st).extract sb (sb + k2)) m →
   Same (SortSt.mk' (kindOf st) (arrOf st) (((pendingOf st).setIfInBounds i (sa, na + nb, pw)).eraseIdxIfInBounds (i + 1)) (gallopOf st) (failedOf st)) st' →
   failedOf st' = none ∧ Q true (setArr st' (m.toList.zipIdx.foldl (fun a (pj : Keyed × Nat) => a.setIfInBounds (sa + k + pj.2) pj.1) (arrOf st'))) := by
  intro m st' hG hS
  have hf : failedOf st' = none := hS.failed.trans hB.failed
  have ha' : arrOf st' = arrOf st := hS.arr
  have hlen : m.toList.length = sb + k2 - (sa + k) := by
   rw [hG.perm.length_eq, List.length_append, Array.length_toList, Array.length_toList, hxs, hys]; exact Nat.le_antisymm (Nat.le_of_not_lt fun hg => lin [sb, sa, k, k2, (sb - (sa + k)), (sb + k2 - (sa + k))] [(1, (.a (.v 4) (.a (.v 1) (.v 2))), (.v 0)), (1, (.a (.v 0) (.v 3)), (.a (.v 5) (.a (.v 1) (.v 2)))), (1, (.a (.v 5) (.n 1)), (.a (.v 4) (.v 3)))] rfl (sub_hi (Nat.le_of_not_lt fun hg => lin [sb, sa, na, k] [(1, (.a (.v 1) (.v 2)), (.v 0)), (1, (.v 3), (.v 2)), (1, (.a (.v 0) (.n 1)), (.a (.v 1) (.v 3)))] rfl (Nat.le_of_eq (Eq.symm hsb)) hk1 hg)) (sub_lo (sb + k2) (sa + k)) hg) (Nat.le_of_not_lt fun hg => lin [sb, sa, k, k2, (sb - (sa + k)), (sb + k2 - (sa + k))] [(1, (.v 0), (.a (.v 4) (.a (.v 1) (.v 2)))), (1, (.a (.v 5) (.a (.v 1) (.v 2))), (.a (.v 0) (.v 3))), (1, (.a (.a (.v 4) (.v 3)) (.n 1)), (.v 5))] rfl (sub_lo (sb) (sa + k)) (sub_hi (Nat.le_of_not_lt fun hg => lin [sb, sa, na, k, k2] [(1, (.a (.v 1) (.v 2)), (.v 0)), (1, (.v 3), (.v 2)), (1, (.a (.a (.v 0) (.v 4)) (.n 1)), (.a (.v 1) (.v 3)))] rfl (Nat.le_of_eq (Eq.symm hsb)) hk1 hg)) hg)
  have hl := fold_set (sa + k) m.toList 0 (arrOf st') (by rw [ha', hlen]; exact Nat.le_of_not_lt fun hg => lin [sb, sa, nb, (a₀.size), ((arrOf st).size), k, k2, (sb + k2 - (sa + k))] [(1, (.a (.v 0) (.v 2)), (.v 3)), (1, (.v 3), (.v 4)), (1, (.v 6), (.v 2)), (1, (.a (.v 7) (.a (.v 1) (.v 5))), (.a (.v 0) (.v 6))), (1, (.a (.v 4) (.n 1)), (.a (.a (.a (.v 1) (.v 5)) (.n 0)) (.v 7)))] rfl hsz (Nat.le_of_eq (Eq.symm hsize)) l1 (sub_hi (Nat.le_of_not_lt fun hg => lin [sb, sa, na, k, k2] [(1, (.a (.v 1) (.v 2)), (.v 0)), (1, (.v 3), (.v 2)), (1, (.a (.a (.v 0) (.v 4)) (.n 1)), (.a (.v 1) (.v 3)))] rfl (Nat.le_of_eq (Eq.symm hsb)) hk1 hg)) hg)
  rw [ha', hlen, Nat.add_zero, show sa + k + (sb + k2 - (sa + k)) = sb + k2 by exact Nat.le_antisymm (Nat.le_of_not_lt fun hg => lin [sb, sa, k, k2, (sb + k2 - (sa + k))] [(1, (.a (.v 4) (.a (.v 1) (.v 2))), (.a (.v 0) (.v 3))), (1, (.a (.a (.v 0) (.v 3)) (.n 1)), (.a (.a (.v 1) (.v 2)) (.v 4)))] rfl (sub_hi (Nat.le_of_not_lt fun hg => lin [sb, sa, na, k, k2] [(1, (.a (.v 1) (.v 2)), (.v 0)), (1, (.v 3), (.v 2)), (1, (.a (.a (.v 0) (.v 4)) (.n 1)), (.a (.v 1) (.v 3)))] rfl (Nat.le_of_eq (Eq.symm hsb)) hk1 hg)) hg) (Nat.le_of_not_lt fun hg => lin [sb, sa, k, k2, (sb + k2 - (sa + k))] [(1, (.a (.v 0) (.v 3)), (.a (.v 4) (.a (.v 1) (.v 2)))), (1, (.a (.a (.a (.v 1) (.v 2)) (.v 4)) (.n 1)), (.a (.v 0) (.v 3)))] rfl (sub_lo (sb + k2) (sa + k)) hg)] at hl
  have hget := mid_get hl (by exact Nat.le_of_not_lt fun hg => lin [sb, sa, na, k, k2] [(1, (.a (.v 1) (.v 2)), (.v 0)), (1, (.v 3), (.v 2)), (1, (.a (.a (.v 0) (.v 4)) (.n 1)), (.a (.v 1) (.v 3)))] rfl (Nat.le_of_eq (Eq.symm hsb)) hk1 hg) (by exact Nat.le_of_not_lt fun hg => lin [sb, nb, (a₀.size), ((arrOf st).size), k2] [(1, (.a (.v 0) (.v 1)), (.v 2)), (1, (.v 2), (.v 3)), (1, (.v 4), (.v 1)), (1, (.a (.v 3) (.n 1)), (.a (.v 0) (.v 4)))] rfl hsz (Nat.le_of_eq (Eq.symm hsize)) l1 hg) hlen
  have hmid : ∀ p, sa + k ≤ p → p < sb + k2 → ∃ x r, m.toList[p - (sa + k)]? = some x ∧ sa + k ≤ r ∧ r < sb + k2 ∧ key x = tk key (arrOf st) r := by
   intro p h3 h4
   have hlt : p - (sa + k) < m.toList.length := by exact Nat.lt_of_not_le fun hg => lin [sb, sa, k, k2, (m.toList.length), (sb + k2 - (sa + k)), p, (p - (sa + k))] [(1, (.v 5), (.v 4)), (1, (.a (.v 6) (.n 1)), (.a (.v 0) (.v 3))), (1, (.a (.v 0) (.v 3)), (.a (.v 5) (.a (.v 1) (.v 2)))), (1, (.a (.v 7) (.a (.v 1) (.v 2))), (.v 6)), (1, (.v 4), (.v 7))] rfl (Nat.le_of_eq (Eq.symm hlen)) h4 (sub_lo (sb + k2) (sa + k)) (sub_hi (Nat.le_of_not_lt fun hg => lin [sa, k, p] [(1, (.a (.v 0) (.v 1)), (.v 2)), (1, (.a (.v 2) (.n 1)), (.a (.v 0) (.v 1)))] rfl h3 hg)) hg
   have hx : m.toList[p - (sa + k)] ∈ m.toList := List.getElem_mem hlt
   rcases List.mem_append.mp (hG.perm.mem_iff.mp hx) with hx | hx
   ·obtain ⟨r, a1, a2, a3, e⟩ := mem_ext (key := key) hx
    exact ⟨_, r, List.getElem?_eq_getElem hlt, a1, by exact Nat.le_trans a2 (Nat.le_add_right _ _), e⟩
   ·obtain ⟨r, a1, a2, a3, e⟩ := mem_ext (key := key) hx
    exact ⟨_, r, List.getElem?_eq_getElem hlt, by exact Nat.le_of_not_lt fun hg => lin [sb, sa, na, k, r] [(1, (.a (.v 1) (.v 2)), (.v 0)), (1, (.v 3), (.v 2)), (1, (.v 0), (.v 4)), (1, (.a (.v 4) (.n 1)), (.a (.v 1) (.v 3)))] rfl (Nat.le_of_eq (Eq.symm hsb)) hk1 a1 hg, a2, e⟩
  refine ⟨hf, h _ ⟨?_, hS.kind.trans hB.kind, hf⟩ ?_ ?_ ?_⟩
  ·refine Array.Perm.trans (Array.perm_iff_toList_perm.mpr ?_) hB.perm
   show List.Perm (Array.toList (List.foldl _ (arrOf st') _)) _
   rw [ha', hl]
   rw [cut_three (arr := arrOf st) (i := sa + k) (j := sb) (k := sb + k2) (by exact Nat.le_of_not_lt fun hg => lin [sb, sa, na, k] [(1, (.a (.v 1) (.v 2)), (.v 0)), (1, (.v 3), (.v 2)), (1, (.a (.v 0) (.n 1)), (.a (.v 1) (.v 3)))] rfl (Nat.le_of_eq (Eq.symm hsb)) hk1 hg) (by exact Nat.le_add_right _ _)]
   have e1 : ((arrOf st).toList.take (sa + k) ++ (((arrOf st).extract (sa + k) sb).toList ++ ((arrOf st).extract sb (sb + k2)).toList ++ (arrOf st).toList.drop (sb + k2))).take (sa + k) = (arrOf st).toList.take (sa + k) := by
    rw [← cut_three (by exact Nat.le_of_not_lt fun hg => lin [sb, sa, na, k] [(1, (.a (.v 1) (.v 2)), (.v 0)), (1, (.v 3), (.v 2)), (1, (.a (.v 0) (.n 1)), (.a (.v 1) (.v 3)))] rfl (Nat.le_of_eq (Eq.symm hsb)) hk1 hg) (by exact Nat.le_add_right _ _)]
   have e2 : ((arrOf st).toList.take (sa + k) ++ (((arrOf st).extract (sa + k) sb).toList ++ ((arrOf st).extract sb (sb + k2)).toList ++ (arrOf st).toList.drop (sb + k2))).drop (sb + k2) = (arrOf st).toList.drop (sb + k2) := by
    rw [← cut_three (by exact Nat.le_of_not_lt fun hg => lin [sb, sa, na, k] [(1, (.a (.v 1) (.v 2)), (.v 0)), (1, (.v 3), (.v 2)), (1, (.a (.v 0) (.n 1)), (.a (.v 1) (.v 3)))] rfl (Nat.le_of_eq (Eq.symm hsb)) hk1 hg) (by exact Nat.le_add_right _ _)]
   rw [e1, e2]
   exact List.Perm.append_left _ (List.Perm.append_right _ hG.perm)
  ·show (pendingOf st').toList = _
   rw [hS.pend]
   exact hpend
  ·intro q hq
   show (List.foldl _ (arrOf st') _)[q]? = _
   rw [ha', hget q]
   rcases hq with hq | hq
   ·rw [if_pos (by exact Nat.le_trans hq (Nat.le_add_right _ _))]
   ·rw [if_neg (by exact fun hg => lin [sb, sa, na, nb, k, q] [(1, (.a (.v 1) (.v 2)), (.v 0)), (1, (.a (.n 0) (.n 1)), (.v 3)), (1, (.v 4), (.v 2)), (1, (.a (.v 0) (.v 3)), (.v 5)), (1, (.a (.v 5) (.n 1)), (.a (.v 1) (.v 4)))] rfl (Nat.le_of_eq (Eq.symm hsb)) hnb hk1 hq hg), if_neg (by exact fun hg => lin [sb, nb, k2, q] [(1, (.v 2), (.v 1)), (1, (.a (.v 0) (.v 1)), (.v 3)), (1, (.a (.v 3) (.n 1)), (.a (.v 0) (.v 2)))] rfl l1 hq hg)]
  ·intro p q hp1 hpq hq
   show O.kle (tk key (List.foldl _ (arrOf st') _) p) (tk key (List.foldl _ (arrOf st') _) q)
   rw [ha']
   have tlow : ∀ p, p < sa + k → tk key (List.foldl (fun a (pj : Keyed × Nat) => a.setIfInBounds (sa + k + pj.2) pj.1) (arrOf st) m.toList.zipIdx) p = tk key (arrOf st) p := fun p hp => tk_congr (by rw [hget p, if_pos hp])
   have thigh : ∀ p, sb + k2 ≤ p → tk key (List.foldl (fun a (pj : Keyed × Nat) => a.setIfInBounds (sa + k + pj.2) pj.1) (arrOf st) m.toList.zipIdx) p = tk key (arrOf st) p := fun p hp => tk_congr (by rw [hget p, if_neg (by exact fun hg => lin [sb, sa, na, k, k2, p] [(1, (.a (.v 1) (.v 2)), (.v 0)), (1, (.v 3), (.v 2)), (1, (.a (.v 0) (.v 4)), (.v 5)), (1, (.a (.v 5) (.n 1)), (.a (.v 1) (.v 3)))] rfl (Nat.le_of_eq (Eq.symm hsb)) hk1 hp hg), if_neg (by exact Nat.not_lt_of_le hp)])
   have tmid : ∀ p x, sa + k ≤ p → p < sb + k2 → m.toList[p - (sa + k)]? = some x → tk key (List.foldl (fun a (pj : Keyed × Nat) => a.setIfInBounds (sa + k + pj.2) pj.1) (arrOf st) m.toList.zipIdx) p = key x := fun p x a1 a2 e => by
    unfold tk
    rw [hget p, if_neg (by exact Nat.not_lt_of_le a1), if_pos a2, e]
    rfl
   by_cases c1 : q < sa + k
   ·rw [tlow p (by exact Nat.lt_of_le_of_lt hpq c1), tlow q c1]
    exact h1 p q hp1 hpq (by exact Nat.lt_of_not_le fun hg => lin [sb, sa, na, k, q] [(1, (.a (.v 1) (.v 2)), (.v 0)), (1, (.v 3), (.v 2)), (1, (.a (.v 4) (.n 1)), (.a (.v 1) (.v 3))), (1, (.v 0), (.v 4))] rfl (Nat.le_of_eq (Eq.symm hsb)) hk1 c1 hg)
   by_cases c2 : q < sb + k2
   ·obtain ⟨y, r, ey, r1, r2, ek⟩ := hmid q (by exact Nat.le_of_not_lt c1) c2
    rw [tmid q y (by exact Nat.le_of_not_lt c1) c2 ey]
    by_cases c3 : p < sa + k
    ·rw [tlow p c3, ek]
     by_cases c4 : r < sb
     ·exact h1 p r hp1 (by exact Nat.le_of_lt (Nat.lt_of_lt_of_le c3 r1)) c4
     ·exact KeyOrd.kle_trans (hk2' p hp1 c3) (h2 sb r (Nat.le_refl _) (by exact Nat.le_of_not_lt c4) (by exact Nat.lt_of_not_le fun hg => lin [sb, nb, k2, r] [(1, (.v 2), (.v 1)), (1, (.a (.v 3) (.n 1)), (.a (.v 0) (.v 2))), (1, (.a (.v 0) (.v 1)), (.v 3))] rfl l1 r2 hg))
    ·obtain ⟨x, r', ex, r1', r2', ek'⟩ := hmid p (by exact Nat.le_of_not_lt c3) (by exact Nat.lt_of_le_of_lt hpq c2)
     rw [tmid p x (by exact Nat.le_of_not_lt c3) (by exact Nat.lt_of_le_of_lt hpq c2) ex]
     by_cases c5 : p = q
     ·subst c5
      rw [ex] at ey
      cases ey
      exact KeyOrd.kle_refl _
     ·have hp3 : p - (sa + k) < m.toList.length := by exact Nat.lt_of_not_le fun hg => lin [sb, sa, k, k2, (m.toList.length), (sb + k2 - (sa + k)), p, q, (p - (sa + k))] [(1, (.v 5), (.v 4)), (1, (.v 6), (.v 7)), (1, (.a (.v 7) (.n 1)), (.a (.v 0) (.v 3))), (1, (.a (.v 0) (.v 3)), (.a (.v 5) (.a (.v 1) (.v 2)))), (1, (.a (.v 8) (.a (.v 1) (.v 2))), (.v 6)), (1, (.v 4), (.v 8))] rfl (Nat.le_of_eq (Eq.symm hlen)) hpq c2 (sub_lo (sb + k2) (sa + k)) (sub_hi (Nat.le_of_not_lt fun hg => lin [sa, k, p] [(1, (.a (.v 0) (.v 1)), (.v 2)), (1, (.a (.v 2) (.n 1)), (.a (.v 0) (.v 1)))] rfl (Nat.le_of_not_lt c3) hg)) hg
      have hq3 : q - (sa + k) < m.toList.length := by exact Nat.lt_of_not_le fun hg => lin [sb, sa, k, k2, (m.toList.length), (sb + k2 - (sa + k)), q, (q - (sa + k))] [(1, (.v 5), (.v 4)), (1, (.a (.v 6) (.n 1)), (.a (.v 0) (.v 3))), (1, (.a (.v 0) (.v 3)), (.a (.v 5) (.a (.v 1) (.v 2)))), (1, (.a (.v 7) (.a (.v 1) (.v 2))), (.v 6)), (1, (.v 4), (.v 7))] rfl (Nat.le_of_eq (Eq.symm hlen)) c2 (sub_lo (sb + k2) (sa + k)) (sub_hi (Nat.le_of_not_lt fun hg => lin [sa, k, q] [(1, (.a (.v 0) (.v 1)), (.v 2)), (1, (.a (.v 2) (.n 1)), (.a (.v 0) (.v 1)))] rfl (Nat.le_of_not_lt c1) hg)) hg
      have := List.pairwise_iff_getElem.mp hG.srt (p - (sa + k)) (q - (sa + k)) hp3 hq3 (by exact Nat.lt_of_not_le fun hg => Or.elim (Nat.lt_or_gt_of_ne e1) (fun hs0 => lin [na, k, (na - k)] [(1, (.v 1), (.v 0)), (1, (.v 0), (.a (.v 2) (.v 1))), (1, (.a (.v 2) (.n 1)), (.n 0))] rfl hk1 (sub_lo (na) (k)) hs0) (fun hs0 => Or.elim (Nat.lt_or_gt_of_ne c5) (fun hs1 => lin [sa, k, p, q, (p - (sa + k)), (q - (sa + k))] [(1, (.a (.v 4) (.a (.v 0) (.v 1))), (.v 2)), (1, (.v 3), (.a (.v 5) (.a (.v 0) (.v 1)))), (1, (.v 5), (.v 4)), (1, (.a (.v 2) (.n 1)), (.v 3))] rfl (sub_hi (Nat.le_of_not_lt fun hg => lin [sa, k, p] [(1, (.a (.v 0) (.v 1)), (.v 2)), (1, (.a (.v 2) (.n 1)), (.a (.v 0) (.v 1)))] rfl (Nat.le_of_not_lt c3) hg)) (sub_lo (q) (sa + k)) hg hs1) (fun hs1 => lin [p, q] [(1, (.v 0), (.v 1)), (1, (.a (.v 1) (.n 1)), (.v 0))] rfl hpq hs1)))
      rw [List.getElem?_eq_getElem hp3] at ex
      rw [List.getElem?_eq_getElem hq3] at ey
      rw [Option.some.inj ex, Option.some.inj ey] at this
      exact this
   ·rw [thigh q (by exact Nat.le_of_not_lt c2)]
    by_cases c3 : p < sa + k
    ·rw [tlow p c3]
     exact KeyOrd.kle_trans (hk2' p hp1 c3) (h2 sb q (Nat.le_refl _) (by exact Nat.le_of_not_lt fun hg => lin [sb, k2, q] [(1, (.a (.v 0) (.v 1)), (.v 2)), (1, (.a (.v 2) (.n 1)), (.v 0))] rfl (Nat.le_of_not_lt c2) hg) hq)
    by_cases c4 : p < sb + k2
    ·obtain ⟨x, r', ex, r1', r2', ek'⟩ := hmid p (by exact Nat.le_of_not_lt c3) c4
     rw [tmid p x (by exact Nat.le_of_not_lt c3) c4 ex, ek']
     by_cases c5 : r' < sb
     ·exact KeyOrd.kle_trans (h1 r' (sb - 1) (by exact Nat.le_trans (Nat.le_add_right _ _) r1') (by exact Nat.le_of_not_lt fun hg => lin [sb, sa, na, k, (na - k), (sa + k + (na - k) - 1), (sb - 1), r'] [(1, (.v 0), (.a (.v 1) (.v 2))), (1, (.v 5), (.v 6)), (1, (.a (.v 7) (.n 1)), (.v 0)), (1, (.v 2), (.a (.v 4) (.v 3))), (1, (.a (.a (.v 1) (.v 3)) (.v 4)), (.a (.v 5) (.n 1))), (1, (.a (.v 6) (.n 1)), (.v 7))] rfl (Nat.le_of_eq hsb) (Nat.le_of_eq elast) c5 (sub_lo (na) (k)) (sub_lo (sa + k + (na - k)) (1)) hg) (by exact Nat.lt_of_not_le fun hg => lin [sb, sa, na, k, (na - k), (sa + k + (na - k) - 1), (sb - 1)] [(1, (.a (.v 1) (.v 2)), (.v 0)), (1, (.v 6), (.v 5)), (1, (.a (.v 4) (.v 3)), (.v 2)), (1, (.a (.v 5) (.n 1)), (.a (.a (.v 1) (.v 3)) (.v 4))), (1, (.v 0), (.v 6))] rfl (Nat.le_of_eq (Eq.symm hsb)) (Nat.le_of_eq (Eq.symm elast)) (sub_hi (Nat.le_of_not_lt fun hg => lin [na, k] [(1, (.v 1), (.v 0)), (1, (.a (.v 0) (.n 1)), (.v 1))] rfl hk1 hg)) (sub_hi (Nat.le_of_not_lt fun hg => lin [sa, na, k, (na - k)] [(1, (.a (.n 0) (.n 1)), (.v 1)), (1, (.v 1), (.a (.v 3) (.v 2))), (1, (.a (.a (.a (.v 0) (.v 2)) (.v 3)) (.n 1)), (.n 1))] rfl hna (sub_lo (na) (k)) hg)) hg)) (l3' q (by exact Nat.le_of_not_lt c2) hq)
     ·exact h2 r' q (by exact Nat.le_of_not_lt c5) (by exact Nat.le_of_not_lt fun hg => lin [sb, k2, q, r'] [(1, (.a (.v 0) (.v 1)), (.v 2)), (1, (.a (.v 3) (.n 1)), (.a (.v 0) (.v 1))), (1, (.a (.v 2) (.n 1)), (.v 3))] rfl (Nat.le_of_not_lt c2) r2' hg) hq
    ·rw [thigh p (by exact Nat.le_of_not_lt c4)]
     exact h2 p q (by exact Nat.le_of_not_lt fun hg => lin [sb, k2, p] [(1, (.a (.v 0) (.v 1)), (.v 2)), (1, (.a (.v 2) (.n 1)), (.v 0))] rfl (Nat.le_of_not_lt c4) hg) hpq hq
 have bx : 0 < ((arrOf st).extract (sa + k) sb).size := by exact Nat.lt_of_not_le fun hg => Or.elim (Nat.lt_or_gt_of_ne e1) (fun hs0 => lin [na, k, (na - k)] [(1, (.v 1), (.v 0)), (1, (.v 0), (.a (.v 2) (.v 1))), (1, (.a (.v 2) (.n 1)), (.n 0))] rfl hk1 (sub_lo (na) (k)) hs0) (fun hs0 => lin [sb, sa, na, k, (na - k), (((arrOf st).extract (sa + k) sb).size), (sb - (sa + k))] [(1, (.a (.v 1) (.v 2)), (.v 0)), (1, (.v 6), (.v 5)), (1, (.a (.v 4) (.v 3)), (.v 2)), (1, (.v 0), (.a (.v 6) (.a (.v 1) (.v 3)))), (1, (.v 5), (.n 0)), (1, (.a (.n 0) (.n 1)), (.v 4))] rfl (Nat.le_of_eq (Eq.symm hsb)) (Nat.le_of_eq (Eq.symm hxs)) (sub_hi (Nat.le_of_not_lt fun hg => lin [na, k] [(1, (.v 1), (.v 0)), (1, (.a (.v 0) (.n 1)), (.v 1))] rfl hk1 hg)) (sub_lo (sb) (sa + k)) hg hs0)
 have by' : 0 < ((arrOf st).extract sb (sb + k2)).size := by exact Nat.lt_of_not_le fun hg => Or.elim (Nat.lt_or_gt_of_ne e1) (fun hs0 => lin [na, k, (na - k)] [(1, (.v 1), (.v 0)), (1, (.v 0), (.a (.v 2) (.v 1))), (1, (.a (.v 2) (.n 1)), (.n 0))] rfl hk1 (sub_lo (na) (k)) hs0) (fun hs0 => Or.elim (Nat.lt_or_gt_of_ne e2) (fun hs1 => lin [k2] [(1, (.a (.v 0) (.n 1)), (.n 0))] rfl hs1) (fun hs1 => lin [k2, (((arrOf st).extract sb (sb + k2)).size)] [(1, (.v 0), (.v 1)), (1, (.v 1), (.n 0)), (1, (.a (.n 0) (.n 1)), (.v 0))] rfl (Nat.le_of_eq (Eq.symm hys)) hg hs1))
 refine ts_if (fun e3 => ?_) (fun e3 => ?_)
 ·refine wpS_bind (ts_lo hL hxm hym hsx hsy bx by' hfst hlst hB.kind fun m st' hG hS => ?_)
  obtain ⟨hf, hq⟩ := fin m st' hG hS
  refine ts_modB ?_
  refine ts_getB (wpS_pure ?_)
  show Q (failedOf st').isNone _
  rw [hf]
  exact hq
 ·refine wpS_bind (ts_hi hL hxm hym hsx hsy bx by' hfst hlst hB.kind fun m st' hG hS => ?_)
  obtain ⟨hf, hq⟩ := fin m st' hG hS
  refine ts_modB ?_
  refine ts_getB (wpS_pure ?_)
  show Q (failedOf st').isNone _
  rw [hf]
  exact hq
end walk
end Mine
end
noncomputable section
namespace Mine
open PySem PyProof.Rows
section pure
variable {O : KeyOrd} {key : Keyed → O.α}
noncomputable def Runs (key : Keyed → O.α) (arr : Array Keyed) : List (Nat × Nat × Nat) → Nat → Nat → Prop
 | [], a, b => a = b
 | r :: rs, a, b => r.1 = a ∧ 0 < r.2.1 ∧ SIn key arr a (a + r.2.1) ∧ Runs key arr rs (a + r.2.1) b
theorem runs_app {arr : Array Keyed} : ∀ {p q : List (Nat × Nat × Nat)} {a b : Nat}, Runs key arr (p ++ q) a b ↔ ∃ c, Runs key arr p a c ∧ Runs key arr q c b
 | [], q, a, b => ⟨fun h => ⟨a, rfl, h⟩, fun ⟨c, e, h⟩ => by cases (e : a = c); exact h⟩
 | r :: p, q, a, b => by
  show (r.1 = a ∧ 0 < r.2.1 ∧ SIn key arr a (a + r.2.1) ∧ Runs key arr (p ++ q) (a + r.2.1) b) ↔ _
  rw [runs_app]
  exact ⟨fun ⟨h1, h2, h3, c, h4, h5⟩ => ⟨c, ⟨h1, h2, h3, h4⟩, h5⟩, fun ⟨c, ⟨h1, h2, h3, h4⟩, h5⟩ => ⟨h1, h2, h3, c, h4, h5⟩⟩
theorem runs_le {arr : Array Keyed} : ∀ {p : List (Nat × Nat × Nat)} {a b : Nat}, Runs key arr p a b → a + p.length ≤ b
 | [], a, b, h => by cases (h : a = b); exact Nat.le_refl _
 | r :: p, a, b, ⟨_, h2, _, h4⟩ => by
  rw [List.length_cons, Nat.add_comm p.length 1, ← Nat.add_assoc]
  exact Nat.le_trans (Nat.add_le_add_right (Nat.add_le_add_left h2 a) _) (runs_le h4)
theorem sin_congr {arr arr' : Array Keyed} {i j : Nat} (h : SIn key arr i j) (e : ∀ k, i ≤ k → k < j → arr'[k]? = arr[k]?) : SIn key arr' i j := by
 intro p q h1 h2 h3
 rw [tk_congr (e p h1 (by exact Nat.lt_of_le_of_lt h2 h3)), tk_congr (e q (by exact Nat.le_trans h1 h2) h3)]
 exact h p q h1 h2 h3
theorem runs_congr {arr arr' : Array Keyed} : ∀ {p : List (Nat × Nat × Nat)} {a b : Nat}, Runs key arr p a b → (∀ k, a ≤ k → k < b → arr'[k]? = arr[k]?) → Runs key arr' p a b
 | [], a, b, h, _ => h
 | r :: p, a, b, ⟨h1, h2, h3, h4⟩, e => by
  have := runs_le h4
  exact ⟨h1, h2, sin_congr h3 fun k a1 a2 => e k a1 (by exact Nat.lt_of_not_le fun hg => lin [a, (r.snd.fst), (p.length), b, k] [(1, (.a (.a (.v 0) (.v 1)) (.v 2)), (.v 3)), (1, (.a (.v 4) (.n 1)), (.a (.v 0) (.v 1))), (1, (.v 3), (.v 4))] rfl this a2 hg), runs_congr h4 fun k a1 a2 => e k (by exact Nat.le_trans (Nat.le_add_right _ _) a1) a2⟩
theorem modify_last {α : Type} {f : α → α} {t : α} : ∀ (p : List α), (p ++ [t]).modify p.length f = p ++ [f t]
 | [] => rfl
 | x :: p => by
  show x :: (p ++ [t]).modify p.length f = x :: (p ++ [f t])
  rw [modify_last p]
theorem runs_pow {arr : Array Keyed} {p : List (Nat × Nat × Nat)} {a b : Nat} {s n u v : Nat} (h : Runs key arr (p ++ [(s, n, u)]) a b) : Runs key arr (p ++ [(s, n, v)]) a b := by
 rw [runs_app] at h ⊢
 exact h
end pure
section walk
variable {prog : Program} {w : World} {A : Around} {E : Value → Shared → Prop} {s : Shared} {kd : SortKind} {O : KeyOrd} {key : Keyed → O.α} {a₀ : Array Keyed}
theorem ts_mergeRun {st : SortSt} {i lo : Nat} {Q : Bool → SortSt → Prop} (hL : LtOk prog w A E s kd O key a₀) (hB : SB kd a₀ st) (hR : Runs key (arrOf st) (pendingOf st).toList 0 lo) (hlo : lo ≤ a₀.size)
  (hi : i + 1 < (pendingOf st).size)
  (h : ∀ st', SB kd a₀ st' → Runs key (arrOf st') (pendingOf st').toList 0 lo → (pendingOf st').size + 1 = (pendingOf st).size → (∀ k, lo ≤ k → (arrOf st')[k]? = (arrOf st)[k]?) → Q true st') :
  wpS (model prog w) A E s (mergeAt' i) Q st := by
 have hl : (pendingOf st).toList.length = (pendingOf st).size := Array.length_toList
 obtain ⟨p1, x, y, p2, e, e1⟩ : ∃ p1 x y p2, (pendingOf st).toList = p1 ++ x :: y :: p2 ∧ i = p1.length := by
  refine ⟨(pendingOf st).toList.take i, (pendingOf st).toList[i], (pendingOf st).toList[i + 1], (pendingOf st).toList.drop (i + 2), ?_, ?_⟩
  ·rw [List.getElem_cons_drop, List.getElem_cons_drop, List.take_append_drop]
  ·rw [List.length_take]; exact Nat.le_antisymm (Nat.le_of_not_lt fun hg => Or.elim (min_or (i) ((pendingOf st).toList.length)) (fun hs0 => lin [i, (min i (pendingOf st).toList.length)] [(1, (.a (.v 1) (.n 1)), (.v 0)), (1, (.v 0), (.v 1))] rfl hg hs0) (fun hs0 => lin [i, ((pendingOf st).size), (min i (pendingOf st).toList.length)] [(1, (.a (.a (.v 0) (.n 1)) (.n 1)), (.v 1)), (1, (.a (.v 2) (.n 1)), (.v 0)), (1, (.v 1), (.v 2))] rfl hi hg hs0)) (Nat.le_of_not_lt fun hg => lin [i, (min i (pendingOf st).toList.length)] [(1, (.v 1), (.v 0)), (1, (.a (.v 0) (.n 1)), (.v 1))] rfl (Nat.min_le_left (i) ((pendingOf st).toList.length)) hg)
 obtain ⟨sa, na, pw⟩ := x
 obtain ⟨sb, nb, pw2⟩ := y
 rw [e] at hR
 obtain ⟨c, R1, a1, a2, a3, b1, b2, b3, R2⟩ := runs_app.mp hR
 dsimp only at a1 a2 a3 b1 b2 b3 R2
 have hc := runs_le R1
 have hd := runs_le R2
 subst a1
 subst b1
 refine ts_mergeAt hL hB e e1 rfl a2 b2 (by exact Nat.le_of_not_lt fun hg => lin [lo, (a₀.size), na, nb, sa, (p2.length)] [(1, (.v 0), (.v 1)), (1, (.a (.a (.a (.v 4) (.v 2)) (.v 3)) (.v 5)), (.v 0)), (1, (.a (.v 1) (.n 1)), (.a (.a (.v 4) (.v 2)) (.v 3)))] rfl hlo hd hg) a3 b3 fun st' hB' hp' hk' hs' => h st' hB' ?_ ?_ ?_
 ·rw [hp', runs_app]
  refine ⟨sa, runs_congr R1 fun k _ h2 => hk' k (.inl h2), rfl, ?_, ?_, ?_⟩
  ·show 0 < na + nb
   exact Nat.le_trans a2 (Nat.le_add_right _ _)
  ·show SIn key (arrOf st') sa (sa + (na + nb))
   rw [← Nat.add_assoc]
   exact hs'
  ·show Runs key (arrOf st') p2 (sa + (na + nb)) lo
   rw [← Nat.add_assoc]
   exact runs_congr R2 fun k h1 _ => hk' k (.inr h1)
 ·have h1 : (pendingOf st').toList.length = (pendingOf st').size := Array.length_toList
  rw [← h1, ← hl, hp', e]
  rw [List.length_append, List.length_append]
  rfl
 ·exact fun k hk => hk' k (.inr (by exact Nat.le_of_not_lt fun hg => lin [lo, na, nb, sa, (p2.length), k] [(1, (.a (.a (.a (.v 3) (.v 1)) (.v 2)) (.v 4)), (.v 0)), (1, (.v 0), (.v 5)), (1, (.a (.v 5) (.n 1)), (.a (.a (.v 3) (.v 1)) (.v 2)))] rfl hd hk hg))
theorem ts_ifS {α β : Type} {st : SortSt} {c : Prop} [Decidable c] {t e : StateT SortSt Sem α} {Q : α → SortSt → Prop} {G : β → StateT SortSt Sem α} (H : β → SortSt → Prop) (x : β) (he : e = G x)
  (key : ∀ x' st', H x' st' → wpS (model prog w) A E s (G x') Q st') (h1 : c → (∀ x' st', H x' st' → wpS (model prog w) A E s (G x') Q st') → wpS (model prog w) A E s t Q st) (h2 : ¬c → H x st) :
  wpS (model prog w) A E s (if c then t else e) Q st := ts_if (fun h => h1 h key) (fun h => he ▸ key x st (h2 h))
structure RunAt (kd : SortKind) (key : Keyed → O.α) (a₀ : Array Keyed) (lo n : Nat) (st : SortSt) : Prop where
 b : SB kd a₀ st
 r : Runs key (arrOf st) (pendingOf st).toList 0 lo
 n1 : 1 ≤ n
 n2 : lo + n ≤ a₀.size
 s : SIn key (arrOf st) lo (lo + n)
structure Wait (kd : SortKind) (key : Keyed → O.α) (a₀ : Array Keyed) (lo : Nat) (st3 st4 : SortSt) : Prop where
 b : SB kd a₀ st4
 r : Runs key (arrOf st4) (pendingOf st4).toList 0 lo
 z : 0 < (pendingOf st4).size
 k : ∀ k, lo ≤ k → (arrOf st4)[k]? = (arrOf st3)[k]?
theorem ts_runs {st : SortSt} {Q : Unit → SortSt → Prop} (hL : LtOk prog w A E s kd O key a₀) (hB : SB kd a₀ st) (hP : pendingOf st = #[])
  (h : ∀ st', (arrOf st').Perm a₀ → failedOf st' = none → SIn key (arrOf st') 0 a₀.size → Q () st') : wpS (model prog w) A E s sortRuns' Q st := by
 rw [sortRuns'_eq]
 refine ts_getB ?_
 simp only [hB.size]
 generalize minRun' a₀.size a₀.size 0 = mr
 refine ts_for (fun x c st' => ∃ lo, c = (none, lo) ∧ SB kd a₀ st' ∧ Runs key (arrOf st') (pendingOf st').toList 0 lo ∧ lo ≤ a₀.size ∧ x ≤ lo)
  (fun c st' => c = (none, a₀.size) ∧ SB kd a₀ st' ∧ Runs key (arrOf st') (pendingOf st').toList 0 a₀.size) ?step ?fin ⟨0, rfl, hB, by rw [hP]; rfl, Nat.zero_le _, Nat.le_refl _⟩ ?post
 case fin =>
  rintro c st' ⟨lo, rfl, hB', hR, h1, h2⟩
  have : lo = a₀.size := by exact Nat.le_antisymm (Nat.le_of_not_lt fun hg => lin [lo, (a₀.size)] [(1, (.v 0), (.v 1)), (1, (.a (.v 1) (.n 1)), (.v 0))] rfl h1 hg) (Nat.le_of_not_lt fun hg => lin [lo, (a₀.size)] [(1, (.v 1), (.v 0)), (1, (.a (.v 0) (.n 1)), (.v 1))] rfl h2 hg)
  subst this
  exact ⟨rfl, hB', hR⟩
 case step =>
  rintro F hF x c st' ⟨lo, rfl, hB', hR, h1, h2⟩
  subst hF
  refine ts_if (fun e1 => ?_) (fun e1 => ?_)
  ·have : lo = a₀.size := by exact Nat.le_antisymm h1 e1
   subst this
   exact wpS_pure ⟨rfl, hB', hR⟩
  refine ts_bindK fun K hK => ts_count hL (by exact Nat.le_of_not_lt fun hg => lin [lo, (a₀.size), (a₀.size - (none, lo).snd)] [(1, (.a (.v 2) (.v 0)), (.v 1)), (1, (.a (.v 1) (.n 1)), (.a (.v 0) (.v 2)))] rfl (sub_hi (Nat.le_of_not_lt fun hg => lin [lo, (a₀.size)] [(1, (.v 0), (.v 1)), (1, (.a (.v 1) (.n 1)), (.v 0))] rfl h1 hg)) hg) (Nat.sub_pos_of_lt (Nat.lt_of_not_le e1)) hB' fun m st2 hB2 hK2 hm1 hm2 hs2 => ?_
  have hR2 : Runs key (arrOf st2) (pendingOf st2).toList 0 lo := by rw [hK2.pend]; exact runs_congr hR fun k _ hk => hK2.low k hk
  have hx : x ≤ lo := h2
  clear hK2 hR hB' h2
  subst hK
  dsimp only
  refine' ts_ifS (RunAt kd key a₀ lo) m ?he ?_ (fun e2 K => ?_) (fun _ => ⟨hB2, hR2, hm1, by exact Nat.le_of_not_lt fun hg => lin [lo, (a₀.size), m, (a₀.size - (none, lo).snd)] [(1, (.v 2), (.v 3)), (1, (.a (.v 3) (.v 0)), (.v 1)), (1, (.a (.v 1) (.n 1)), (.a (.v 0) (.v 2)))] rfl hm2 (sub_hi (Nat.le_of_not_lt fun hg => lin [lo, (a₀.size)] [(1, (.v 0), (.v 1)), (1, (.a (.v 1) (.n 1)), (.v 0))] rfl h1 hg)) hg, hs2⟩)
  case he => apply Eq.refl
  ·clear hB2 hm1 hm2 hs2 hR2
   rintro n st3 ⟨hB3, hR3, hn1, hn2, hs3⟩
   refine ts_getB ?_
   cases hb : (pendingOf st3).back? with
   | none =>
    refine ts_modB (wpS_pure ⟨_, rfl, ⟨hB3.perm, hB3.kind, hB3.failed⟩, ?_, hn2, by exact Nat.le_of_not_lt fun hg => lin [lo, x, n] [(1, (.v 1), (.v 0)), (1, (.n 1), (.v 2)), (1, (.a (.a (.v 0) (.v 2)) (.n 1)), (.a (.v 1) (.n 1)))] rfl hx hn1 hg⟩)
    show Runs key (arrOf st3) ((pendingOf st3).push _).toList 0 _
    rw [Array.toList_push, runs_app]
    exact ⟨lo, hR3, rfl, hn1, hs3, rfl⟩
   | some t =>
    obtain ⟨s1, n1, o1⟩ := t
    refine ts_for (fun y c st4 => c = (none, ()) ∧ Wait kd key a₀ lo st3 st4) (fun c st4 => c = (none, ()) ∧ Wait kd key a₀ lo st3 st4) ?_ (fun _ _ hh => hh) ⟨rfl, hB3, hR3, ?_, fun _ _ => rfl⟩ ?_
    ·rintro F hF y c st4 ⟨rfl, hW⟩
     subst hF
     refine ts_getB ?_
     by_cases hz : (pendingOf st4).size > 1
     ·rw [if_pos hz, getElem?_pos (pendingOf st4) ((pendingOf st4).size - 2) (by exact Nat.lt_of_not_le fun hg => lin [((pendingOf st4).size), ((pendingOf st4).size - 2)] [(1, (.a (.v 1) (.n 2)), (.v 0)), (1, (.v 0), (.v 1))] rfl (sub_hi (Nat.le_of_not_lt fun hg => lin [((pendingOf st4).size)] [(1, (.a (.n 1) (.n 1)), (.v 0)), (1, (.a (.v 0) (.n 1)), (.n 2))] rfl hz hg)) hg)]
      refine ts_if (fun e5 => wpS_pure ⟨rfl, hW⟩) (fun e5 => ?_)
      refine wpS_bind (ts_mergeRun hL hW.b hW.r h1 (by exact Nat.lt_of_not_le fun hg => lin [((pendingOf st4).size), ((pendingOf st4).size - 2)] [(1, (.a (.v 1) (.n 2)), (.v 0)), (1, (.v 0), (.a (.v 1) (.n 1)))] rfl (sub_hi (Nat.le_of_not_lt fun hg => lin [((pendingOf st4).size)] [(1, (.a (.n 1) (.n 1)), (.v 0)), (1, (.a (.v 0) (.n 1)), (.n 2))] rfl hz hg)) hg) fun st5 hB5 hR5 hz5 hk5 => ?_)
      exact wpS_pure ⟨rfl, hB5, hR5, by exact Nat.lt_of_not_le fun hg => lin [((pendingOf st4).size), ((pendingOf st5).size)] [(1, (.a (.n 1) (.n 1)), (.v 0)), (1, (.v 0), (.a (.v 1) (.n 1))), (1, (.v 1), (.n 0))] rfl hz (Nat.le_of_eq (Eq.symm hz5)) hg, fun k hk => (hk5 k hk).trans (hW.k k hk)⟩
     ·rw [if_neg hz]
      exact wpS_pure ⟨rfl, hW⟩
    ·rcases Nat.eq_zero_or_pos (pendingOf st3).size with h0 | h0
     ·rw [Array.eq_empty_of_size_eq_zero h0] at hb; simp at hb
     ·exact h0
    ·rintro K hK c st4 ⟨rfl, hB4, hR4, hz4, hk4⟩
     subst hK
     refine ts_modB ?_
     refine ts_modB (wpS_pure ⟨_, rfl, ⟨hB4.perm, hB4.kind, hB4.failed⟩, ?_, hn2, by exact Nat.le_of_not_lt fun hg => lin [lo, x, n] [(1, (.v 1), (.v 0)), (1, (.n 1), (.v 2)), (1, (.a (.a (.v 0) (.v 2)) (.n 1)), (.a (.v 1) (.n 1)))] rfl hx hn1 hg⟩)
     show Runs key (arrOf st4) (Array.push (Array.modify (pendingOf st4) ((pendingOf st4).size - 1) _) _).toList 0 _
     rw [Array.toList_push, runs_app]
     refine ⟨lo, ?_, rfl, hn1, sin_congr hs3 fun k hk _ => hk4 k hk, rfl⟩
     have hl : (pendingOf st4).toList.length = (pendingOf st4).size := Array.length_toList
     obtain ⟨p, t, et⟩ : ∃ p t, (pendingOf st4).toList = p ++ [t] := by
      have hne' : (pendingOf st4).toList ≠ [] := fun h0 => by rw [h0] at hl; simp at hl; exact lin [((pendingOf st4).size)] [(1, (.a (.n 0) (.n 1)), (.v 0)), (1, (.v 0), (.n 0))] rfl hz4 (Nat.le_of_eq (Eq.symm hl))
      exact ⟨_, _, (List.dropLast_concat_getLast hne').symm⟩
     rw [Array.toList_modify, ← hl, et, List.length_append, List.length_singleton, Nat.add_sub_cancel]
     obtain ⟨u, v, z⟩ := t
     rw [et] at hR4
     rw [modify_last]
     exact runs_pow hR4
  ·refine ts_ruleB ?_
   refine wpS_bind (ts_bin hL (Nat.le_trans (Nat.add_le_add_left (Nat.min_le_left _ _) lo) (Nat.le_of_eq (Nat.add_sub_cancel' h1))) (by exact Nat.le_of_not_lt fun hg => Or.elim (sub_or (a₀.size) ((none, lo).snd)) (fun hs0 => Or.elim (min_or (a₀.size - lo) (mr)) (fun hs1 => lin [m, (a₀.size - (none, lo).snd), (min (a₀.size - lo) mr)] [(1, (.v 0), (.v 1)), (1, (.a (.v 2) (.n 1)), (.v 0)), (1, (.v 1), (.v 2))] rfl hm2 hg hs1) (fun hs1 => lin [m, mr, (min (a₀.size - lo) mr)] [(1, (.a (.v 0) (.n 1)), (.v 1)), (1, (.a (.v 2) (.n 1)), (.v 0)), (1, (.v 1), (.v 2))] rfl e2 hg hs1)) (fun hs0 => lin [m, (a₀.size - (none, lo).snd)] [(1, (.n 1), (.v 0)), (1, (.v 0), (.v 1)), (1, (.v 1), (.n 0))] rfl hm1 hm2 (Nat.le_of_eq hs0))) hB2 hs2 fun st3 hB3 hK3 hs3 => ?_)
   exact K _ st3 ⟨hB3, by rw [hK3.pend]; exact runs_congr hR2 fun k _ hk => hK3.low k hk, by exact Nat.le_of_not_lt fun hg => Or.elim (sub_or (a₀.size) ((none, lo).snd)) (fun hs0 => Or.elim (min_or (a₀.size - lo) (mr)) (fun hs1 => lin [m, (a₀.size - (none, lo).snd), (min (a₀.size - lo) mr)] [(1, (.n 1), (.v 0)), (1, (.v 0), (.v 1)), (1, (.a (.v 2) (.n 1)), (.n 1)), (1, (.v 1), (.v 2))] rfl hm1 hm2 hg hs1) (fun hs1 => lin [m, mr, (min (a₀.size - lo) mr)] [(1, (.n 1), (.v 0)), (1, (.a (.v 0) (.n 1)), (.v 1)), (1, (.a (.v 2) (.n 1)), (.n 1)), (1, (.v 1), (.v 2))] rfl hm1 e2 hg hs1)) (fun hs0 => lin [m, (a₀.size - (none, lo).snd)] [(1, (.n 1), (.v 0)), (1, (.v 0), (.v 1)), (1, (.v 1), (.n 0))] rfl hm1 hm2 (Nat.le_of_eq hs0)), by omega, hs3⟩
 case post =>
  rintro K hK c st' ⟨rfl, hB', hR⟩
  subst hK
  refine ts_for (fun x c st'' => c = (none, ()) ∧ SB kd a₀ st'' ∧ Runs key (arrOf st'') (pendingOf st'').toList 0 a₀.size ∧ (pendingOf st'').size + x ≤ a₀.size)
   (fun c st'' => c = (none, ()) ∧ SB kd a₀ st'' ∧ Runs key (arrOf st'') (pendingOf st'').toList 0 a₀.size ∧ (pendingOf st'').size ≤ 1) ?cstep ?cfin ?cinit ?cpost
  case cinit =>
   have := runs_le hR
   rw [Array.length_toList] at this
   exact ⟨rfl, hB', hR, by exact Nat.le_trans (Nat.le_add_left _ _) this⟩
  case cfin =>
   rintro c st'' ⟨rfl, hB4, hR4, hx⟩
   exact ⟨rfl, hB4, hR4, by exact Nat.le_of_not_lt fun hg => lin [((pendingOf st'').size), (max 0 a₀.size)] [(1, (.a (.v 0) (.v 1)), (.v 1)), (1, (.a (.n 1) (.n 1)), (.v 0))] rfl hx hg⟩
  case cpost =>
   rintro K hK c st'' ⟨rfl, hB4, hR4, hx⟩
   subst hK
   refine wpS_pure (h _ hB4.perm hB4.failed ?_)
   have hl : (pendingOf st'').toList.length ≤ 1 := by rw [Array.length_toList]; exact hx
   generalize (pendingOf st'').toList = P at hR4 hl
   match P, hR4, hl with
   | [], e, _ => intro p q _ _ h3; have : (0 : Nat) = a₀.size := e; (rename_i zz1 zz0; exact False.elim (lin [p, q, (a₀.size)] [(1, (.n 0), (.v 0)), (1, (.v 0), (.v 1)), (1, (.a (.v 1) (.n 1)), (.v 2)), (1, (.v 2), (.n 0))] rfl zz1 zz0 h3 (Nat.le_of_eq (Eq.symm this))))
   | [r], ⟨_, _, h3, h4⟩, _ => rw [show a₀.size = 0 + r.2.1 from (h4 : 0 + r.2.1 = a₀.size).symm]; exact h3
   | _ :: _ :: _, _, hl => simp at hl
  case cstep =>
   rintro F hF x c st'' ⟨rfl, hB4, hR4, hx4⟩
   subst hF
   refine ts_getB ?_
   refine ts_if (fun e1 => ?_) (fun e1 => ?_)
   ·exact wpS_pure ⟨rfl, hB4, hR4, e1⟩
   refine wpS_bind (ts_mergeRun hL hB4 hR4 (Nat.le_refl _) ?_ fun st5 hB5 hR5 hz5 _ => ?_)
   ·have hif : ∀ (c : Prop) [Decidable c] (n : Nat), 1 < n → (if c then n - 2 - 1 else n - 2) + 1 < n := by intro c _ n hn; split <;> (first | exact Nat.lt_of_not_le fun hg => Or.elim (sub_or (n - 2) (1)) (fun hs0 => lin [n, (n - 2 - 1), (n - 2)] [(1, (.a (.v 2) (.n 2)), (.v 0)), (1, (.v 0), (.a (.v 1) (.n 1))), (1, (.a (.v 1) (.n 1)), (.v 2))] rfl (sub_hi (Nat.le_of_not_lt fun hg => lin [n] [(1, (.a (.n 1) (.n 1)), (.v 0)), (1, (.a (.v 0) (.n 1)), (.n 2))] rfl hn hg)) hg (Nat.le_of_eq hs0)) (fun hs0 => lin [n, (n - 2 - 1)] [(1, (.a (.n 1) (.n 1)), (.v 0)), (1, (.v 0), (.a (.v 1) (.n 1))), (1, (.v 1), (.n 0))] rfl hn hg (Nat.le_of_eq hs0)) | exact Nat.lt_of_not_le fun hg => lin [n, (n - 2)] [(1, (.a (.v 1) (.n 2)), (.v 0)), (1, (.v 0), (.a (.v 1) (.n 1)))] rfl (sub_hi (Nat.le_of_not_lt fun hg => lin [n] [(1, (.a (.n 1) (.n 1)), (.v 0)), (1, (.a (.v 0) (.n 1)), (.n 2))] rfl hn hg)) hg)
    exact hif _ _ (by exact Nat.lt_of_not_le e1)
   ·exact wpS_pure ⟨rfl, hB5, hR5, by exact Nat.le_of_not_lt fun hg => lin [((pendingOf st'').size), x, (a₀.size), ((pendingOf st5).size)] [(1, (.a (.v 0) (.v 1)), (.v 2)), (1, (.a (.v 3) (.n 1)), (.v 0)), (1, (.a (.v 2) (.n 1)), (.a (.v 3) (.a (.v 1) (.n 1))))] rfl hx4 (Nat.le_of_eq hz5) hg⟩
end walk
end Mine
end
noncomputable section
namespace Mine
open PySem PyProof.Rows
section
variable {prog : Program} {w : World} {A : Around} {E : Value → Shared → Prop} {s : Shared} {kd : SortKind} {O : KeyOrd} {key : Keyed → O.α}
theorem sin_srt {arr : Array Keyed} (h : SIn key arr 0 arr.size) : Srt key arr.toList := by
 refine List.pairwise_iff_getElem.mpr fun i j hi hj hij => ?_
 rw [Array.length_toList] at hi hj
 have := h i j (Nat.zero_le _) (Nat.le_of_lt hij) hj
 rw [tk_get hi, tk_get hj] at this
 simpa using this
theorem ts_sort {a : Addr} {vs : List Value} {n : Nat} {P : Fin → Shared → Prop} (ho : s.heap.get? a = some (seqObj "list" vs.toArray n)) (hz : vs.length ≤ 16777216)
  (hkk : 2 ≤ vs.length → ∀ s' : Shared, (∀ b o, b ≠ a → s.heap.get? b = some o → s'.heap.get? b = some o) → ∀ Q : SortKind → Shared → Prop, Q kd s' → wpAny (model prog w) A (keyKind' vs.toArray) Q E s')
  (hL : ∀ s' : Shared, (∀ b o, b ≠ a → s.heap.get? b = some o → s'.heap.get? b = some o) → LtOk prog w A E s' kd O key (pairsOf vs))
  (h : ∀ out : List Value, out.Perm vs → (out.Pairwise fun x y => O.kle (key (x, x)) (key (y, y))) → P (.done (.ret .none)) { s with heap := sortedHeap s.heap a vs out.toArray }) :
  wpAny (model prog w) A (Builtin.«list.sort» ⟨[.ref a], []⟩) P E s := by
 rw [list_sort_plain]
 have hsl : sizeLine = 16777216 := sizeLine_eq
 have ha : a < s.heap.objs.size := Heap.lt_size ho
 refine wpAny_bind (listItems_at ho rfl ?_)
 refine wpAny_bind (listUpdate_at ho rfl ?_ (hsz := by rw [List.size_toArray]; exact hz) (hsz2 := by simp))
 obtain ⟨e1, ho1⟩ : ∃ e1, (s.heap.update a (Obj.mapSeq fun _ => #[])).get? a = some (seqObj "list" #[] e1) := ⟨_, get?_update_seq ho (fun _ => #[])⟩
 refine wpAny_bind (seqEpoch_at ho1 rfl ?_)
 refine wpAny_bind (wpAny_newTuple ?_ (by rw [List.toList_toArray]; exact hz))
 refine wpAny_bind (wpAny_newList ?_)
 refine wpAny_holding ?_
 have ho6 : (((s.heap.update a (Obj.mapSeq fun _ => #[])).push (seqObj "tuple" vs.toArray 0)).push (seqObj "list" #[] 0)).get? a = some (seqObj "list" #[] e1) := by
  rw [Heap.get?_push_ne _ _ _ (by rw [size_push', Heap.size_update]; exact Nat.ne_of_lt (Nat.lt_succ_of_lt ha)), Heap.get?_push_ne _ _ _ (by rw [Heap.size_update]; exact Nat.ne_of_lt ha)]
  exact ho1
 have hkeep : ∀ b o, b ≠ a → s.heap.get? b = some o → (((s.heap.update a (Obj.mapSeq fun _ => #[])).push (seqObj "tuple" vs.toArray 0)).push (seqObj "list" #[] 0)).get? b = some o := by
  intro b o hb e
  have hlt := Heap.lt_size e
  rw [Heap.get?_push_ne _ _ _ (by rw [size_push', Heap.size_update]; exact Nat.ne_of_lt (Nat.lt_succ_of_lt hlt)), Heap.get?_push_ne _ _ _ (by rw [Heap.size_update]; exact Nat.ne_of_lt hlt), Heap.get?_update_ne _ _ _ _ hb]
  exact e
 show wpAny (model prog w) A _ P E { s with heap := ((s.heap.update a (Obj.mapSeq fun _ => #[])).push (seqObj "tuple" vs.toArray 0)).push (seqObj "list" #[] 0) }
 dsimp only
 have hsz : vs.toArray.size = vs.length := by simp
 have fin : ∀ st' : SortSt, (arrOf st').Perm (pairsOf vs) → SIn key (arrOf st') 0 (pairsOf vs).size →
   P (.done (.ret .none)) { s with heap := sortedHeap s.heap a vs ((arrOf st').map (·.2)) } := by
  intro st' hp hs
  have hl : (arrOf st').toList.Perm (vs.zip vs) := by rw [← pairsOf_toList]; exact Array.perm_iff_toList_perm.mp hp
  have hmem : ∀ p, p ∈ (arrOf st').toList → p.1 = p.2 := fun p hp' => (mem_zip_self (hl.mem_iff.mp hp')).1
  have e : ((arrOf st').map (·.2)) = ((arrOf st').toList.map (·.2)).toArray := by rw [← Array.toList_map, Array.toArray_toList]
  rw [e]
  refine h _ ?_ ?_
  ·have := hl.map (·.2)
   rwa [List.map_snd_zip (Nat.le_refl _)] at this
  ·rw [← hp.size_eq] at hs
   have hsr := sin_srt hs
   rw [List.pairwise_map]
   refine hsr.imp_of_mem fun {x y} hx hy hxy => ?_
   have ex : (x.2, x.2) = x := Prod.ext (hmem x hx).symm rfl
   have ey : (y.2, y.2) = y := Prod.ext (hmem y hy).symm rfl
   rw [ex, ey]
   exact hxy
 by_cases h2 : vs.toArray.size < 2
 ·rw [if_pos h2, if_pos h2]
  refine wpAny_bind (wpAny_pure ?_)
  rw [StateT.run_pure]
  refine wpAny_bind (wpAny_pure ?_)
  dsimp only
  refine wpAny_bind (seqEpoch_at ho6 rfl ?_)
  refine wpAny_bind (listUpdate_at ho6 rfl ?_ (hsz2 := by rw [Array.size_map]; show (pairsOf vs).size ≤ _; rw [pairsOf_size]; exact Nat.le_succ_of_le hz))
  simp only [bne_self_eq_false, Bool.false_eq_true, if_false]
  refine wpAny_pure (fin (SortSt.mk' general' (vs.toArray.zip vs.toArray) #[] 7 none) (Array.Perm.refl _) ?_)
  intro i j _ hij hj
  have : i = j := by rw [pairsOf_size] at hj; omega
  subst this; exact KeyOrd.kle_refl _
 ·rw [if_neg h2, if_neg h2]
  refine wpAny_bind (hkk (by exact Nat.le_of_not_lt h2) _ hkeep _ ?_)
  refine wpAny_bind (wpAny_mono (ts_runs (a₀ := pairsOf vs) (st := SortSt.mk' kd (vs.toArray.zip vs.toArray) #[] 7 none)
   (Q := fun _ st' => (arrOf st').Perm (pairsOf vs) ∧ failedOf st' = none ∧ SIn key (arrOf st') 0 (pairsOf vs).size)
   (hL _ hkeep) ⟨Array.Perm.refl _, rfl, rfl⟩ rfl fun st' a1 a2 a3 => ⟨a1, a2, a3⟩) ?_ fun _ _ e => e)
  rintro ⟨⟨⟩, st'⟩ s' ⟨rfl, hp, hf, hs⟩
  dsimp only
  refine wpAny_bind (seqEpoch_at ho6 rfl ?_)
  refine wpAny_bind (listUpdate_at ho6 rfl ?_ (hsz2 := by refine Nat.le_trans (Nat.le_of_eq ((Array.size_map ..).trans (hp.size_eq.trans (pairsOf_size _)))) ?_; exact Nat.le_succ_of_le hz))
  rw [hf]
  simp only [bne_self_eq_false, Bool.false_eq_true, if_false]
  exact wpAny_pure (fin st' hp hs)
theorem lt_one {κ : PyProof.Rows.KeyKind} (hO : κ.OneLt) {a₀ : Array Keyed} (h0 : KeysOf κ a₀) : LtOk prog w A E s oneType' κ.toKeyOrd (fun p => (κ.keyOf p.1).getD κ.dflt) a₀ := by
 intro x y hx hy Q st hk h
 obtain ⟨ax, ex⟩ := h0 x hx
 obtain ⟨ay, ey⟩ := h0 y hy
 dsimp only at h
 rw [ex, ey] at h
 rw [lt'_eq]
 refine ts_getB ?_
 rw [hk, keyLt'_oneType]
 refine wpS_bind (wpS_lift (wpAny_attempt (hO prog w A _ s x.1 y.1 ax ay ex ey ⟨rfl, ?_⟩)))
 exact wpS_pure h
theorem sort_strs {a : Addr} {vs : List Value} {ss : List Str} {n : Nat} {P : Fin → Shared → Prop} (ho : s.heap.get? a = some (seqObj "list" vs.toArray n)) (hz : vs.length ≤ 16777216) (hS : StrsAre vs ss)
  (h : ∀ (out : List Value) (ss' : List Str), StrsAre out ss' → ss'.Perm ss → (ss'.Pairwise fun x y => ¬ y.cps.toList < x.cps.toList) → P (.done (.ret .none)) { s with heap := sortedHeap s.heap a vs out.toArray }) :
  wpAny (model prog w) A (Builtin.«list.sort» ⟨[.ref a], []⟩) P E s := by
 refine ts_sort (kd := oneType') (O := PyProof.Rows.strKind.toKeyOrd) (key := fun p => (PyProof.Rows.strKind.keyOf p.1).getD PyProof.Rows.strKind.dflt) ho hz (fun h2 s' _ Q q => ?_) (fun s' _ => lt_one PyProof.Rows.strKind_oneLt hS.keysOf) fun out hp hs => ?_
 ·match vs, h2, hS with
  | v₁ :: v₂ :: rest, _, hS => rw [keyKind_strs hS]; exact wpAny_pure q
 ·refine h out (out.map strOf) (strsAre_map out fun v hv => hS.all v (hp.mem_iff.mp hv)) ?_ ?_
  ·rw [← hS.strs]; exact hp.map _
  ·rw [List.pairwise_map]
   refine hs.imp_of_mem fun {x y} hx hy hxy => ?_
   obtain ⟨a1, t1, rfl⟩ := hS.all x (hp.mem_iff.mp hx)
   obtain ⟨a2, t2, rfl⟩ := hS.all y (hp.mem_iff.mp hy)
   have : decide (a2.cps.toList < a1.cps.toList) = false := hxy
   exact of_decide_eq_false this
end
end Mine
end
noncomputable section
namespace Mine
open PySem PyProof.Rows
theorem lay_led (t : SetTable) (es : Array (Int × Value)) (h : Int) (x : Value) : (layNew t es h x).2.1.led = t.led ∧ (t.plain = false → (layNew t es h x).2.1.plain = false) := by
 unfold layNew
 split
 ·dsimp only
  unfold SetTable.orStandIn
  split
  ·exact ⟨rfl, fun h => h⟩
  ·exact ⟨rfl, fun _ => rfl⟩
 ·exact ⟨rfl, fun _ => rfl⟩
theorem relay_led (t : SetTable) (es : Array (Int × Value)) (n : Nat) : (relayAll t es n).2.1.led = t.led ∧ (t.plain = false → (relayAll t es n).2.1.plain = false) := by
 unfold relayAll
 split
 ·rename_i t' order hr
  have h1 : t'.led = t.led ∧ t'.plain = t.plain := by
   unfold SetTable.relaid SetTable.laid at hr
   obtain ⟨ow, -, hr⟩ := Option.bind_eq_some_iff.mp hr
   cases hr
   exact ⟨rfl, rfl⟩
  dsimp only
  split
  ·exact ⟨h1.1, fun h => h1.2.trans h⟩
  ·exact ⟨rfl, fun _ => rfl⟩
 ·exact ⟨rfl, fun _ => rfl⟩
noncomputable def SetX (prog : Program) (w : World) (h : Heap) (a : Addr) (led : Bool) (ks : List Str) : Prop :=
 ∃ o es ep t, h.get? a = some o ∧ o.ExactSet ∧ o.data = .set es ep t ∧ ElemsOf (PySem.strKind prog w) es.toList ∧ es.size < scanBound ∧ t.fits es.size = true ∧ t.led = led ∧ (es.size ≠ 0 → t.plain = false) ∧
  StrsAre (es.toList.map (·.2)) ks ∧ ks.Nodup
theorem strs_perm {vs vs' : List Value} {ks : List Str} (h : StrsAre vs ks) (p : vs'.Perm vs) : ∃ ks', StrsAre vs' ks' ∧ ks'.Perm ks := by
 refine ⟨vs'.map strOf, strsAre_map vs' fun v hv => h.all v (p.mem_iff.mp hv), ?_⟩
 rw [← h.strs]
 exact p.map _
theorem strs_app {vs us : List Value} {ks js : List Str} (h : StrsAre vs ks) (h' : StrsAre us js) : StrsAre (vs ++ us) (ks ++ js) := by
 induction h with
 | nil => exact h'
 | cons x t r ih => exact .cons x t ih
section
variable {prog : Program} {w : World} {A : Around} {E : Value → Shared → Prop} {s : Shared}
theorem sk_is (x : Str) (t : Tok) : (PySem.strKind prog w).is x (.str x t) = true := by
 show Value.isStrOf x (.str x t) = true
 simp [Value.isStrOf]
theorem sk_eq {k : Str} {v : Value} (h : (PySem.strKind prog w).is k v = true) : ∃ t, v = .str k t := Value.isStrOf_shape h
theorem setX_store {h : Heap} {a : Addr} {o : Obj} {es es' : Array (Int × Value)} {ep : Nat} {t t' : SetTable} {led : Bool} {ks : List Str} (ho : h.get? a = some o) (hex : o.ExactSet) (hd : o.data = .set es ep t)
  (hel : ElemsOf (PySem.strKind prog w) es'.toList) (hb : es'.size < scanBound) (hf : t'.fits es'.size = true) (hl : t'.led = led) (hp : t'.plain = false) (hS : StrsAre (es'.toList.map (·.2)) ks) (hn : ks.Nodup) :
  (h.update a (Obj.putSet es' t')).get? a = some { o with data := .set es' (ep + 1) t' } ∧ SetX prog w (h.update a (Obj.putSet es' t')) a led ks := by
 have hg : (h.update a (Obj.putSet es' t')).get? a = some { o with data := .set es' (ep + 1) t' } := by
  have := Heap.get?_update_self (Obj.putSet es' t') ho (by rw [putSet_of es' t' hd]; rfl)
  rw [putSet_of es' t' hd] at this; exact this
 exact ⟨hg, _, es', ep + 1, t', hg, hex, rfl, hel, hb, hf, hl, fun _ => hp, hS, hn⟩
theorem setX_add {a : Addr} {led : Bool} {ks : List Str} {x : Str} {u : Tok} {Q : Bool → Shared → Prop} (hS : SetX prog w s.heap a led ks) (hroom : ks.length + 1 < scanBound)
  (h : ∀ h' ks', Heap.SameBut a s.heap h' → SetX prog w h' a led ks' → (∀ y, y ∈ ks' ↔ y = x ∨ y ∈ ks) → ks'.length ≤ ks.length + 1 → ∀ b, Q b { s with heap := h' }) :
  wpAny (model prog w) A (setAddHashed a (.str x u) ((PySem.strKind prog w).hash x)) Q E s := by
 obtain ⟨o, es, ep, t, ho, hex, hd, hel, hb, hf, hled, hpl, hks, hnd⟩ := hS
 have hsize : es.size = ks.length := by
  have h1 := congrArg List.length hks.strs
  simpa using h1
 have hkey := sk_is (prog := prog) (w := w) x u
 have hsc : (Value.str x u).scannable = true := rfl
 unfold setAddHashed setAddHashedIn
 refine wpAny_holding (wpAny_bind (wpAny_setState_of ho hd hf ?_))
 dsimp only
 rw [byScan_of hsc hb hel]
 simp only [↓reduceIte]
 unfold setAddByScan
 refine wpAny_bind ?_
 refine wpAny_bind (wpAny_rule ?_)
 refine wpAny_bind (wpAny_setScan_of hkey ho hd hf hel ?_)
 have hmem : (∃ e ∈ es.toList, (PySem.strKind prog w).is x e.2 = true) ↔ x ∈ ks := by
  rw [← hks.strs]
  constructor
  ·rintro ⟨e, he, hp⟩
   obtain ⟨t', e'⟩ := sk_eq hp
   exact List.mem_map.mpr ⟨e.2, List.mem_map.mpr ⟨e, he, rfl⟩, by rw [e']; rfl⟩
  ·intro hx
   obtain ⟨v, hv, e1⟩ := List.mem_map.mp hx
   obtain ⟨e, he, rfl⟩ := List.mem_map.mp hv
   obtain ⟨y, t', e2⟩ := hks.all _ hv
   rw [e2] at e1
   have : y = x := e1
   subst this
   exact ⟨e, he, by rw [e2]; exact sk_is _ _⟩
 cases hr : List.findIdx? (fun e => (PySem.strKind prog w).is x e.2) es.toList with
 | some j =>
  dsimp only
  obtain ⟨hj, hpj, _⟩ := List.findIdx?_eq_some_iff_getElem.mp hr
  have hxk : x ∈ ks := hmem.mp ⟨es.toList[j], List.getElem_mem hj, hpj⟩
  refine wpAny_pure (wpAny_pure ?_)
  have e : s = { s with heap := s.heap } := by cases s; rfl
  have := h s.heap ks (Heap.SameBut.refl a s.heap) ⟨o, es, ep, t, ho, hex, hd, hel, hb, hf, hled, hpl, hks, hnd⟩ (fun y => ⟨.inr, fun z => z.elim (fun z => z ▸ hxk) id⟩) (Nat.le_succ _)
  rw [e]; exact this _
 | none =>
  dsimp only
  have hxk : x ∉ ks := fun hx => by
   obtain ⟨e, he, hp⟩ := hmem.mpr hx
   have := List.findIdx?_eq_none_iff.mp hr e he
   rw [hp] at this; exact Bool.noConfusion this
  have hperm := layNew_perm t es ((PySem.strKind prog w).hash x) (.str x u)
  have hfits := layNew_fits t es ((PySem.strKind prog w).hash x) (.str x u)
  have hlays := lay_led t es ((PySem.strKind prog w).hash x) (.str x u)
  generalize hL : layNew t es ((PySem.strKind prog w).hash x) (.str x u) = L at hperm hfits hlays ⊢
  obtain ⟨es1, t1, wasDummy, gave⟩ := L
  dsimp only at hperm hfits hlays ⊢
  rw [Array.toList_push] at hperm
  have hel1 : ElemsOf (PySem.strKind prog w) es1.toList := (hel.push hkey hsc).perm hperm
  have hsz1 : es1.size = ks.length + 1 := by rw [← Array.length_toList, hperm.length_eq, List.length_append, Array.length_toList, hsize]; rfl
  have hb1 : es1.size < scanBound := by exact Nat.lt_of_not_le fun hg => lin [(ks.length), scanBound, (es1.size)] [(1, (.a (.a (.v 0) (.n 1)) (.n 1)), (.v 1)), (1, (.v 2), (.a (.v 0) (.n 1))), (1, (.v 1), (.v 2))] rfl hroom (Nat.le_of_eq hsz1) hg
  have hp1 : (es1.toList.map (·.2)).Perm (es.toList.map (·.2) ++ [Value.str x u]) := by
   have := hperm.map (·.2)
   rwa [List.map_append] at this
  obtain ⟨ks1, hks1, hpk⟩ := strs_perm (strs_app hks (.cons x u .nil)) hp1
  have hmem1 : ∀ y, y ∈ ks1 ↔ y = x ∨ y ∈ ks := fun y => by
   rw [hpk.mem_iff, List.mem_append, List.mem_singleton]
   exact Or.comm
  have hnd1 : ks1.Nodup := by
   refine hpk.nodup_iff.mpr (List.nodup_append.mpr ⟨hnd, by simp, ?_⟩)
   intro y hy z hz
   rw [List.mem_singleton.mp hz]
   rintro rfl; exact hxk hy
  have hlen1 : ks1.length ≤ ks.length + 1 := by rw [hpk.length_eq, List.length_append]; exact Nat.le_refl _
  have fin : ∀ t2 : SetTable, t2.fits es1.size = true → t2.led = led → t2.plain = false →
    wpAny (model prog w) A (do
     storeSet a es1 t2
     if (!wasDummy && t2.tooFull) = true then do
       (match (relayAll t2 es1 (SetTable.grown es1.size)).2.2 with | true => rule "set.scan.the-table-gave-way" | false => pure () : Sem Unit)
       storeSet a (relayAll t2 es1 (SetTable.grown es1.size)).1 (relayAll t2 es1 (SetTable.grown es1.size)).2.1
       pure (some true)
      else pure (some true)) (fun r s' => wpAny (model prog w) A (match r with | some added => pure added | none => setAddHashedIn a (.str x u) ((PySem.strKind prog w).hash x) 99999) Q E s') E s := by
   intro t2 hf2 hl2 hpl2
   refine wpAny_bind (wpAny_storeSet_of ho hd ?_ (fits_of_scanBound hb1))
   obtain ⟨ho1, hS1⟩ := setX_store (prog := prog) (w := w) ho hex hd hel1 hb1 hf2 hl2 hpl2 hks1 hnd1
   have hsb1 := Heap.SameBut.update s.heap a (Obj.putSet es1 t2)
   split
   ·have hp := relayAll_perm t2 es1 (SetTable.grown es1.size)
    have hfr := relayAll_fits t2 es1 (SetTable.grown es1.size)
    have hlr := relay_led t2 es1 (SetTable.grown es1.size)
    generalize hRl : relayAll t2 es1 (SetTable.grown es1.size) = Rl at hp hfr hlr ⊢
    obtain ⟨es2, t3, gave2⟩ := Rl
    dsimp only at hp hfr hlr ⊢
    have hel2 : ElemsOf (PySem.strKind prog w) es2.toList := hel1.perm hp
    have hsz : es2.size = es1.size := by rw [← Array.length_toList, hp.length_eq, Array.length_toList]
    have hb2 : es2.size < scanBound := by rw [hsz]; exact hb1
    obtain ⟨ks2, hks2, hpk2⟩ := strs_perm hks1 (hp.map (·.2))
    have step2 : wpAny (model prog w) A (do
      storeSet a es2 t3
      pure (some true)) (fun r s' => wpAny (model prog w) A (match r with | some added => pure added | none => setAddHashedIn a (.str x u) ((PySem.strKind prog w).hash x) 99999) Q E s') E { s with heap := s.heap.update a (Obj.putSet es1 t2) } := by
     refine wpAny_bind (wpAny_storeSet_of ho1 rfl ?_ (fits_of_scanBound hb2))
     obtain ⟨_, hS2⟩ := setX_store (prog := prog) (w := w) ho1 hex rfl hel2 hb2 hfr (hlr.1.trans hl2) (hlr.2 hpl2) hks2 (hpk2.nodup_iff.mpr hnd1)
     exact wpAny_pure (wpAny_pure (h _ ks2 (hsb1.trans (Heap.SameBut.update _ a _)) hS2 (fun y => hpk2.mem_iff.trans (hmem1 y)) (by rw [hpk2.length_eq]; exact hlen1) _))
    cases gave2
    ·exact wpAny_bind (wpAny_pure step2)
    ·exact wpAny_bind (wpAny_rule step2)
   ·exact wpAny_pure (wpAny_pure (h _ ks1 hsb1 hS1 hmem1 hlen1 _))
  have hgw : ∀ (b : Bool) {s₁ : Shared} {Q' : Unit → Shared → Prop}, Q' () s₁ → wpAny (model prog w) A (match b with | true => rule "set.scan.the-table-gave-way" | false => pure ()) Q' E s₁ :=
   fun b s₁ Q' hq => by cases b <;> first | exact wpAny_pure hq | exact wpAny_rule hq
  refine wpAny_bind (hgw _ ?_)
  by_cases hplain : t1.plain = true
  ·rw [if_pos hplain]
   refine wpAny_bind ?_
   rw [hashByValue_scannable 8 hsc]
   refine wpAny_pure ?_
   rw [show plainKind (Value.str x u) = false from rfl]
   simp only [Bool.false_eq_true, if_false]
   exact fin _ (SetTable.fits_plain_off hfits) (hlays.1.trans hled) rfl
  ·rw [if_neg hplain]
   refine wpAny_bind (wpAny_pure ?_)
   simp only [↓reduceIte]
   exact fin _ hfits (hlays.1.trans hled) (by simpa using hplain)
end
end Mine
end
noncomputable section
namespace Mine
open PySem PyProof.Rows
theorem SetX.at {prog : Program} {w : World} {h h' : Heap} {a : Addr} {led : Bool} {ks : List Str} (x : SetX prog w h a led ks) (k : ∀ o, h.get? a = some o → h'.get? a = some o) : SetX prog w h' a led ks :=
 let ⟨o, es, ep, t, ho, r⟩ := x; ⟨o, es, ep, t, k o ho, r⟩
theorem strs_at : ∀ {vs : List Value} {ks : List Str}, StrsAre vs ks → ∀ (i : Nat) (h : i < ks.length), ∃ t, vs[i]? = some (.str ks[i] t)
 | _, _, .cons x t r, 0, _ => ⟨t, rfl⟩
 | _, _, .cons x t r, i + 1, h => by
  obtain ⟨t', e⟩ := strs_at r i (by simpa using h)
  exact ⟨t', by simpa using e⟩
section
variable {prog : Program} {w : World} {E : Value → Shared → Prop}
theorem set_loopX {A : Around} {l I S : Addr} {items : Array Value} {ss : List Str} {led : Bool} {R : Result → Shared → Prop} (hh : A.handled = none) (hIl : l ≠ I) (hSI : S ≠ I) (hSl : S ≠ l) (hss : StrsAre items.toList ss) (hb : ss.length + 1 < scanBound) :
  ∀ (k i : Nat) (s : Shared) (ks : List Str), items.size - i = k → i ≤ items.size → s.heap.IsListIter I l i → s.heap.IsList l items → SetX prog w s.heap S led ks → ks.length ≤ i → (∀ y, y ∈ ks ↔ y ∈ ss.take i) →
   (∀ h' tk ks', SetX prog w h' S led ks' → (∀ y, y ∈ ks' ↔ y ∈ ss) → (∀ b o, b ≠ S → b ≠ I → s.heap.get? b = some o → h'.get? b = some o) → R (.ok (.ret .none)) { s with heap := h', toks := tk }) →
   codeAny (model prog w) A (.builtin "set.update.loop" ⟨[.ref S, .ref I], []⟩) R s := by
 have hlen : items.size = ss.length := by have := congrArg List.length hss.strs; simpa using this
 intro k
 induction k with
 | zero =>
  intro i s ks hk hi st hl hS hle hmem hR
  have hin : i = items.size := Nat.le_antisymm hi (Nat.le_of_sub_eq_zero hk)
  refine codeAny_builtin F.entry_set_update_loop ?_
  rw [Around.under_plainId F.plain_set_update_loop _]
  show wpAny _ A.in1 (pyNext (.ref I) >>= _) _ _ s
  refine wpAny_bind (wpAny_pyNext_list_end (by show A.handled = _; exact hh) st hl (by simp; exact Nat.le_of_eq hin.symm) fun h' hx => ?_)
  show wpAny _ A.in1 (ret Value.none) _ _ _
  refine wpAny_pure (hR h' s.toks ks (hS.at fun o e => hx S o hSI e) (fun y => ?_) fun b o _ hbI e => hx b o hbI e)
  rw [hmem y, hin, hlen, List.take_length]
 | succ k ih =>
  intro i s ks hk hi st hl hS hle hmem hR
  have hlt : i < items.size := by exact Nat.lt_of_not_le fun hg => lin [(items.size), (items.size - i), k, i] [(1, (.a (.v 2) (.n 1)), (.v 1)), (1, (.a (.v 1) (.v 3)), (.v 0)), (1, (.v 0), (.v 3))] rfl (Nat.le_of_eq (Eq.symm hk)) (sub_hi (Nat.le_of_not_lt fun hg => lin [(items.size), i] [(1, (.v 1), (.v 0)), (1, (.a (.v 0) (.n 1)), (.v 1))] rfl hi hg)) hg
  have hlt2 : i < ss.length := by exact Nat.lt_of_lt_of_eq hlt hlen
  obtain ⟨t, et⟩ := strs_at hss i hlt2
  refine codeAny_builtin F.entry_set_update_loop ?_
  rw [Around.under_plainId F.plain_set_update_loop _]
  show wpAny _ A.in1 (pyNext (.ref I) >>= _) _ _ s
  refine wpAny_bind (wpAny_pyNext_list_item st hl (x := .str ss[i] t) (by rw [← Array.getElem?_toList]; exact et) fun h' st' hs' => ?_)
  have hS' := hS.at (h' := h') fun o e => hs'.extBut S o hSI e
  have hl' : h'.IsList l items := hl.extBut hs'.extBut hIl
  show wpAny _ A.in1 (holding [Value.str ss[i] t] (setAdd S (.str ss[i] t)) >>= _) _ _ _
  refine wpAny_bind (wpAny_holding ?_)
  unfold setAdd
  refine wpAny_holding ?_
  refine wpAny_bind ((PySem.strKind prog w).pyHash (k := ss[i]) (sk_is _ _) ?_)
  refine setX_add (s := { s with heap := h', toks := s.toks + 1 }) hS' (by exact Nat.lt_of_not_le fun hg => lin [(ss.length), scanBound, (items.size), i, (ks.length)] [(1, (.a (.a (.v 0) (.n 1)) (.n 1)), (.v 1)), (1, (.v 2), (.v 0)), (1, (.v 4), (.v 3)), (1, (.a (.v 3) (.n 1)), (.v 2)), (1, (.v 1), (.a (.v 4) (.n 1)))] rfl hb (Nat.le_of_eq hlen) hle hlt hg) fun h'' ks' hsb hS2 hm2 hl2 b => ?_
  have keep : ∀ b o, b ≠ S → b ≠ I → s.heap.get? b = some o → h''.get? b = some o := fun b o h1 h2 e => hsb.extBut b o h1 (hs'.extBut b o h2 e)
  refine wpAny_pure ⟨plainId_quiet F.plain_set_update_loop _, ih (i + 1) _ ks' (by rw [Nat.sub_add_eq, hk]; rfl) hlt (st'.at fun o e => hsb.extBut I o (Ne.symm hSI) e) (hl'.extBut hsb.extBut (Ne.symm hSl)) hS2 (by exact Nat.le_of_not_lt fun hg => lin [i, (ks.length), (ks'.length)] [(1, (.v 1), (.v 0)), (1, (.v 2), (.a (.v 1) (.n 1))), (1, (.a (.a (.v 0) (.n 1)) (.n 1)), (.v 2))] rfl hle hl2 hg) (fun y => ?_) fun h3 tk ks3 a1 a2 a3 => ?_⟩
  ·rw [hm2 y, List.take_add_one, List.getElem?_eq_getElem hlt2, List.mem_append, hmem y]
   simp only [Option.toList_some, List.mem_singleton]
   exact Or.comm
  ·exact hR h3 tk ks3 a1 a2 fun b o h1 h2 e => a3 b o h1 h2 (keep b o h1 h2 e)
theorem set_newX {A : Around} {s : Shared} (a : Value) {Q₁ : Value → Shared → Prop}
  (h : Q₁ (.ref s.heap.objs.size) { s with heap := s.heap.push { cls := .type "set", dict := none, data := .set #[] 0 (.fresh 0 0 (!w.params.followText "set-order")) } }) :
  codeAny (model prog w) A (.call (.builtin "set.__new__") ⟨[.type "set", a], []⟩) (wants Q₁ E) s := by
 refine codeAny_of_tree ?_
 show wpAny _ A.in1 (do checkBuiltinCall "set.__new__" ⟨[.type "set", a], []⟩; again (.builtin "set.__new__" ⟨[.type "set", a], []⟩)) _ _ s
 refine wpAny_bind (wpAny_of_eq (PySem.F.newCall_set_1 a) (wpAny_pure ⟨plainId_quiet PySem.F.plain_set_new _, codeAny_builtin PySem.F.entry_set_new ?_⟩))
 rw [Around.under_plainId PySem.F.plain_set_new _]
 unfold Builtin.«set.__new__» Builtin.Frozenset.newClass
 have hsub := sub_set_self
 obtain ⟨hp, g, d, tk, os⟩ := s
 dsimp only
 wp_walk
 refine wpAny_askSetting (wpAny_pure ?_)
 dsimp only
 simp only [newObj]
 refine wpAny_bind (wpAny_alloc (wpAny_pure ?_))
 exact wpAny_pure h
set_option maxRecDepth 100000 in
set_option maxHeartbeats 3200000 in
theorem call_setX {A : Around} {s : Shared} {l : Addr} {items : Array Value} {ss : List Str} {Q : Value → Shared → Prop} (hh : A.handled = none) (hl : s.heap.IsList l items) (hss : StrsAre items.toList ss) (hb : ss.length + 1 < scanBound)
  (h : ∀ (h' : Heap) (tk : Nat) (ks : List Str), SetX prog w h' s.heap.objs.size (!w.params.followText "set-order") ks → (∀ y, y ∈ ks ↔ y ∈ ss) →
   (∀ b o, s.heap.get? b = some o → h'.get? b = some o) → Q (.ref s.heap.objs.size) { s with heap := h', toks := tk }) :
  wpAny (model prog w) A (call (.type "set") [.ref l]) Q E s := by
 obtain ⟨c, tl, hmro⟩ := PySem.F.called_set.mro
 have hmade := PySem.F.called_set.made
 have hsub := PySem.F.called_set.sub
 refine wpAny_call (codeAny_of_tree ?_)
 show wpAny _ _ (callAny (.type "set") _) _ _ _
 refine wpAny_pure ⟨Code.quiet_builtin _ (by decide +kernel), codeAny_builtin PySem.F.entry_type_call ?_⟩
 rw [Around.under_plain (weight_type_call_type "set" [.ref l] []) rfl]
 have h1 := PySem.F.called_set.notType
 have h2 := PySem.F.called_set.canCreate
 have hct := PySem.F.typeCall_set_1 (.ref l)
 repeat (any_goals (first | assumption | wp_step))
 generalize hled : (!w.params.followText "set-order") = led at h
 refine codeAny_mono (set_newX (.ref l) (E := E) (Q₁ := fun obj s₁ => obj = .ref s.heap.objs.size ∧ s₁ = { s with heap := s.heap.push { cls := .type "set", dict := none, data := .set #[] 0 (.fresh 0 0 led) } }) ⟨rfl, by rw [hled]⟩) fun r s₁ hr => ?_
 cases r with
 | error e => exact hr
 | ok fl =>
  cases fl with
  | ret obj =>
   obtain ⟨rfl, rfl⟩ := hr
   have hS : (s.heap.push { cls := .type "set", dict := none, data := .set #[] 0 (.fresh 0 0 led) }).get? s.heap.objs.size = some { cls := .type "set", dict := none, data := .set #[] 0 (.fresh 0 0 led) } := Heap.get?_push_size _ rfl
   have hT : Shared.TypeIs { s with heap := s.heap.push { cls := .type "set", dict := none, data := .set #[] 0 (.fresh 0 0 led) } } (.ref s.heap.objs.size) "set" := ⟨_, hS, rfl⟩
   have hli := PySem.F.called_set.init.lookup
   have hbi := PySem.F.called_set.init.bind (.ref s.heap.objs.size)
   repeat (any_goals (first | assumption | wp_step))
   refine codeAny_mono (codeAny_call_builtin (R := wants (fun r s₂ => r = .none ∧ ∃ h' tk ks, s₂ = { s with heap := h', toks := tk } ∧ SetX prog w h' s.heap.objs.size led ks ∧ (∀ y, y ∈ ks ↔ y ∈ ss) ∧
     (∀ b o, s.heap.get? b = some o → h'.get? b = some o)) E) PySem.F.called_set.init.plain PySem.F.entry_set_init (check_set_init_1 hT ?_)) fun r₂ s₂ hr₂ => ?_
   ·obtain ⟨ol, hol, hcl, nl, hdl⟩ := hl
    obtain ⟨ocls, odict, odata, oslots⟩ := ol
    simp only at hcl hdl
    subst hcl; subst hdl
    have hol' : (s.heap.push { cls := .type "set", dict := none, data := .set #[] 0 (.fresh 0 0 led) }).get? l = some { cls := .type "list", dict := odict, data := .seq items nl, slots := oslots } := Heap.get?_push_of_some _ hol
    have hsls := PySem.F.sub_list_set
    have hslf := PySem.F.sub_list_frozenset
    have hne : (Value.type "list" == Value.type "dict") = false := by decide
    have hl1 : (s.heap.push { cls := .type "set", dict := none, data := .set #[] 0 (.fresh 0 0 led) }).IsList l items := ⟨_, hol', rfl, nl, rfl⟩
    unfold Builtin.«set.__init__» noKeywords Builtin.Frozenset.updateFrom
    generalize hPI : pyIter = PI
    wp_walk
    subst hPI
    refine wpAny_pyIter_list hl1 ?_
    refine wpAny_bind (wpAny_runValue ?_)
    have hlS : l < s.heap.objs.size := Heap.lt_size hol
    have hh3 : A.in1.in1.in1.handled = none := by simp [hh]
    have hneI : l ≠ (s.heap.push { cls := .type "set", dict := none, data := .set #[] 0 (.fresh 0 0 led) }).objs.size := by
     rw [Heap.size_push]; exact Nat.ne_of_lt (Nat.lt_succ_of_lt hlS)
    have hSI : s.heap.objs.size ≠ (s.heap.push { cls := .type "set", dict := none, data := .set #[] 0 (.fresh 0 0 led) }).objs.size := by
     rw [Heap.size_push]; exact Nat.ne_of_lt (Nat.lt_succ_self _)
    refine set_loopX (led := led) (by show A.handled = _; exact hh) hneI hSI (Nat.ne_of_gt hlS) hss hb (items.size - 0) 0 _ [] (by exact rfl) (Nat.zero_le _) ⟨_, Heap.get?_push_size _ rfl, rfl, rfl⟩ (hl1.push _)
     ⟨_, #[], 0, _, Heap.get?_push_of_some _ hS, ⟨rfl, rfl, rfl⟩, rfl, fun e he => by simp at he, by decide, by rfl, rfl, fun z => absurd rfl z, .nil, List.nodup_nil⟩ (Nat.le_refl _) (fun y => by simp) fun h' tk ks a1 a2 a3 => ?_
    show wpAny _ _ _ _ _ _
    refine wpAny_pure ?_
    show wpAny _ _ (ret Value.none) _ _ _
    refine wpAny_pure ⟨rfl, h', tk, ks, rfl, a1, a2, fun b o e => ?_⟩
    have hb0 := Heap.lt_size e
    exact a3 b o (Nat.ne_of_lt hb0) (by rw [Heap.size_push]; exact Nat.ne_of_lt (Nat.lt_succ_of_lt hb0)) (Heap.get?_push_of_some _ (Heap.get?_push_of_some _ e))
   ·cases r₂ with
    | error e => exact hr₂
    | ok fl₂ =>
     cases fl₂ with
     | ret r =>
      obtain ⟨rfl, h', tk, ks, rfl, a1, a2, a3⟩ := hr₂
      repeat (any_goals (first | assumption | wp_step))
      exact h _ _ ks a1 a2 a3
     | _ => exact hr₂.elim
  | _ => exact hr.elim
end
end Mine
end
noncomputable section
namespace Mine
open PySem PyProof.Rows
theorem slot_setit_next : Slot "set_iterator" "__next__" "set_iterator.__next__" :=
 .of (owner := "set_iterator") (n := "__next__") (by rw [typeLookup_type, builtinLookup_eq_fast]; kernel_rfl) (by decide +kernel) (by decide +kernel) (by decide +kernel)
  (by first | exact .inl (by decide +kernel) | exact .inr (by decide +kernel)) (by rw [isSubtype_type]; kernel_rfl)
theorem slot_setit_iter : Slot "set_iterator" "__iter__" "set_iterator.__iter__" :=
 .of (owner := "set_iterator") (n := "__iter__") (by rw [typeLookup_type, builtinLookup_eq_fast]; kernel_rfl) (by decide +kernel) (by decide +kernel) (by decide +kernel)
  (by first | exact .inl (by decide +kernel) | exact .inr (by decide +kernel)) (by rw [isSubtype_type]; kernel_rfl)
theorem entry_setit_next : entryFor table "set_iterator.__next__" = some Builtin.«set_iterator.__next__» := entryFor_of_tree (by kernel_rfl)
theorem args_setit_next (a : Value) : argsOk "set_iterator.__next__" ⟨[a], []⟩ := by unfold argsOk; kernel_rfl
theorem args_setit_iter (a : Value) : argsOk "set_iterator.__iter__" ⟨[a], []⟩ := by unfold argsOk; kernel_rfl
theorem entry_set_iter : entryFor table "set.__iter__" = some Builtin.«frozenset.__iter__» :=
 entryFor_alias (id' := "frozenset.__iter__") (by kernel_rfl) rfl (by decide +kernel) (by kernel_rfl)
theorem entry_setit_iter : entryFor table "set_iterator.__iter__" = some Builtin.«dict_keyiterator.__iter__» :=
 entryFor_alias (id' := "dict_keyiterator.__iter__") (by kernel_rfl) rfl (by decide +kernel) (by kernel_rfl)
theorem erase_perm {α : Type} {x : α} : ∀ {l : List α} {i : Nat}, l[i]? = some x → (x :: l.eraseIdx i).Perm l
 | [], i, h => by simp at h
 | a :: l, 0, h => by simp at h; subst h; exact List.Perm.refl _
 | a :: l, i + 1, h => by
  rw [List.eraseIdx_cons_succ]
  exact (List.Perm.swap _ _ _).trans ((erase_perm (by simpa using h)).cons a)
theorem pick_go {α : Type} (next : Nat → Nat) : ∀ (n k : Nat) (left : List α) (out : Array α), left.length = n → (pickOrder.go next n k left out).toList.Perm (out.toList ++ left)
 | 0, k, left, out, h => by
  have : left = [] := List.length_eq_zero_iff.mp h
  subst this
  simp [pickOrder.go]
 | n + 1, k, left, out, h => by
  have hlt : next k % left.length < left.length := Nat.mod_lt _ (by exact Nat.lt_of_not_le fun hg => lin [(left.length), n] [(1, (.a (.v 1) (.n 1)), (.v 0)), (1, (.v 0), (.n 0))] rfl (Nat.le_of_eq (Eq.symm h)) hg)
  unfold pickOrder.go
  rw [List.getElem?_eq_getElem hlt]
  dsimp only
  refine (pick_go next n (k + 1) _ _ (by rw [List.length_eraseIdx_of_lt hlt]; exact Nat.le_antisymm (Nat.le_of_not_lt fun hg => lin [(left.length), n, (left.length - 1)] [(1, (.v 0), (.a (.v 1) (.n 1))), (1, (.a (.v 2) (.n 1)), (.v 0)), (1, (.a (.v 1) (.n 1)), (.v 2))] rfl (Nat.le_of_eq h) (sub_hi (Nat.le_of_not_lt fun hg => lin [(left.length), n] [(1, (.a (.v 1) (.n 1)), (.v 0)), (1, (.a (.v 0) (.n 1)), (.n 1))] rfl (Nat.le_of_eq (Eq.symm h)) hg)) hg) (Nat.le_of_not_lt fun hg => lin [(left.length), n, (left.length - 1)] [(1, (.a (.v 1) (.n 1)), (.v 0)), (1, (.v 0), (.a (.v 2) (.n 1))), (1, (.a (.v 2) (.n 1)), (.v 1))] rfl (Nat.le_of_eq (Eq.symm h)) (sub_lo (left.length) (1)) hg))).trans ?_
  rw [Array.toList_push, List.append_assoc]
  exact List.Perm.append_left _ (erase_perm (List.getElem?_eq_getElem hlt))
theorem pick_perm {α : Type} (next : Nat → Nat) (xs : Array α) : (pickOrder next xs).toList.Perm xs.toList := by
 have := pick_go next xs.size 0 xs.toList #[] (by simp)
 simpa [pickOrder] using this
section
variable {prog : Program} {w : World} {A : Around} {E : Value → Shared → Prop}
theorem wpAny_drawn {s : Shared} {src : Source} {n : Nat} {Q : Nat → Shared → Prop} (hn : n ≠ 0) (h : ∀ i d, i < n → Q i { s with drawn := d }) : wpAny (model prog w) A (choose src n) Q E s :=
 fun _ _ _ => ⟨hn, h _ _ (Nat.mod_lt _ (Nat.pos_of_ne_zero hn))⟩
theorem wpAny_drawOrder {α : Type} : ∀ (n : Nat) (xs : List α) {s : Shared} {Q : List α → Shared → Prop}, xs.length = n → (∀ ys d, ys.Perm xs → Q ys { s with drawn := d }) → wpAny (model prog w) A (drawOrder n xs) Q E s
 | 0, xs, s, Q, hl, h => by
  have : xs = [] := List.length_eq_zero_iff.mp hl
  subst this
  exact wpAny_pure (h [] s.drawn (List.Perm.refl _))
 | n + 1, xs, s, Q, hl, h => by
  match xs, hl with
  | x :: xs, hl =>
   show wpAny _ A (choose .order (x :: xs).length >>= _) _ _ s
   refine wpAny_bind (wpAny_drawn (by simp) fun i d hi => ?_)
   rw [List.getElem?_eq_getElem hi]
   dsimp only
   refine wpAny_bind (wpAny_drawOrder n ((x :: xs).eraseIdx i) (by rw [List.length_eraseIdx_of_lt hi]; simp at hl ⊢; exact hl) fun ys d' hp => wpAny_pure ?_)
   exact h _ d' ((hp.cons _).trans (erase_perm (List.getElem?_eq_getElem hi)))
end
end Mine
end
noncomputable section
namespace Mine
open PySem PyProof.Rows
noncomputable def SetSt (w : World) (I a : Addr) (es : Array (Int × Value)) (ep : Nat) (t : SetTable) (vs : List Value) (tup : Option Addr) (i : Nat) (h : Heap) : Prop :=
 (∃ o, h.get? a = some o ∧ o.cls = .type "set" ∧ o.data = .set es ep t) ∧
 (∃ o first, h.get? I = some o ∧ o.cls = .type "set_iterator" ∧ o.data = .fields #[first, .int i 0, .ref a, .int es.size 0, .int ep 0] ∧
  ((w.params.followText "set-order" = true ∧ (∃ f : Int, first = .int f 0) ∧ tup = none ∧ vs = (pickOrder (w.params.setOrder a ep) es).toList.map (·.2)) ∨
     (w.params.followText "set-order" = false ∧ ∃ b order, tup = some b ∧ first = .ref b ∧ (∃ o n, h.get? b = some o ∧ o.data = .seq ((order : List Nat).map fun (j : Nat) => rawInt j).toArray n) ∧ order.length = es.size ∧ (∀ j ∈ order, j < es.size) ∧ vs = order.filterMap fun j => es[j]?.map (·.2)) ∨
     (w.params.followText "set-order" = false ∧ t.led = true ∧ es.size ≤ 1 ∧ tup = none ∧ vs = es.toList.map (·.2) ∧ ∃ slot : Nat, first = .int slot 0 ∧ SetTable.below t.place slot = i)))
theorem below_zero (xs : Array Nat) (h : xs.size ≤ 1) : SetTable.below xs 0 = 0 := by
 unfold SetTable.below
 match hs : xs.size, h with
 | 0, _ => rfl
 | 1, _ =>
  unfold SetTable.below.go
  simp
  unfold SetTable.below.go
  rfl
theorem below_one (xs : Array Nat) (j : Nat) (hs : xs.size = 1) (h : xs[0]? = some j) : SetTable.below xs (j + 1) = 1 := by
 unfold SetTable.below
 rw [hs]
 unfold SetTable.below.go
 have : xs.getD 0 (j + 1) = j := by rw [Array.getD_eq_getD_getElem?, h]; rfl
 simp [this]
 unfold SetTable.below.go
 rfl
end Mine
end
noncomputable section
namespace Mine
open PySem PyProof.Rows
section
variable {prog : Program} {w : World} {A : Around} {E : Value → Shared → Prop}
theorem byText_is {s : Shared} {Q : Bool → Shared → Prop} (h : Q (w.params.followText "set-order") s) : wpAny (model prog w) A setsByText Q E s := by
 unfold setsByText
 exact wpAny_bind (wpAny_askSetting (wpAny_pure h))
theorem setNext_is {s : Shared} {a : Addr} {o : Obj} {es : Array (Int × Value)} {ep : Nat} {t : SetTable} {slot i : Nat} {Q : Option (Value × Nat) → Shared → Prop} (ho : s.heap.get? a = some o) (hd : o.data = .set es ep t) (hf : t.fits es.size = true)
  (hm : w.params.followText "set-order" = true ∨ (t.led = true ∧ es.size ≤ 1))
  (h1 : w.params.followText "set-order" = true → Q (((pickOrder (w.params.setOrder a ep) es)[i]?).map fun e => (e.2, slot)) s)
  (h2 : w.params.followText "set-order" = false → Q (match es[SetTable.below t.place slot]?, t.place[SetTable.below t.place slot]? with | some (_, x), some j => some (x, j + 1) | _, _ => none) s) :
  wpAny (model prog w) A (setNext a slot i ep) Q E s := by
 unfold setNext
 refine wpAny_bind (wpAny_setState_of ho hd hf ?_)
 dsimp only
 refine wpAny_bind (byText_is ?_)
 cases hb : w.params.followText "set-order" with
 | true =>
  simp only [if_true]
  rw [if_neg (by simp)]
  refine wpAny_bind ?_
  unfold setWalk
  refine wpAny_bind (wpAny_setState_of ho hd hf ?_)
  dsimp only
  refine wpAny_bind (byText_is ?_)
  rw [hb]
  simp only [if_true]
  refine wpAny_bind (wpAny_askSetting (wpAny_pure (wpAny_pure ?_)))
  exact h1 hb
 | false =>
  have hm' := hm.resolve_left (by rw [hb]; simp)
  simp only [Bool.false_eq_true, if_false]
  refine wpAny_ite_split (fun hd => ?_) fun _ => ?_
  ·exfalso
   have hd' : (!t.plain && decide (es.size > 1)) = true := hd
   rw [Bool.and_eq_true, decide_eq_true_eq] at hd'
   exact False.elim (lin [(es.size)] [(1, (.v 0), (.n 1)), (1, (.a (.n 1) (.n 1)), (.v 0))] rfl (hm').2 (hd').2)
  refine wpAny_bind (m := _) (Q := _) ?_
  refine wpAny_ite_split (fun hl => ?_) fun _ => ?_
  ·exfalso
   rw [hm'.1] at hl
   simp at hl
  refine wpAny_pure (wpAny_pure ?_)
  exact h2 hb
theorem setit_next {s : Shared} {I a : Addr} {es : Array (Int × Value)} {ep : Nat} {t : SetTable} {vs : List Value} {tup : Option Addr} {i : Nat} {v : Value} {Q : Option Value → Shared → Prop} (hIa : a ≠ I) (hIt : ∀ b, tup = some b → b ≠ I) (hf : t.fits es.size = true) (st : SetSt w I a es ep t vs tup i s.heap) (hv : vs[i]? = some v)
  (hQ : ∀ h', Heap.SameBut I s.heap h' → SetSt w I a es ep t vs tup (i + 1) h' → Q (some v) { s with heap := h' }) : wpAny (model prog w) A (pyNext (.ref I)) Q E s := by
 obtain ⟨⟨oa, hoa, hca, hda⟩, oI, first, hoI, hcI, hdI, hm⟩ := id st
 have hT : s.TypeIs (.ref I) "set_iterator" := ⟨oI, hoI, hcI⟩
 have hc1 : ((i : Int) + 1) = ((i + 1 : Nat) : Int) := by push_cast; rfl
 unfold pyNext
 refine wpAny_bind (wpAny_attempt (wpAny_callSpecial?_slot (name := Str.ofString "__next__") hT slot_setit_next (wpAny_call_entry slot_setit_next hT entry_setit_next ?_ (args_setit_next _))))
 refine wpAny_bind (wpAny_pure ?_)
 refine wpAny_bind (wpAny_fieldsOf hoI hdI ?_)
 dsimp only
 refine wpAny_bind (wpAny_bind (wpAny_setState_of hoa hda hf (wpAny_pure ?_)))
 dsimp only
 rw [if_neg (by simp)]
 have two : ∀ (f : Int) (n : Nat) (hn : first = .int f 0) (P : (Value → Prop)), (P (.int n 0)) →
   (∀ h' o', Heap.SameBut I s.heap h' → h'.get? I = some o' → o'.cls = .type "set_iterator" → o'.data = .fields #[.int n 0, .int (i + 1 : Nat) 0, .ref a, .int es.size 0, .int ep 0] → Q (some v) { s with heap := h' }) →
   wpAny (model prog w) A.in1 (do
     setField (Value.ref I) 0 (rawInt n)
     setField (Value.ref I) 1 (rawInt ((i : Int) + 1))
     ret v) (fun fin s' => ∃ v, fin = Fin.done (Flow.ret v) ∧ wpAny (model prog w) A (pure (some v)) Q E s')
    (fun e s' => wpAny (model prog w) A (do
     let b ← isInstance e (Value.type "StopIteration")
     if b = true then pure none else throw e) Q E s') s := by
  intro f n hn P _ hP
  refine wpAny_bind (wpAny_setField hoI hdI (by simp) ?_)
  have d1 := Obj.data_mapFields hdI (·.setIfInBounds 0 (rawInt (n : Int)))
  have g1 := Heap.get?_update_self (Obj.mapFields (·.setIfInBounds 0 (rawInt (n : Int)))) hoI (Obj.isFreed_of_fields d1)
  refine wpAny_bind (wpAny_setField (s := { s with heap := _ }) g1 d1 (by simp) ?_)
  have d2 := Obj.data_mapFields d1 (·.setIfInBounds 1 (rawInt ((i : Int) + 1)))
  have g2 := Heap.get?_update_self (Obj.mapFields (·.setIfInBounds 1 (rawInt ((i : Int) + 1)))) g1 (Obj.isFreed_of_fields d2)
  refine wpAny_pure ⟨_, rfl, wpAny_pure (hP _ _ ((Heap.SameBut.update ..).trans (Heap.SameBut.update ..)) g2 ?_ ?_)⟩
  ·rw [Obj.cls_mapFields, Obj.cls_mapFields]; exact hcI
  ·rw [d2, hc1]; rfl
 have keepA : ∀ h', Heap.SameBut I s.heap h' → ∃ o, h'.get? a = some o ∧ o.cls = .type "set" ∧ o.data = .set es ep t := fun h' hs => ⟨oa, hs.extBut a oa hIa hoa, hca, hda⟩
 rcases hm with ⟨hb, ⟨f, rfl⟩, rfl, rfl⟩ | ⟨hb, b, order, rfl, rfl, ⟨ob, n, hob, hdb⟩, hlen, hlt, rfl⟩ | ⟨hb, hled, hsz, rfl, rfl, slot, rfl, hsl⟩
 ·dsimp only
  refine wpAny_bind (setNext_is hoa hda hf (.inl hb) (fun _ => ?_) fun z => by rw [hb] at z; cases z)
  have hi : (pickOrder (w.params.setOrder a ep) es)[i]? = some ((pickOrder (w.params.setOrder a ep) es)[i]?.getD (0, .none)) := by
   rw [List.getElem?_map, Array.getElem?_toList] at hv
   obtain ⟨e, he, _⟩ := Option.map_eq_some_iff.mp hv
   rw [he]; rfl
  have hve : ((pickOrder (w.params.setOrder a ep) es)[i]?.getD (0, .none)).2 = v := by
   rw [List.getElem?_map, Array.getElem?_toList, hi] at hv
   exact Option.some.inj hv
  simp only [Int.toNat_natCast]
  rw [hi]
  simp only [Option.map_some]
  rw [hve]
  refine two f _ rfl (fun _ => True) trivial fun h' o' hs g c d => hQ h' hs ⟨keepA h' hs, o', _, g, c, d, .inl ⟨hb, ⟨_, rfl⟩, rfl, rfl⟩⟩
 ·dsimp only
  refine wpAny_bind (wpAny_seqItems hob hdb ?_)
  dsimp only
  have hil : i < order.length := by
   have h1 := (List.getElem?_eq_some_iff.mp hv).1
   exact Nat.lt_of_lt_of_le h1 (List.length_filterMap_le (fun j => es[j]?.map (·.2)) order)
  have hall : (order.filterMap fun j => es[j]?.map (·.2)) = order.map fun j => (es[j]?.map (·.2)).getD .none := by
   clear hv hil hlen hob hdb st hdI hQ two
   induction order with
   | nil => rfl
   | cons j r ih =>
    have hj := hlt j (List.mem_cons_self ..)
    rw [List.filterMap_cons, List.map_cons, ih fun k hk => hlt k (List.mem_cons_of_mem _ hk), getElem?_pos es j hj]
    rfl
  have hj : order[i] < es.size := hlt _ (List.getElem_mem hil)
  have hve : es[order[i]].2 = v := by
   rw [hall, List.getElem?_map, List.getElem?_eq_getElem hil, Option.map_some, getElem?_pos es _ hj] at hv
   exact Option.some.inj hv
  have hpl : (((order.map fun (j : Nat) => rawInt j).toArray)[((i : Nat) : Int).toNat]?) = some (.int order[i] 0) := by
   simp [hil, rawInt]
  rw [hpl]
  dsimp only
  refine wpAny_bind ?_
  unfold setNextDrawn
  refine wpAny_bind (wpAny_setState_of hoa hda hf ?_)
  dsimp only
  rw [if_neg (by simp), Int.toNat_natCast, getElem?_pos es _ hj]
  dsimp only
  refine wpAny_pure ?_
  refine wpAny_bind (wpAny_setField hoI hdI (by simp) ?_)
  have d1 := Obj.data_mapFields hdI (·.setIfInBounds 1 (rawInt ((i : Int) + 1)))
  have g1 := Heap.get?_update_self (Obj.mapFields (·.setIfInBounds 1 (rawInt ((i : Int) + 1)))) hoI (Obj.isFreed_of_fields d1)
  rw [hve]
  refine wpAny_pure ⟨_, rfl, wpAny_pure (hQ _ (Heap.SameBut.update ..) ⟨keepA _ (Heap.SameBut.update ..), _, _, g1, ?_, ?_, .inr (.inl ⟨hb, b, order, rfl, rfl, ⟨ob, n, (Heap.SameBut.update s.heap I _).extBut b ob (hIt b rfl) hob, hdb⟩, hlen, hlt, rfl⟩)⟩)⟩
  ·rw [Obj.cls_mapFields]; exact hcI
  ·rw [d1, hc1]; rfl
 ·dsimp only
  refine wpAny_bind (setNext_is hoa hda hf (.inr ⟨hled, hsz⟩) (fun z => by rw [hb] at z; cases z) fun _ => ?_)
  simp only [Int.toNat_natCast, hsl]
  have hi0 : i < es.size := by
   have h1 := (List.getElem?_eq_some_iff.mp hv).1
   simpa using h1
  have hi1 : i = 0 := by exact Nat.le_antisymm (Nat.le_of_not_lt fun hg => lin [(es.size), i] [(1, (.v 0), (.n 1)), (1, (.a (.v 1) (.n 1)), (.v 0)), (1, (.a (.n 0) (.n 1)), (.v 1))] rfl hsz hi0 hg) (Nat.le_of_not_lt fun hg => lin [(SetTable.below t.place slot), i] [(1, (.v 0), (.v 1)), (1, (.a (.v 1) (.n 1)), (.n 0))] rfl (Nat.le_of_eq hsl) hg)
  subst hi1
  have hps : t.place.size = es.size := by
   simp only [SetTable.fits, Bool.and_eq_true, beq_iff_eq] at hf
   exact hf.1
  rw [getElem?_pos es 0 hi0, getElem?_pos t.place 0 (by exact Nat.le_trans hi0 (Nat.le_of_eq hps.symm))]
  have hve : es[0].2 = v := by
   rw [List.getElem?_map, Array.getElem?_toList, getElem?_pos es 0 hi0] at hv
   exact Option.some.inj hv
  dsimp only
  rw [hve]
  refine two slot (t.place[0] + 1) rfl (fun _ => True) trivial fun h' o' hs g c d => hQ h' hs ⟨keepA h' hs, o', _, g, c, d, .inr (.inr ⟨hb, hled, hsz, rfl, rfl, _, rfl, below_one _ _ (by exact Nat.le_antisymm (Nat.le_of_not_lt fun hg => lin [(es.size), (t.place.size)] [(1, (.v 0), (.n 1)), (1, (.v 1), (.v 0)), (1, (.a (.n 1) (.n 1)), (.v 1))] rfl hsz (Nat.le_of_eq hps) hg) (Nat.le_of_not_lt fun hg => lin [(es.size), (t.place.size)] [(1, (.a (.n 0) (.n 1)), (.v 0)), (1, (.v 0), (.v 1)), (1, (.a (.v 1) (.n 1)), (.n 1))] rfl hi0 (Nat.le_of_eq (Eq.symm hps)) hg)) (getElem?_pos t.place 0 (by exact Nat.le_trans hi0 (Nat.le_of_eq hps.symm)))⟩)⟩
end
end Mine
end
noncomputable section
namespace Mine
open PySem PySem.W PyProof.Rows
section
variable {prog : Program} {w : World} {A : Around} {E : Value → Shared → Prop}
theorem stop_here {s : Shared} {Q : Option Value → Shared → Prop} {P : Fin → Shared → Prop} (hh : A.handled = none) (h : ∀ h', (∀ b o, s.heap.get? b = some o → h'.get? b = some o) → Q none { s with heap := h' }) :
  wpAny (model prog w) A.in1 (do
    let e ← newExc (Value.type "StopIteration") []
    raiseNew e) P (fun e s' => wpAny (model prog w) A (do
     let b ← isInstance e (Value.type "StopIteration")
     if b = true then pure none else throw e) Q E s') s := by
 refine wpAny_bind ?_
 simp only [newExc, newTuple]
 refine wpAny_bind (wpAny_newObj_type ?_ (by size_fits))
 refine wpAny_bind (m := firstArgMember _ _) (wpAny_of_eq (a := Value.none) (by first | rfl | (simp only [firstArgMember]; rfl)) ?_)
 refine wpAny_newObj_type ?_ (by size_fits)
 simp only [raiseNew]
 refine wpAny_bind (wpAny_handled ?_)
 rw [show A.in1.handled = none from hh]
 refine wpAny_bind (wpAny_pure (wpAny_throw ?_))
 refine wpAny_bind (wpAny_isInstance (T := "StopIteration") (b := true) ⟨_, Heap.get?_push_size _ rfl, rfl⟩ isSubtype_stop ?_)
 exact wpAny_pure (h _ fun b o e => Heap.get?_push_of_some _ (Heap.get?_push_of_some _ e))
theorem setit_end {s : Shared} {I a : Addr} {es : Array (Int × Value)} {ep : Nat} {t : SetTable} {vs : List Value} {tup : Option Addr} {Q : Option Value → Shared → Prop} (hh : A.handled = none) (hf : t.fits es.size = true) (st : SetSt w I a es ep t vs tup vs.length s.heap)
  (hQ : ∀ h', Heap.ExtBut I s.heap h' → Q none { s with heap := h' }) : wpAny (model prog w) A (pyNext (.ref I)) Q E s := by
 obtain ⟨⟨oa, hoa, hca, hda⟩, oI, first, hoI, hcI, hdI, hm⟩ := id st
 have hT : s.TypeIs (.ref I) "set_iterator" := ⟨oI, hoI, hcI⟩
 unfold pyNext
 refine wpAny_bind (wpAny_attempt (wpAny_callSpecial?_slot (name := Str.ofString "__next__") hT slot_setit_next (wpAny_call_entry slot_setit_next hT entry_setit_next ?_ (args_setit_next _))))
 refine wpAny_bind (wpAny_pure ?_)
 refine wpAny_bind (wpAny_fieldsOf hoI hdI ?_)
 dsimp only
 refine wpAny_bind (wpAny_bind (wpAny_setState_of hoa hda hf (wpAny_pure ?_)))
 dsimp only
 rw [if_neg (by simp)]
 rcases hm with ⟨hb, ⟨f, rfl⟩, rfl, rfl⟩ | ⟨hb, b, order, rfl, rfl, ⟨ob, n, hob, hdb⟩, hlen, hlt, hvs⟩ | ⟨hb, hled, hsz, rfl, rfl, slot, rfl, hsl⟩
 ·dsimp only
  refine wpAny_bind (setNext_is hoa hda hf (.inl hb) (fun _ => ?_) fun z => by rw [hb] at z; cases z)
  rw [Int.toNat_natCast, List.length_map, Array.length_toList, getElem?_neg (pickOrder (w.params.setOrder a ep) es) _ (Nat.lt_irrefl _)]
  dsimp only [Option.map_none]
  refine wpAny_bind (wpAny_setField hoI hdI (by simp) ?_)
  exact stop_here hh fun h' hk => hQ h' fun b o hb e => hk b o ((Heap.SameBut.update s.heap I _).extBut b o hb e)
 ·dsimp only
  refine wpAny_bind (wpAny_seqItems hob hdb ?_)
  dsimp only
  have hvl : vs.length = order.length := by
   rw [hvs]
   clear hvs hlen hob hdb st hdI hQ
   induction order with
   | nil => rfl
   | cons j r ih =>
    have hj := hlt j (List.mem_cons_self ..)
    rw [List.filterMap_cons, getElem?_pos es j hj]
    simp [ih fun k hk => hlt k (List.mem_cons_of_mem _ hk)]
  have hpl : (((order.map fun (j : Nat) => rawInt j).toArray)[((vs.length : Nat) : Int).toNat]?) = none := by
   simp [hvl]
  rw [hpl]
  dsimp only
  refine wpAny_bind (wpAny_setField hoI hdI (by simp) ?_)
  have d1 := Obj.data_mapFields hdI (·.setIfInBounds 0 (rawInt 0))
  have g1 := Heap.get?_update_self (Obj.mapFields (·.setIfInBounds 0 (rawInt 0))) hoI (Obj.isFreed_of_fields d1)
  refine wpAny_bind (wpAny_setField (s := { s with heap := _ }) g1 d1 (by simp) ?_)
  exact stop_here hh fun h' hk => hQ h' fun b o hb e => hk b o (((Heap.SameBut.update s.heap I _).trans (Heap.SameBut.update _ I _)).extBut b o hb e)
 ·dsimp only
  refine wpAny_bind (setNext_is hoa hda hf (.inr ⟨hled, hsz⟩) (fun z => by rw [hb] at z; cases z) fun _ => ?_)
  rw [Int.toNat_natCast, hsl, List.length_map, Array.length_toList, getElem?_neg es _ (Nat.lt_irrefl _)]
  dsimp only
  refine wpAny_bind (wpAny_setField hoI hdI (by simp) ?_)
  exact stop_here hh fun h' hk => hQ h' fun b o hb e => hk b o ((Heap.SameBut.update s.heap I _).extBut b o hb e)
theorem SetSt.at {I a : Addr} {es : Array (Int × Value)} {ep : Nat} {t : SetTable} {vs : List Value} {tup : Option Addr} {i : Nat} {h h' : Heap} (st : SetSt w I a es ep t vs tup i h)
  (k : ∀ b o, b = I ∨ b = a ∨ tup = some b → h.get? b = some o → h'.get? b = some o) : SetSt w I a es ep t vs tup i h' := by
 obtain ⟨⟨oa, hoa, hca, hda⟩, oI, first, hoI, hcI, hdI, hm⟩ := st
 refine ⟨⟨oa, k a oa (.inr (.inl rfl)) hoa, hca, hda⟩, oI, first, k I oI (.inl rfl) hoI, hcI, hdI, ?_⟩
 rcases hm with x | ⟨hb, b, order, e1, e2, ⟨ob, n, hob, hdb⟩, r⟩ | x
 ·exact .inl x
 ·exact .inr (.inl ⟨hb, b, order, e1, e2, ⟨ob, n, k b ob (.inr (.inr e1)) hob, hdb⟩, r⟩)
 ·exact .inr (.inr x)
noncomputable def optL : Option Addr → List Addr
 | none => []
 | some b => [b]
theorem walks_set {I a : Addr} {es : Array (Int × Value)} {ep : Nat} {t : SetTable} {vs : List Value} {tup : Option Addr} (hh : A.handled = none) (hIa : a ≠ I) (hIt : ∀ b, tup = some b → b ≠ I) (hf : t.fits es.size = true) :
  Walks prog w A I (I :: a :: optL tup) [I] vs.length (fun i v => vs[i]? = some v) (fun i h => SetSt w I a es ep t vs tup i h) where
 sub := fun b hb => by rw [List.mem_singleton.mp hb]; exact List.mem_cons_self ..
 frame := fun i h h' st hk => st.at fun b o hb e => hk b (by
  rcases hb with rfl | rfl | hb
  ·exact List.mem_cons_self ..
  ·exact List.mem_cons_of_mem _ (List.mem_cons_self ..)
  ·subst hb; simp [optL]) o e
 item := fun i s Q E hi st hQ => setit_next hIa hIt hf st (List.getElem?_eq_getElem hi) fun h' hs st' => hQ _ h' s.toks (List.getElem?_eq_getElem hi) st' fun b o hb e => hs.extBut b o (fun z => hb (by simp [z])) e
 done := fun s Q E st hQ => setit_end hh hf st fun h' hx => hQ h' s.toks fun b o hb e => hx b o (fun z => hb (by simp [z])) e
 self := fun i s Q E st q => by
  obtain ⟨_, oI, first, hoI, hcI, hdI, hm⟩ := st
  have hT : s.TypeIs (.ref I) "set_iterator" := ⟨oI, hoI, hcI⟩
  refine wpAny_pyIter_slot hT slot_setit_iter (wpAny_call_entry slot_setit_iter hT entry_setit_iter ?_ (args_setit_iter _))
  show wpAny _ _ (ret (.ref I)) _ _ s
  exact wpAny_pure ⟨_, rfl, "set_iterator", _, hT, slot_setit_next.lookup, q⟩
theorem pyIter_set {s : Shared} {a : Addr} {ks : List Str} {Q : Value → Shared → Prop} (hS : SetX prog w s.heap a (!w.params.followText "set-order") ks)
  (h : ∀ I es ep t vs tup h' d, t.fits es.size = true → SetSt w I a es ep t vs tup 0 h' → a ≠ I → (∀ b, tup = some b → b ≠ I) → s.heap.get? I = none → (∀ b, tup = some b → s.heap.get? b = none) → vs.length < scanBound →
   (∃ ks', StrsAre vs ks' ∧ ks'.Perm ks) → (∀ b o, s.heap.get? b = some o → h'.get? b = some o) → Q (.ref I) { s with heap := h', drawn := d }) : wpAny (model prog w) A (pyIter (.ref a)) Q E s := by
 obtain ⟨o, es, ep, t, ho, hex, hd, hel, hb, hf, hled, hpl, hks, hnd⟩ := hS
 have hT : s.TypeIs (.ref a) "set" := ⟨o, ho, hex.1⟩
 have hslen : es.size ≤ sizeLine := fits_of_scanBound hb
 have hlt : a < s.heap.objs.size := Heap.lt_size ho
 refine wpAny_pyIter_slot hT PySem.F.slot_set_iter (wpAny_call_entry PySem.F.slot_set_iter hT entry_set_iter ?_ (PySem.F.args_set_iter_1 _))
 unfold Builtin.«frozenset.__iter__» Builtin.Frozenset.slot0 slotArgs
 simp only [List.isEmpty_nil, Bool.not_true, Bool.false_eq_true, ↓reduceIte, bind_assoc, List.length_nil, bne_self_eq_false]
 unfold Builtin.Frozenset.addrOf Builtin.Frozenset.sizeOf
 refine wpAny_bind (wpAny_pure ?_)
 try dsimp only
 refine wpAny_bind (wpAny_pure ?_)
 refine wpAny_bind (wpAny_bind (wpAny_setEntries_of ho hd hf (wpAny_pure ?_)))
 refine wpAny_bind ?_
 unfold setDrawn
 refine wpAny_bind (wpAny_setState_of ho hd hf ?_)
 dsimp only
 refine wpAny_bind (byText_is (wpAny_pure ?_))
 have mk : ∀ (first : Value) (h₁ : Heap) (d : Drawn) (vs : List Value) (tup : Option Addr), (∀ b o, s.heap.get? b = some o → h₁.get? b = some o) → (∃ ks', StrsAre vs ks' ∧ ks'.Perm ks) → (∀ b, tup = some b → b ≠ h₁.objs.size) → (∀ b, tup = some b → s.heap.get? b = none) → s.heap.objs.size ≤ h₁.objs.size →
   (∀ h' : Heap, (∀ b o, h₁.get? b = some o → h'.get? b = some o) →
    ((w.params.followText "set-order" = true ∧ (∃ f : Int, first = .int f 0) ∧ tup = none ∧ vs = (pickOrder (w.params.setOrder a ep) es).toList.map (·.2)) ∨
         (w.params.followText "set-order" = false ∧ ∃ (b : Addr) (order : List Nat), tup = some b ∧ first = .ref b ∧ (∃ (o : Obj) (n : Nat), h'.get? b = some o ∧ o.data = .seq ((order : List Nat).map fun (j : Nat) => rawInt j).toArray n) ∧ order.length = es.size ∧ (∀ j ∈ order, j < es.size) ∧ vs = order.filterMap fun j => es[j]?.map (·.2)) ∨
         (w.params.followText "set-order" = false ∧ t.led = true ∧ es.size ≤ 1 ∧ tup = none ∧ vs = es.toList.map (·.2) ∧ ∃ slot : Nat, first = .int slot 0 ∧ SetTable.below t.place slot = 0))) →
   wpAny (model prog w) A.in1 (do
    let e ← setEpoch a
    let f ← newFields "set_iterator" [first, rawInt 0, .ref a, rawInt es.size, rawInt e]
    ret f) (fun fin s' => ∃ r, fin = .done (.ret r) ∧ ∃ T' r', s'.TypeIs r T' ∧ typeLookup (.type T') "__next__" = pure (some r') ∧ Q r s') E { s with heap := h₁, drawn := d } := by
  intro first h₁ d vs tup hk hvs hne hnew hsz hmode
  refine wpAny_bind (wpAny_setEpoch_of (s := { s with heap := h₁, drawn := d }) (hk a o ho) hd hf ?_)
  unfold newFields
  refine wpAny_bind (wpAny_newObj_type ?_ (by show _ ≤ _; simp [sizeLine_eq]))
  refine wpAny_pure ⟨_, rfl, "set_iterator", _, ⟨_, Heap.get?_push_size _ rfl, rfl⟩, slot_setit_next.lookup, ?_⟩
  have hvl : vs.length < scanBound := by
   obtain ⟨ks', h1, h2⟩ := hvs
   have e1 := congrArg List.length h1.strs
   have e2 := congrArg List.length hks.strs
   have e3 := h2.length_eq
   simp at e1 e2
   omega
  refine h h₁.objs.size es ep t vs tup _ d hf ⟨⟨o, Heap.get?_push_of_some _ (hk a o ho), hex.1, hd⟩, _, first, Heap.get?_push_size _ rfl, rfl, by simp [rawInt], hmode _ fun b o e => Heap.get?_push_of_some _ e⟩ (Nat.ne_of_lt (Nat.lt_of_lt_of_le hlt hsz)) hne ?_ hnew hvl hvs fun b o e => Heap.get?_push_of_some _ (hk b o e)
  cases e : s.heap.get? h₁.objs.size with
  | none => rfl
  | some o' => exact absurd (Heap.lt_size (hk _ _ e)) (Nat.lt_irrefl _)
 have hself : ∃ ks', StrsAre (es.toList.map (·.2)) ks' ∧ ks'.Perm ks := ⟨ks, hks, List.Perm.refl _⟩
 cases hbt : w.params.followText "set-order" with
 | true =>
  simp only [Bool.not_true, Bool.false_and, Bool.false_eq_true, if_false]
  refine wpAny_bind (wpAny_pure ?_)
  refine mk (rawInt 0) s.heap s.drawn ((pickOrder (w.params.setOrder a ep) es).toList.map (·.2)) none (fun _ _ e => e) ?_ (fun b e => by cases e) (fun b e => by cases e) (Nat.le_refl _) fun h' _ => .inl ⟨hbt, ⟨0, rfl⟩, rfl, rfl⟩
  exact strs_perm hks ((pick_perm _ es).map _)
 | false =>
  simp only [Bool.not_false, Bool.true_and]
  by_cases hs1 : es.size > 1
  ·have hp0 : t.plain = false := hpl (by exact fun hg => lin [(es.size)] [(1, (.a (.n 1) (.n 1)), (.v 0)), (1, (.v 0), (.n 0))] rfl hs1 (Nat.le_of_eq hg))
   refine wpAny_ite_split (fun _ => ?_) fun hn => absurd (show (!t.plain && decide (es.size > 1)) = true by rw [hp0]; simpa using hs1) hn
   refine wpAny_bind (wpAny_drawOrder es.size (List.range es.size) (by simp) fun order d hp => ?_)
   have hol : order.length = es.size := by rw [hp.length_eq]; simp
   have horl : ∀ j ∈ order, j < es.size := fun j hj => by simpa using hp.mem_iff.mp hj
   refine wpAny_bind (wpAny_newTuple ?_ (by rw [List.length_map, hol]; exact hslen))
   refine mk (.ref s.heap.objs.size) _ d (order.filterMap fun j => es[j]?.map (·.2)) (some s.heap.objs.size) (fun b o e => Heap.get?_push_of_some _ e) ?_ (fun b e => by cases e; rw [Heap.size_push]; exact Nat.ne_of_lt (Nat.lt_succ_self _))
    (fun b e => by cases e; cases e2 : s.heap.get? s.heap.objs.size with | none => rfl | some o' => exact absurd (Heap.lt_size e2) (Nat.lt_irrefl _)) (by rw [Heap.size_push]; exact Nat.le_succ _)
    fun h' hk' => .inr (.inl ⟨hbt, _, order, rfl, rfl, ⟨_, _, hk' _ _ (Heap.get?_push_size _ rfl), rfl⟩, hol, horl, rfl⟩)
   refine strs_perm hks ?_
   have h1 := (hp.filterMap fun j => es[j]?.map (·.2))
   have h2 : (List.range es.size).filterMap (fun j => es[j]?.map (·.2)) = es.toList.map (·.2) := by
    have := congrArg (List.map (·.2)) (filterMap_getElem?_range es)
    rw [List.map_filterMap] at this
    exact this
   rw [h2] at h1
   exact h1
  ·refine wpAny_ite_split (fun hy => ?_) fun _ => wpAny_bind (wpAny_pure ?_)
   ·exfalso
    have hy' : (!t.plain && decide (es.size > 1)) = true := hy
    rw [Bool.and_eq_true, decide_eq_true_eq] at hy'
    exact hs1 hy'.2
   have hps : t.place.size = es.size := by
    simp only [SetTable.fits, Bool.and_eq_true, beq_iff_eq] at hf
    exact hf.1
   refine mk (rawInt 0) s.heap s.drawn (es.toList.map (·.2)) none (fun _ _ e => e) hself (fun b e => by cases e) (fun b e => by cases e) (Nat.le_refl _) fun h' _ => .inr (.inr ⟨hbt, by rw [hled, hbt]; rfl, by exact Nat.le_of_not_lt hs1, rfl, rfl, 0, rfl, below_zero _ (by omega)⟩)
end
end Mine
end
noncomputable section
namespace Mine
open PySem PySem.W PyProof.Rows
section
variable {prog : Program} {w : World} {E : Value → Shared → Prop}
theorem hint_set {A : Around} {s : Shared} {r : Addr} {Q : Bool → Shared → Prop} (hT : s.TypeIs (.ref r) "set") (h : Q false s) : wpAny (model prog w) A (Builtin.List.listLengthHint (.ref r)) Q E s := by
 unfold Builtin.List.listLengthHint
 refine wpAny_bind (wpAny_specialOf hT PySem.F.slot_set_len.lookup ?_)
 generalize hid : ("set.__len__" : String) = id0
 wp_delta
 rw [show splitId id0 = some ("set", "__len__") from by subst hid; decide +kernel]
 subst hid
 refine wpAny_bind (wpAny_isInstance (T := "set") (b := true) hT (by rw [isSubtype_type]; kernel_rfl) ?_)
 refine wpAny_ite_split (fun hab => absurd hab (by decide)) (fun _ => ?_)
 refine wpAny_ite_split (fun _ => ?_) (fun hab => absurd (by decide +kernel) hab)
 refine wpAny_bind (wpAny_typeOf hT ?_)
 exact wpAny_pure h
theorem collect_set {A : Around} {s : Shared} {a : Addr} {ks : List Str} {R : List Value → Shared → Prop} (hh : A.handled = none) (hS : SetX prog w s.heap a (!w.params.followText "set-order") ks)
  (h : ∀ (h' : Heap) (tk : Nat) (d : Drawn) (vs : List Value) (ks' : List Str), (∀ b o, s.heap.get? b = some o → h'.get? b = some o) → StrsAre vs ks' → ks'.Perm ks → R vs { s with heap := h', toks := tk, drawn := d }) :
  wpAny (model prog w) A (collect (.ref a)) R E s := by
 have hT : s.TypeIs (.ref a) "set" := let ⟨o, _, _, _, ho, hex, _⟩ := hS; ⟨o, ho, hex.1⟩
 have hlt : a < s.heap.objs.size := let ⟨o, _, _, _, ho, _⟩ := hS; Heap.lt_size ho
 unfold collect
 refine wpAny_bind (wpAny_runValue (codeAny_builtin entry_proto_collect' ?_))
 rw [Around.under_plainId PySem.F.plain_proto_collect _]
 show wpAny _ A.in1 (newList [] >>= fun l => again (.builtin "list.__iadd__" ⟨[l, .ref a], []⟩)) _ _ s
 refine wpAny_bind (wpAny_newObj_type ?_)
 refine wpAny_pure ⟨plainId_quiet PySem.F.plain_list_iadd _, codeAny_builtin entry_list_iadd' ?_⟩
 rw [Around.under_plainId PySem.F.plain_list_iadd _]
 have hk₀ : ∀ b o, s.heap.get? b = some o → (s.heap.push { cls := .type "list", data := .seq ([] : List Value).toArray }).get? b = some o := fun b o e => Heap.get?_push_of_some _ e
 have hS₁ : (s.heap.push { cls := .type "list", data := .seq ([] : List Value).toArray }).get? s.heap.objs.size = some { cls := .type "list", data := .seq #[] } := Heap.get?_push_size _ rfl
 show wpAny _ A.in1 (Builtin.List.listExtendWith (.ref s.heap.objs.size) (.ref a) (.ref s.heap.objs.size)) _ _ _
 unfold Builtin.List.listExtendWith
 have hX := hS.at (h' := s.heap.push { cls := .type "list", data := .seq ([] : List Value).toArray }) fun o e => hk₀ a o e
 have hTp : Shared.TypeIs { s with heap := s.heap.push { cls := .type "list", data := .seq ([] : List Value).toArray } } (.ref a) "set" := let ⟨o, _, _, _, ho, hex, _⟩ := hX; ⟨o, ho, hex.1⟩
 refine wpAny_bind (wpAny_typeOf (T := "set") hTp ?_)
 have h1 : Builtin.List.listSameRef (.ref s.heap.objs.size) (.ref a) = false := by simp [Builtin.List.listSameRef, Nat.ne_of_gt hlt]
 have h2 : (Value.type "set" == Value.type "list") = false := by decide
 have h3 : (Value.type "set" == Value.type "tuple") = false := by decide
 simp only [h1, h2, h3, Bool.or_false, Bool.false_eq_true, if_false]
 refine wpAny_bind (pyIter_set hX fun I es ep t vs tup h₂ d hf st hIa hIt hIn htn hvl hvs hk₂ => ?_)
 have hS₂ : h₂.get? s.heap.objs.size = some { cls := .type "list", data := .seq #[] } := hk₂ _ _ hS₁
 have hX₂ := hX.at (h' := h₂) fun o e => hk₂ a o e
 have hT₂ : Shared.TypeIs { s with heap := h₂, drawn := d } (.ref a) "set" := let ⟨o, _, _, _, ho, hex, _⟩ := hX₂; ⟨o, ho, hex.1⟩
 have hSI : s.heap.objs.size ≠ I := fun e => by rw [← e, hS₁] at hIn; cases hIn
 have hSf : s.heap.objs.size ∉ (I :: a :: optL tup) := by
  intro hm
  rcases List.mem_cons.mp hm with e | hm
  ·exact hSI e
  rcases List.mem_cons.mp hm with e | hm
  ·exact absurd e (Nat.ne_of_gt hlt)
  ·cases tup with
   | none => cases hm
   | some b =>
    have e := List.mem_singleton.mp hm
    have := htn b rfl
    rw [← e, hS₁] at this; cases this
 have W := walks_set (prog := prog) (w := w) (A := A.in1) (vs := vs) (ep := ep) (by show A.handled = _; exact hh) hIa hIt hf
 have key : ∀ (R' : Result → Shared → Prop), (∀ (h' : Heap) (tk : Nat) (vs' : List Value) (ks' : List Str) (o' : Obj) (c : Nat), (∀ b o, s.heap.get? b = some o → h'.get? b = some o) → StrsAre vs' ks' → ks'.Perm ks → h'.get? s.heap.objs.size = some o' → o'.data = .seq vs'.toArray c →
    R' (.ok (.ret (.ref s.heap.objs.size))) { s with heap := h', toks := tk, drawn := d }) →
   ∀ (h₃ : Heap) (tk : Nat) (c₁ : Nat), SetSt w I a es ep t vs tup 0 h₃ → (∀ b o, b ≠ s.heap.objs.size → h₂.get? b = some o → h₃.get? b = some o) → h₃.get? s.heap.objs.size = some { cls := .type "list", data := .seq #[] c₁ } →
   codeAny (model prog w) A (.builtin "list.extend.loop" ⟨[.ref s.heap.objs.size, .ref I, .ref s.heap.objs.size], []⟩) R' { s with heap := h₃, toks := tk, drawn := d } := by
  intro R' hR h₃ tk c₁ st₃ hk₃ hS₃
  refine codeAny_extend_loopS W.toS (Nat.le_of_lt (Nat.lt_of_lt_of_le hvl (by rw [sizeLine_eq]; decide))) s.heap.objs.size hSf (.ref s.heap.objs.size) vs.length 0 _ #[] c₁ rfl (Nat.zero_le _) st₃ hS₃ (ItemsOf.nil _) fun s' acc' c' hm hS' hacc => ?_
  have e := Moved.eq_with hm
  rw [e]
  obtain ⟨ks', hks', hpk⟩ := hvs
  have hacc' : acc'.toList = vs := by
   apply List.ext_getElem?
   intro j
   by_cases hj : j < vs.length
   ·have hj' : j < acc'.size := by rw [hacc.1]; exact hj
    have := hacc.2 j acc'[j] (getElem?_pos acc' j hj')
    rw [this, Array.getElem?_toList]
    exact getElem?_pos acc' j hj'
   ·rw [List.getElem?_eq_none (l := acc'.toList) (by rw [Array.length_toList, hacc.1]; exact Nat.le_of_not_lt hj), List.getElem?_eq_none (l := vs) (by exact Nat.le_of_not_lt hj)]
  refine hR s'.heap s'.toks vs ks' _ c' (fun b o e => ?_) hks' hpk hS' (by rw [← hacc', Array.toArray_toList])
  refine hm.heap b o (fun hmem => ?_) (hk₃ b o (Nat.ne_of_lt (Heap.lt_size e)) (hk₂ b o (hk₀ b o e)))
  rcases List.mem_cons.mp hmem with e' | hmem
  ·exact absurd (Heap.lt_size e) (by rw [e']; exact Nat.lt_irrefl _)
  ·have e2 := List.mem_singleton.mp hmem
   have := hk₀ b o e
   rw [e2, hIn] at this; cases this
 have done : ∀ (h' : Heap) (tk : Nat) (vs' : List Value) (ks' : List Str) (o' : Obj) (c : Nat), (∀ b o, s.heap.get? b = some o → h'.get? b = some o) → StrsAre vs' ks' → ks'.Perm ks → h'.get? s.heap.objs.size = some o' → o'.data = .seq vs'.toArray c →
   wpAny (model prog w) A (do
    let o ← load s.heap.objs.size
    match o.data with
     | .seq xs _ => pure xs.toList
     | _ => unsupported "internal:collect") R E { s with heap := h', toks := tk, drawn := d } := by
  intro h' tk vs' ks' o' c hk hs hp ho hd
  refine wpAny_bind (wpAny_load ho ?_)
  rw [hd]
  exact wpAny_pure (by rw [List.toList_toArray]; exact h h' tk d vs' ks' hk hs hp)
 refine wpAny_bind (wpAny_holding (hint_set hT₂ ?_))
 refine wpAny_ite_split (fun _ => ?_) fun _ => wpAny_pure ⟨plainId_quiet PySem.F.plain_extend_loop _, key _ (fun h' tk vs' ks' o' c hk hs hp ho hd => done h' tk vs' ks' o' c hk hs hp ho hd) h₂ s.toks 0 st (fun _ _ _ e => e) hS₂⟩
 refine wpAny_bind (wpAny_rule ?_)
 refine wpAny_bind ?_
 show wpAny _ _ (updateSeq s.heap.objs.size (·.push .none) >>= fun _ => updateSeq s.heap.objs.size (·.pop)) _ _ _
 refine wpAny_bind (wpAny_updateSeq hS₂ rfl ?_)
 have hS₄ := Heap.get?_update_self (Obj.mapSeq (·.push Value.none)) hS₂ rfl
 refine wpAny_updateSeq (hz := by seq_fits) hS₄ rfl ?_
 have hS₅ := Heap.get?_update_self (Obj.mapSeq (·.pop)) hS₄ rfl
 have hoth : ∀ b o, b ≠ s.heap.objs.size → h₂.get? b = some o → ((h₂.update s.heap.objs.size (Obj.mapSeq (·.push Value.none))).update s.heap.objs.size (Obj.mapSeq (·.pop))).get? b = some o := fun b o hb e =>
  (Heap.get?_update_other _ _ (Ne.symm hb)).trans ((Heap.get?_update_other _ _ (Ne.symm hb)).trans e)
 refine wpAny_pure ⟨plainId_quiet PySem.F.plain_extend_loop _, key _ (fun h' tk vs' ks' o' c hk hs hp ho hd => done h' tk vs' ks' o' c hk hs hp ho hd) _ s.toks _ (st.at fun b o hb e => hoth b o (fun z => hSf ?_) e) hoth hS₅⟩
 rcases hb with hb | hb | hb
 ·rw [← z, hb]; exact List.mem_cons_self ..
 ·rw [← z, hb]; exact List.mem_cons_of_mem _ (List.mem_cons_self ..)
 ·rw [← z, hb]; simp [optL]
end
end Mine
end
noncomputable section
namespace Mine
open PySem PySem.W PyProof.Rows PySem.Calls
noncomputable def rowq (f : V → V → Option Bool) : List V → List V → Option Bool
 | [], [] => some true
 | [], _ :: _ => some false
 | _ :: _, [] => some false
 | a :: as, b :: bs => match f a b with
  | some true => rowq f as bs
  | some false => some false
  | Option.none => Option.none
noncomputable def dictq (k2 : List (Str × V)) : List (Str × V) → Option Bool
 | [] => some true
 | (k, v) :: r => match vget k2 k with
  | Option.none => some false
  | some y => match veq0 v y, dictq k2 r with
   | some e, some b => some (e && b)
   | _, _ => Option.none
noncomputable def dqR (f : V → V → Option Bool) (o1 o2 : Option AObj) : Option Bool := match o1, o2 with
 | some (.list xs), some (.list ys) => if xs.length = ys.length then rowq f xs ys else some false
 | some (.dict k1 _), some (.dict k2 _) => if k1.length = k2.length then dictq k2 k1 else some false
 | _, _ => Option.none
noncomputable def dq : Nat → View → V → V → Option Bool
 | 0, _, a, b => veq0 a b
 | n + 1, σ, .tup xs, .tup ys => rowq (dq n σ) xs ys
 | n + 1, σ, .ref a, .ref b => dqR (dq n σ) (σ a) (σ b)
 | _ + 1, _, a, b => veq0 a b
section
variable {C : Cx} {sc : Scope} {k : Nat}
theorem CmpW.tuples {A : Around} {s : Shared} {l b : Addr} {xs ys : List Value} {r : Bool} (hl : s.heap.IsTuple l xs.toArray) (hb : s.heap.IsTuple b ys.toArray) (hu : A.units < cLine) (he : EqWs C A.in1 s xs ys r) : CmpW C A s (.ref l) (.ref b) r := by
 obtain ⟨⟨cls, dd, data, sl⟩, ho, hc, n, hd⟩ := id hl
 obtain ⟨⟨cls2, dd2, data2, sl2⟩, ho2, hc2, n2, hd2⟩ := id hb
 simp only at hc hd hc2 hd2
 subst hc hd hc2 hd2
 intro op E Q hop h
 rcases hop with rfl | rfl
 ·exact wpAny_richCompare_same_room (op := .Eq) ⟨_, ho, rfl⟩ ⟨_, ho2, rfl⟩ _root_.PySem.F.slot_tuple_eq (call_meetsIn _root_.PySem.F.slot_tuple_eq ⟨_, ho, rfl⟩ _root_.PySem.F.entry_tuple_eq (_root_.PySem.F.args_tuple_eq_2 _ _)
   (S := fun A' R s' => A' = A ∧ s' = s ∧ R (.ok (.ret (.bool r))) s) (fun A' R s' ⟨e1, e2, hR⟩ => by subst e1 e2; exact tup_eqW l b xs ys n n2 dd dd2 sl sl2 ho ho2 he hR) ⟨rfl, rfl, (fun x => nomatch x), h⟩) hu
 ·exact wpAny_richCompare_same_room (op := .NotEq) ⟨_, ho, rfl⟩ ⟨_, ho2, rfl⟩ _root_.PySem.F.slot_tuple_ne (call_meetsIn _root_.PySem.F.slot_tuple_ne ⟨_, ho, rfl⟩ _root_.PySem.F.entry_tuple_ne (_root_.PySem.F.args_tuple_ne_2 _ _)
   (S := fun A' R s' => A' = A ∧ s' = s ∧ R (.ok (.ret (.bool (!r)))) s) (fun A' R s' ⟨e1, e2, hR⟩ => by subst e1 e2; exact tup_neW l b xs ys n n2 dd dd2 sl sl2 ho ho2 he hR) ⟨rfl, rfl, (fun x => nomatch x), h⟩) hu
theorem CmpW.lists {A : Around} {s : Shared} {l b : Addr} {xs ys : List Value} {r : Bool} (hl : s.heap.IsList l xs.toArray) (hb : s.heap.IsList b ys.toArray) (hu : A.units < cLine) (he : xs.length = ys.length → EqWs C A.in1 s xs ys r) (hne : xs.length ≠ ys.length → r = false) : CmpW C A s (.ref l) (.ref b) r := by
 obtain ⟨⟨cls, dd, data, sl⟩, ho, hc, n, hd⟩ := id hl
 obtain ⟨⟨cls2, dd2, data2, sl2⟩, ho2, hc2, n2, hd2⟩ := id hb
 simp only at hc hd hc2 hd2
 subst hc hd hc2 hd2
 intro op E Q hop h
 rcases hop with rfl | rfl
 ·exact wpAny_richCompare_same_room (op := .Eq) ⟨_, ho, rfl⟩ ⟨_, ho2, rfl⟩ _root_.PySem.F.slot_list_eq (call_meetsIn _root_.PySem.F.slot_list_eq ⟨_, ho, rfl⟩ _root_.PySem.F.entry_list_eq (_root_.PySem.F.args_list_eq_2 _ _)
   (S := fun A' R s' => A' = A ∧ s' = s ∧ R (.ok (.ret (.bool r))) s) (fun A' R s' ⟨e1, e2, hR⟩ => by subst e1 e2; exact list_eqW l b xs ys n n2 dd dd2 sl sl2 ho ho2 he hne hR) ⟨rfl, rfl, (fun x => nomatch x), h⟩) hu
 ·exact wpAny_richCompare_same_room (op := .NotEq) ⟨_, ho, rfl⟩ ⟨_, ho2, rfl⟩ _root_.PySem.F.slot_list_ne (call_meetsIn _root_.PySem.F.slot_list_ne ⟨_, ho, rfl⟩ _root_.PySem.F.entry_list_ne (_root_.PySem.F.args_list_ne_2 _ _)
   (S := fun A' R s' => A' = A ∧ s' = s ∧ R (.ok (.ret (.bool (!r)))) s) (fun A' R s' ⟨e1, e2, hR⟩ => by subst e1 e2; exact list_neW l b xs ys n n2 dd dd2 sl sl2 ho ho2 he hne hR) ⟨rfl, rfl, (fun x => nomatch x), h⟩) hu
theorem hits_of {A : Around} {s : Shared} {k2 : List (Str × V)} {w2 : List (Str × Value)} (h2 : PRel C.aS s.heap k2 w2) : ∀ {k1 : List (Str × V)} {w1 : List (Str × Value)} {r : Bool}, PRel C.aS s.heap k1 w1 → dictq k2 k1 = some r → KeqHits A s w2 w1 r
 | [], [], r, _, h => by cases h; exact .nil
 | (k, v) :: k1, (k', w) :: w1, r, ⟨e, hv, hr⟩, h => by
  subst e
  unfold dictq at h
  cases hg : vget k2 k with
  | none =>
   rw [hg] at h
   cases h
   have : (valueAt w2 k).isSome = false := by rw [← h2.none (k := k), hg]; rfl
   exact .miss (by cases e : valueAt w2 k with | none => rfl | some _ => rw [e] at this; cases this)
  | some y =>
   rw [hg] at h
   obtain ⟨wy, e1, e2⟩ := h2.find hg
   dsimp only at h
   split at h
   ·rename_i e b h3 h4
    cases h
    exact .hit e1 (eqAt0 h3 hv e2) (hits_of h2 hr h4)
   ·cases h
theorem row_self {f : V → V → Option Bool} {s : Shared} (hf : ∀ a b w r, f a b = some r → VRel C.aS s.heap a w → VRel C.aS s.heap b w → r = true) : ∀ {as bs : List V} {ws : List Value} {r : Bool}, rowq f as bs = some r → VRels C.aS s.heap as ws → VRels C.aS s.heap bs ws → r = true
 | [], bs, ws, r, h, ha, hb => by
  have := hb.length
  rw [ha.inv0] at this
  rw [List.length_eq_zero_iff.mp this] at h
  cases h; rfl
 | a :: as, bs, ws, r, h, ha, hb => by
  obtain ⟨w, ws', rfl, va, ra⟩ := ha.invC
  match bs, hb with
  | [], hb => exact absurd hb.inv0 (by simp)
  | b :: bs, hb =>
   obtain ⟨w2, ws2, e, vb, rb⟩ := hb.invC
   cases e
   unfold rowq at h
   split at h
   ·exact row_self hf h ra rb
   ·rename_i h1
    have := hf _ _ _ _ h1 va vb
    cases this
   ·cases h
theorem dict_self {k0 : List (Str × V)} (hn : (k0.map (·.1)).Nodup) : ∀ {k1 : List (Str × V)} {r : Bool}, (∀ q ∈ k1, q ∈ k0) → dictq k0 k1 = some r → r = true
 | [], r, _, h => by cases h; rfl
 | (k, v) :: k1, r, hm, h => by
  have hg : vget k0 k = some v := by
   have hq := hm _ (List.mem_cons_self ..)
   unfold vget
   rw [Option.map_eq_some_iff]
   refine ⟨(k, v), ?_, rfl⟩
   clear h hm
   induction k0 with
   | nil => cases hq
   | cons p k0 ih =>
    rw [List.map_cons, List.nodup_cons] at hn
    rcases List.mem_cons.mp hq with e | hq
    ·rw [← e, List.find?_cons_of_pos (by simp)]
    ·rw [List.find?_cons_of_neg]
     ·exact ih hn.2 hq
     ·intro z
      have z' : p.1 = k := by simpa using z
      exact hn.1 (by rw [z']; exact List.mem_map.mpr ⟨_, hq, rfl⟩)
  unfold dictq at h
  rw [hg] at h
  dsimp only at h
  split at h
  ·rename_i e b h3 h4
   cases h
   have h5 := dict_self hn (fun q hq => hm q (List.mem_cons_of_mem _ hq)) h4
   have h6 : e = true := by
    cases v <;> simp [veq0] at h3 <;> exact h3
   rw [h5, h6]; rfl
  ·cases h
theorem PRel.keys {aS : Addr} {h : Heap} {a : List (Str × V)} {b : List (Str × Value)} (x : PRel aS h a b) : a.map (·.1) = b.map (·.1) :=
 x.ind (P := fun a b => a.map (·.1) = b.map (·.1)) rfl fun _ _ _ _ _ _ _ ih => by rw [List.map_cons, List.map_cons, ih]
theorem dict_nodup {σ : View} {s : Shared} (R : RelG C σ s) {a : Addr} {kvs : List (Str × V)} {ep : Nat} (h : σ a = some (.dict kvs ep)) : (kvs.map (·.1)).Nodup := by
 obtain ⟨_, kws, h1, h2⟩ := R.view _ _ h
 rw [h2.keys]
 exact let ⟨_, _, _, _, _, _, _, _, hn⟩ := h1.dictOf; hn
theorem dq_self {σ : View} {s : Shared} (R : RelG C σ s) : ∀ (n : Nat) (a b : V) (w : Value) (r : Bool), dq n σ a b = some r → VRel C.aS s.heap a w → VRel C.aS s.heap b w → r = true
 | 0, a, b, w, r, h, va, vb => veq0_self h va vb
 | n + 1, a, b, w, r, h, va, vb => by
  cases a <;> first | exact veq0_self h va vb | skip
  all_goals (cases b <;> first | exact veq0_self h va vb | skip)
  ·rename_i p q
   replace h : dqR (dq n σ) (σ p) (σ q) = some r := h
   cases va; cases vb
   unfold dqR at h
   split at h
   ·rename_i xs ys hx hy
    rw [hx] at hy; cases hy
    obtain ⟨_, ws, h1, h2⟩ := R.view _ _ hx
    rw [if_pos rfl] at h
    exact row_self (dq_self R n) h h2 h2
   ·rename_i k1 _ k2 _ hx hy
    rw [hx] at hy; cases hy
    rw [if_pos rfl] at h
    exact dict_self (dict_nodup R hx) (fun q hq => hq) h
   ·cases h
  ·rename_i xs ys
   cases va with | @tup _ p ws ht hvs => cases vb with | @tup _ _ us ht' hus =>
   obtain ⟨o, ho, _, n1, hd⟩ := ht
   obtain ⟨o', ho', _, n2, hd'⟩ := ht'
   rw [ho] at ho'; cases ho'
   rw [hd] at hd'
   injection hd' with e1 _
   have e2 : ws = us := by simpa using congrArg Array.toList e1
   subst e2
   exact row_self (dq_self R n) h hvs hus
theorem cmpW {σ : View} {s : Shared} (O : C.Ok) (R : RelG C σ s) : ∀ (n : Nat) {A : Around} {a b : V} {wa wb : Value} {r : Bool}, dq n σ a b = some r → VRel C.aS s.heap a wa → VRel C.aS s.heap b wb → A.units + n < cLine →
  (veq0 a b = some r) ∨ ∃ p q, wa = .ref p ∧ wb = .ref q ∧ CmpW C A s (.ref p) (.ref q) r
 | 0, A, a, b, wa, wb, r, h, va, vb, hu => .inl h
 | n + 1, A, a, b, wa, wb, r, h, va, vb, hu => by
  have elem : ∀ {xs ys : List V} {ws us : List Value} {r : Bool}, rowq (dq n σ) xs ys = some r → VRels C.aS s.heap xs ws → VRels C.aS s.heap ys us → EqWs C A.in1 s ws us r := by
   intro xs
   induction xs with
   | nil =>
    intro ys ws us r h hx hy
    cases hx
    cases hy with
    | nil => cases h; rfl
    | cons _ _ => cases h; rfl
   | cons x xs ih =>
    intro ys ws us r h hx hy
    cases hx with | cons vx rx =>
    cases hy with
    | nil => cases h; rfl
    | cons vy ry =>
     rename_i w0 ws0 y0 u0 ys0 us0
     have one : ∀ e, dq n σ x y0 = some e → EqW C A.in1 s w0 u0 e := fun e hj => by
      rcases cmpW O R n (A := A.in1) hj vx vy (by show A.units + 1 + n < _; exact Nat.lt_of_not_le fun hg => lin [(A.units), n, cLine] [(1, (.a (.a (.v 0) (.a (.v 1) (.n 1))) (.n 1)), (.v 2)), (1, (.v 2), (.a (.a (.v 0) (.n 1)) (.v 1)))] rfl hu hg) with z | ⟨p, q, e1, e2, hr⟩
      ·exact EqW.at (eqAt0 z vx vy)
      ·subst e1 e2
       by_cases hne : p = q
       ·subst hne; rw [dq_self R n x y0 _ _ hj vx vy]; exact EqW.at (SeqAt.EqAt.same _)
       ·exact EqW.of_refs hne hr
     unfold rowq at h
     split at h
     ·rename_i h1
      exact ⟨true, one _ h1, .inl ⟨rfl, ih h rx ry⟩⟩
     ·rename_i h1
      cases h
      exact ⟨false, one _ h1, .inr ⟨rfl, rfl⟩⟩
     ·cases h
  cases a <;> first | exact .inl h | skip
  all_goals (cases b <;> first | exact .inl h | skip)
  ·rename_i p q
   replace h : dqR (dq n σ) (σ p) (σ q) = some r := h
   cases va; cases vb
   unfold dqR at h
   split at h
   ·rename_i xs ys hx hy
    obtain ⟨_, ws, h1, h2⟩ := R.view _ _ hx
    obtain ⟨_, us, h3, h4⟩ := R.view _ _ hy
    refine .inr ⟨p, q, rfl, rfl, CmpW.lists h1.isList h3.isList (by exact Nat.lt_of_le_of_lt (Nat.le_add_right _ _) hu) (fun hl => ?_) fun hl => ?_⟩
    ·rw [← h2.length, ← h4.length] at hl
     rw [if_pos hl] at h
     exact elem h h2 h4
    ·rw [← h2.length, ← h4.length] at hl
     rw [if_neg hl] at h
     cases h; rfl
   ·rename_i k1 _ k2 _ hx hy
    obtain ⟨_, w1, h1, h2⟩ := R.view _ _ hx
    obtain ⟨_, w2, h3, h4⟩ := R.view _ _ hy
    have n1 := O.noMods (R.apart p (by rw [hx]; simp))
    have n2 := O.noMods (R.apart q (by rw [hy]; simp))
    refine .inr ⟨p, q, rfl, rfl, fun op E Q hop hq => ?_⟩
    by_cases hl : k1.length = k2.length
    ·rw [if_pos hl] at h
     have hh := hits_of (A := A.in1) h4 h2 h
     have e : (w1.length == w2.length && r) = r := by rw [← h2.length, ← h4.length]; simp [hl]
     rcases hop with rfl | rfl
     ·exact keq_eq n1 n2 h1.dictOf h3.dictOf (by exact Nat.lt_of_le_of_lt (Nat.le_add_right _ _) hu) (fun _ => hh) (by rw [e]; exact hq)
     ·exact keq_ne n1 n2 h1.dictOf h3.dictOf (by exact Nat.lt_of_le_of_lt (Nat.le_add_right _ _) hu) (fun _ => hh) (by rw [e]; exact hq)
    ·rw [if_neg hl] at h
     cases h
     have hl' : ¬ w1.length = w2.length := by rw [← h2.length, ← h4.length]; exact hl
     have e : (w1.length == w2.length && true) = false := by simp [hl']
     rcases hop with rfl | rfl
     ·exact keq_eq (r := true) n1 n2 h1.dictOf h3.dictOf (by exact Nat.lt_of_le_of_lt (Nat.le_add_right _ _) hu) (fun z => absurd z hl') (by rw [e]; exact hq)
     ·exact keq_ne (r := true) n1 n2 h1.dictOf h3.dictOf (by exact Nat.lt_of_le_of_lt (Nat.le_add_right _ _) hu) (fun z => absurd z hl') (by rw [e]; exact hq)
   ·cases h
  ·rename_i xs ys
   cases va with | @tup _ p ws ht hvs => cases vb with | @tup _ q us ht' hus =>
   exact .inr ⟨p, q, rfl, rfl, CmpW.tuples ht ht' (by exact Nat.lt_of_le_of_lt (Nat.le_add_right _ _) hu) (elem h hvs hus)⟩
noncomputable def opEqD : O2 := fun a b σ Q => atK (dq 4 σ a b) fun r => Q (.bool r) σ
noncomputable def opNe : O2 := fun a b σ Q => atK (dq 4 σ a b) fun r => Q (.bool (!r)) σ
theorem ok_eqD (O : C.Ok) : Op2 C k (compareOp .Eq) opEqD := by
 intro A s σ a b wa wb Q P E ao R va vb q₀ hP
 obtain ⟨r, hr, q⟩ := q₀.elim
 rcases cmpW O R 4 (A := A) hr va vb (by have := ao.units; omega) with z | ⟨p, p', rfl, rfl, h⟩
 ·exact ok_eq0 A s σ a b wa wb Q P E ao R va vb (.of z q) hP
 ·exact h .Eq E P (.inl rfl) (hP _ _ σ s (.bool r) R Step.refl q)
theorem ok_neD (O : C.Ok) : Op2 C k (compareOp .NotEq) opNe := by
 intro A s σ a b wa wb Q P E ao R va vb q₀ hP
 obtain ⟨r, hr, q⟩ := q₀.elim
 rcases cmpW O R 4 (A := A) hr va vb (by have := ao.units; omega) with z | ⟨p, p', rfl, rfl, h⟩
 ·exact ok_ne0 A s σ a b wa wb Q P E ao R va vb (.of z q) hP
 ·exact h .NotEq E P (.inr rfl) (hP _ _ σ s (.bool (!r)) R Step.refl q)
end
end Mine
end
noncomputable section
namespace Mine
open PySem PySem.W PyProof.Rows PySem.Calls
abbrev leS (a b : Str) : Prop := ¬ cl b < cl a
noncomputable def srt (xs : List Str) : List Str := xs.mergeSort fun a b => !decide (cl b < cl a)
theorem leS_trans {a b c : Str} (h1 : leS a b) (h2 : leS b c) : leS a c := fun h => by
 rcases (List.not_lt.mp h1 : cl a ≤ cl b) with _
 exact h1 (List.lt_of_le_of_lt (List.not_lt.mp h2) h)
theorem leS_total (a b : Str) : leS a b ∨ leS b a := by
 by_cases h : cl b < cl a
 ·exact .inr fun h' => List.lt_irrefl _ (List.lt_trans h h')
 ·exact .inl h
theorem leS_anti {a b : Str} (h1 : leS a b) (h2 : leS b a) : a = b := cl_inj (List.le_antisymm (List.not_lt.mp h1) (List.not_lt.mp h2))
theorem srt_perm (xs : List Str) : (srt xs).Perm xs := List.mergeSort_perm _ _
theorem srt_sorted (xs : List Str) : (srt xs).Pairwise leS := by
 have := List.pairwise_mergeSort (le := fun a b : Str => !decide (cl b < cl a)) (fun a b c h1 h2 => by simp only [Bool.not_eq_true', decide_eq_false_iff_not] at *; exact leS_trans h1 h2) (fun a b => by
  rcases leS_total a b with h | h
  ·simp [h]
  ·simp [h]) xs
 exact this.imp fun h => by simpa using h
theorem sorted_uniq : ∀ {a b : List Str}, a.Perm b → a.Pairwise leS → b.Pairwise leS → a = b
 | [], _, p, _, _ => p.nil_eq
 | x :: r, b, p, ha, hb => by
  cases b with
  | nil => exact absurd p.length_eq (by simp)
  | cons y t =>
   have hx : x ∈ y :: t := p.mem_iff.mp (.head _)
   have hy : y ∈ x :: r := p.mem_iff.mpr (.head _)
   have e : x = y := by
    rcases List.mem_cons.mp hx with h | h
    ·exact h
    ·rcases List.mem_cons.mp hy with h' | h'
     ·exact h'.symm
     ·exact leS_anti ((List.pairwise_cons.mp ha).1 y h') ((List.pairwise_cons.mp hb).1 x h)
   subst e
   rw [sorted_uniq (List.Perm.cons_inv p) (List.pairwise_cons.mp ha).2 (List.pairwise_cons.mp hb).2]
theorem srt_of {xs ys : List Str} (p : ys.Perm xs) (h : ys.Pairwise leS) : ys = srt xs := sorted_uniq (p.trans (srt_perm xs).symm) h (srt_sorted xs)
theorem srt_congr {xs ys : List Str} (p : xs.Perm ys) : srt xs = srt ys := sorted_uniq ((srt_perm xs).trans (p.trans (srt_perm ys).symm)) (srt_sorted xs) (srt_sorted ys)
theorem perm_of_mem {xs ys : List Str} (hx : xs.Nodup) (hy : ys.Nodup) (h : ∀ z, z ∈ xs ↔ z ∈ ys) : xs.Perm ys := (List.perm_ext_iff_of_nodup hx hy).mpr h
theorem srt_same {xs ys : List Str} (hx : xs.Nodup) (hy : ys.Nodup) (h : ∀ z, z ∈ xs ↔ z ∈ ys) : srt xs = srt ys := srt_congr (perm_of_mem hx hy h)
theorem srt_mem {xs : List Str} {z : Str} : z ∈ srt xs ↔ z ∈ xs := (srt_perm xs).mem_iff
theorem srt_nodup {xs : List Str} (h : xs.Nodup) : (srt xs).Nodup := (srt_perm xs).nodup_iff.mpr h
theorem srt_len (xs : List Str) : (srt xs).length = xs.length := (srt_perm xs).length_eq
noncomputable def uniq : List Str → List Str
 | [] => []
 | x :: r => if x ∈ r then uniq r else x :: uniq r
theorem uniq_mem {z : Str} : ∀ {xs : List Str}, z ∈ uniq xs ↔ z ∈ xs
 | [] => Iff.rfl
 | x :: r => by
  unfold uniq
  split
  ·rename_i h
   rw [uniq_mem, List.mem_cons]
   exact ⟨.inr, fun z => z.elim (fun z => z ▸ h) id⟩
  ·rw [List.mem_cons, List.mem_cons, uniq_mem]
theorem uniq_nodup : ∀ (xs : List Str), (uniq xs).Nodup
 | [] => List.nodup_nil
 | x :: r => by
  unfold uniq
  split
  ·exact uniq_nodup r
  ·rename_i h
   exact List.nodup_cons.mpr ⟨fun z => h (uniq_mem.mp z), uniq_nodup r⟩
theorem uniq_len : ∀ (xs : List Str), (uniq xs).length ≤ xs.length
 | [] => Nat.le_refl _
 | x :: r => by
  unfold uniq
  have := uniq_len r
  split <;> simp <;> omega
section
variable {C : Cx} {p : Program} {sc : Scope} {k : Nat}
theorem strsAre_of {aS : Addr} {h : Heap} : ∀ {ys : List Str} {ws : List Value}, VRels aS h (ys.map .str) ws → StrsAre ws ys
 | [], _, r => by rw [r.inv0]; exact .nil
 | y :: ys, _, r => by
  obtain ⟨w, ws, rfl, h1, r2⟩ := r.invC
  obtain ⟨t, rfl⟩ := h1.invStr
  exact .cons y t (strsAre_of r2)
theorem strsAre_rel {aS : Addr} {h : Heap} : ∀ {ys : List Str} {ws : List Value}, StrsAre ws ys → VRels aS h (ys.map .str) ws
 | _, _, .nil => .nil
 | _, _, .cons y t r => .cons (.str y t) (strsAre_rel r)
theorem sorted_strs_of {A : Around} {s : Shared} {σ : View} {r : Value} {Q : V → View → Prop} {P : Value → Shared → Prop} {E : Value → Shared → Prop} {ks : List Str} (ao : AOk C A k) (R : RelG C σ s)
  (hcol : ∀ R' : List Value → Shared → Prop, (∀ (h' : Heap) (tk : Nat) (d : Drawn) (vs : List Value) (ks' : List Str), (∀ b o, s.heap.get? b = some o → h'.get? b = some o) → s.heap.objs.size ≤ h'.objs.size → StrsAre vs ks' → ks'.Perm ks → R' vs { s with heap := h', toks := tk, drawn := d }) →
   wpAny (model C.prog C.w) A.in1 (collect r) R' E s) (hz : ks.length ≤ 16777216)
  (q : newL ((srt ks).map .str) σ Q) (hP : Aft C σ s Q P) : wpAny (model C.prog C.w) A (PySem.call (.builtin "sorted") [r]) P E s := by
 refine call_function_entry kind_sorted plain_sorted entry_sorted (args_sorted1 _) ?_
 unfold Builtin.«sorted»
 refine wpAny_bind (m := checkCount "sorted" 1 1 _) (wpAny_pure ?_)
 refine wpAny_bind (hcol _ fun h' tk d vs ks' hk hsz hs hp => ?_)
 have hvl : vs.length = ks.length := by rw [← hp.length_eq, ← hs.strs, List.length_map]
 refine wpAny_bind (wpAny_newList ?_ (by rw [hvl, sizeLine_eq]; exact hz))
 have hoL : (h'.push (seqObj "list" vs.toArray 0)).get? h'.objs.size = some (seqObj "list" vs.toArray 0) := Heap.get?_push_size _ rfl
 refine wpAny_bind (wpAny_holding (wpAny_call_entry slot_list_sort ⟨_, hoL, rfl⟩ entry_list_sort (sort_strs hoL (by rw [hvl]; exact hz) hs fun out ss' h1 h2 h3 => ⟨_, rfl, ?_⟩) (args_list_sort _)))
 refine wpAny_pure ⟨_, rfl, ?_⟩
 have hsr : ss' = srt ks := srt_of (h2.trans hp) h3
 subst hsr
 obtain ⟨e, he⟩ := sortedHeap_at (out := out.toArray) hoL
 have hk2 : ∀ b o, s.heap.get? b = some o → (sortedHeap (h'.push (seqObj "list" vs.toArray 0)) h'.objs.size vs out.toArray).get? b = some o := fun b o eb => by
  have hb := Heap.lt_size (hk b o eb)
  rw [sortedHeap_old (Nat.ne_of_lt hb) (by rw [Heap.size_push]; exact Nat.lt_succ_of_lt hb)]
  exact Heap.get?_push_of_some _ (hk b o eb)
 have hn : s.heap.get? h'.objs.size = Option.none := get_none_of_size hsz
 have hsz2 : s.heap.objs.size ≤ (sortedHeap (h'.push (seqObj "list" vs.toArray 0)) h'.objs.size vs out.toArray).objs.size := Nat.le_trans hsz (Nat.le_of_lt (Heap.lt_size he))
 exact hP (.ref h'.objs.size) (.ref h'.objs.size) (upd σ h'.objs.size (.list ((srt ks).map .str))) _ (.ref _)
  ((R.draw d).add (tk := tk) (s := { s with drawn := d }) hk2 hn ⟨by rw [List.length_map, srt_len]; exact hz, out, ⟨e, he⟩, strsAre_rel h1⟩) (.add hk2 hsz2 hsz) (q _ (R.freshNone hn))
theorem bb_sorted : bootBuiltins (Str.ofString "sorted") = some (.builtin "sorted") := by decide +kernel
theorem bb_set : bootBuiltins (Str.ofString "set") = some (.type "set") := by decide +kernel
theorem keys_strs {s : Shared} {kvs : List (Str × V)} {kws : List (Str × Value)} {vs : List Value} (h2 : PRel C.aS s.heap kvs kws) (hl : vs.length = kws.length) (hv : ∀ (j : Nat) (v : Value), vs[j]? = some v → ∃ k x, kws[j]? = some (k, x) ∧ (PySem.strKind C.prog C.w).is k v = true) : StrsAre vs (kvs.map (·.1)) := by
 rw [h2.keys]
 clear h2
 induction kws generalizing vs with
 | nil => have : vs = [] := List.length_eq_zero_iff.mp (by simpa using hl); subst this; exact .nil
 | cons q kws ih =>
  match vs, hl with
  | v :: vs, hl =>
   obtain ⟨ky, x, e1, e2⟩ := hv 0 v rfl
   simp at e1
   subst e1
   obtain ⟨t, rfl⟩ := Value.isStrOf_shape e2
   exact .cons ky t (ih (by simpa using hl) fun j v e => hv (j + 1) v (by simpa using e))
noncomputable def eSortK (T : ET) : ET := fun m σ Q => T m σ fun v σ₁ => ∃ a kvs ep, v = .ref a ∧ σ₁ a = some (.dict kvs ep) ∧ newL ((srt (kvs.map (·.1))).map .str) σ₁ Q
theorem HE.sortedKeys (G : Gl C p) (hpl : C.held = Option.none) {np pos ap cp : Pos} {o : Expr} {T : ET} (hn : sc.names.lookup (Str.ofString "sorted") = some .globalImplicit) (ho : HE C sc k o T)
  (hbase : ∀ env, attributeBase o (Str.ofString "keys") env (eval o env) = eval o env) (hline : (ap.endLine == cp.line) = true) :
  HE C sc k (.Call (.Name (Str.ofString "sorted") np) [.Call (.Attribute o (Str.ofString "keys") ap) [] [] cp] [] pos) (eSortK T) := by
 refine ⟨?_⟩; intro env A s m σ Q P E en ao R F q hP
 have O := G.ok
 refine wpAny_Call_NameR (Calls.Name_function_global en.k (en.of hn) (Calls.loadGlobal_builtin (mg := C.mg) (mb := C.mb) (by rw [en.globals]; exact O.g.keeps R.base) (G.free _ (by decide)) (by rw [en.builtins]; exact O.b.keeps R.base) (G.blt bb_sorted (by decide)) ?_) rfl)
 refine Calls.callWith_builtin (starEach_any rfl) (evalArgs_of rfl ?_)
 show wpAny _ A (spliced ((false, eval (.Call (.Attribute o (Str.ofString "keys") ap) [] [] cp) env) :: backTo pos (starEach [] env))) _ E s
 refine Calls.spliced_cons ?_
 refine wpAny_Call_method (T := "dict") (id := "dict.keys") (hbase env) rfl hline _root_.PySem.F.plainAttrs_dict _root_.PySem.F.slot_dict_keys _root_.PySem.F.type_dict_keys ?_
 refine ho.run env A s m σ _ _ E en ao R F q fun v w σ₁ s₁ hv R₁ S₁ q₁ => ?_
 obtain ⟨a, kvs, ep, rfl, hx, q₁⟩ := q₁
 cases hv
 obtain ⟨hz, kws, h1, h2⟩ := R₁.view _ _ hx
 refine ⟨h1.dictOf.typeIs, h1.dictOf.mapOf.noDict, ?_⟩
 show wpAny _ _ (callWith cp (.builtin "dict.keys") [.ref a] [] []) _ E s₁
 refine method_meetsIn _root_.PySem.F.slot_dict_keys _root_.PySem.F.entry_dict_keys rfl (PySem.evalArgs_none ⟨rfl, h1.dictOf.typeIs, _root_.PySem.F.args_dict_keys_1 _, _, kdl_meets_keys (PySem.strKind C.prog C.w) a (O.noMods (R₁.apart a (by rw [hx]; simp))), ⟨kws, h1.dictOf⟩, ?_⟩)
 refine Calls.spliced_nil ?_
 show wpAny _ A (PySem.call (.builtin "sorted") [.ref s₁.heap.objs.size]) P E _
 have hl := h2.length
 have R₂ : RelG C σ₁ { s₁ with heap := s₁.heap.push { cls := .type "dict_keys", data := .fields #[.ref a] } } := R₁.grow (tk := s₁.toks) push_old
 refine sorted_strs_of (ks := kvs.map (·.1)) ao R₂ (fun R' hR => with_size (kdu_collect (kdl_keys (knd := PySem.strKind C.prog C.w) (kvs := kws) (ep := ep) (r := s₁.heap.objs.size) (d := a)) (by show A.handled = _; exact ao.none hpl)
  ⟨⟨_, Heap.get?_push_size _ rfl, rfl, rfl⟩, h1.push _⟩ (kdl_size (by omega)) fun h' tk acc hk hacc => ?_)) (by simpa using hz) q₁ fun v w σ' s' hv' R' S' q' => hP v w σ' s' hv' R' ((S₁.trans .push).trans S') q'
 intro hsz
 exact hR h' tk s₁.drawn acc.toList _ hk hsz (keys_strs h2 (by rw [Array.length_toList]; exact hacc.1) fun j v e => hacc.2 j v (by rw [← Array.getElem?_toList]; exact e)) (List.Perm.refl _)
noncomputable def eSortSet (T : ET) : ET := fun m σ Q => T m σ fun v σ₁ => ∃ a ks, v = .ref a ∧ σ₁ a = some (.list (List.map V.str ks)) ∧ ks.length ≤ 4000 ∧ newL ((srt (uniq ks)).map .str) σ₁ Q
theorem HE.sortedSet (G : Gl C p) (hpl : C.held = Option.none) {np pos np2 cp : Pos} {o : Expr} {T : ET} (hn : sc.names.lookup (Str.ofString "sorted") = some .globalImplicit) (hn2 : sc.names.lookup (Str.ofString "set") = some .globalImplicit) (ho : HE C sc k o T) (hs : notStar o = true) :
  HE C sc k (.Call (.Name (Str.ofString "sorted") np) [.Call (.Name (Str.ofString "set") np2) [o] [] cp] [] pos) (eSortSet T) := by
 refine ⟨?_⟩; intro env A s m σ Q P E en ao R F q hP
 have O := G.ok
 refine wpAny_Call_NameR (Calls.Name_function_global en.k (en.of hn) (Calls.loadGlobal_builtin (mg := C.mg) (mb := C.mb) (by rw [en.globals]; exact O.g.keeps R.base) (G.free _ (by decide)) (by rw [en.builtins]; exact O.b.keeps R.base) (G.blt bb_sorted (by decide)) ?_) rfl)
 refine Calls.callWith_builtin (starEach_any rfl) (evalArgs_of rfl ?_)
 show wpAny _ A (spliced ((false, eval (.Call (.Name (Str.ofString "set") np2) [o] [] cp) env) :: backTo pos (starEach [] env))) _ E s
 refine Calls.spliced_cons ?_
 refine wpAny_Call_NameR (Calls.Name_function_global en.k (en.of hn2) (Calls.loadGlobal_builtin (mg := C.mg) (mb := C.mb) (by rw [en.globals]; exact O.g.keeps R.base) (G.free _ (by decide)) (by rw [en.builtins]; exact O.b.keeps R.base) (G.blt bb_set (by decide)) ?_) rfl)
 have hpa : plainArgs [o] = true := by simp [plainArgs, hs]
 refine PySem.callWith_type (starEach_any hpa) (evalArgs_of hpa ?_)
 rw [starEach_plain hs]
 show wpAny _ A (spliced ((false, eval o env) :: backTo cp (starEach [] env))) _ E s
 refine Calls.spliced_cons (ho.run env A s m σ _ _ E en ao R F q fun v w σ₁ s₁ hv R₁ S₁ q₁ => ?_)
 obtain ⟨a, ks, rfl, hx, hk4, q₁⟩ := q₁
 cases hv
 obtain ⟨hz, us, h1, h2⟩ := R₁.view _ _ hx
 refine Calls.spliced_nil ?_
 show wpAny _ A (PySem.call (.type "set") [.ref a]) _ E s₁
 refine with_size (call_setX (ss := ks) (ao.none hpl) h1.isList (by rw [List.toList_toArray]; exact strsAre_of h2) (by show ks.length + 1 < 4096; omega) fun h₂ tk₂ ks₂ hX hm hk₂ => ?_)
 intro hsz₂
 refine Calls.spliced_nil ?_
 show wpAny _ A (PySem.call (.builtin "sorted") [.ref s₁.heap.objs.size]) P E _
 have R₂ : RelG C σ₁ { s₁ with heap := h₂, toks := tk₂ } := R₁.grow (tk := tk₂) hk₂
 have hnd : ks₂.Nodup := let ⟨_, _, _, _, _, _, _, _, _, _, _, _, _, hn⟩ := hX; hn
 have hper : ks₂.Perm (uniq ks) := perm_of_mem hnd (uniq_nodup ks) fun z => (hm z).trans uniq_mem.symm
 refine sorted_strs_of (ks := uniq ks) ao R₂ (fun R' hR => with_size (collect_set (by show A.handled = _; exact ao.none hpl) hX fun h' tk d vs ks' hk hs hp => ?_)) (by have := uniq_len ks; omega) q₁
  fun v w σ' s' hv' R' S' q' => hP v w σ' s' hv' R' ((S₁.trans (.grow hk₂ hsz₂)).trans S') q'
 intro hsz
 exact hR h' tk d vs ks' hk hsz hs (hp.trans hper)
end
end Mine
end
noncomputable section
namespace Mine
open PySem PySem.W PyProof.Rows PySem.Calls
section
variable {C : Cx} {p : Program} {sc : Scope} {k : Nat}
noncomputable def spDictC : Spec := fun vs σ Q => onR vs fun a => ∃ kvs ep, σ a = some (.dict kvs ep) ∧ newD kvs σ Q
theorem ok_dictC (O : C.Ok) : OpN C k (fun ws => PySem.call (.type "dict") ws) spDictC := by
 intro A s σ vs ws Q P E ao R hv q hP
 replace q := onR.elim q
 obtain ⟨a, rfl, q⟩ := q
 ·obtain ⟨wa, rfl, h1⟩ := hv.inv1
  cases h1
  obtain ⟨kvs, ep, hx, q⟩ := q
  obtain ⟨hz, kws, h1, h2⟩ := R.view _ _ hx
  have hl := h2.length
  refine with_size (kt_call_dict (knd := PySem.strKind C.prog C.w) (O.noMods (R.apart a (by rw [hx]; simp))) h1.dictOf (by rw [sizeLine_eq]; omega) fun h' hd' hs' => ?_)
  intro hsz
  obtain ⟨ep', hat⟩ := hd'.dictAt
  have hn := size_none s.heap
  have hk : ∀ b o, s.heap.get? b = some o → h'.get? b = some o := fun b o e => hs'.extBut b o (Nat.ne_of_lt (Heap.lt_size e)) (Heap.get?_push_of_some _ e)
  exact hP _ _ (upd σ s.heap.objs.size (.dict kvs ep')) _ (.ref _) (R.add (tk := s.toks) hk hn ⟨hz, kws, hat, h2.keep fun b o e _ => hk b o e⟩) (.add hk hsz (Nat.le_refl _)) (q _ ep' (R.freshNone hn))
theorem HE.dictC (G : Gl C p) {np pos : Pos} {es : List Expr} {L : LT} (hn : sc.names.lookup (Str.ofString "dict") = some .globalImplicit) (hl : HL C sc k es L) (hp : plainArgs es = true) : HE C sc k (.Call (.Name (Str.ofString "dict") np) es [] pos) (eCall spDictC L) :=
 HE.btype G.ok (ok_dictC G.ok) hn (G.free _ (by decide)) (G.blt bb_dict (by decide)) rfl hl hp
noncomputable def spGet : Spec := fun vs σ Q => onRS vs fun a x => ∃ kvs ep, σ a = some (.dict kvs ep) ∧ Q ((vget kvs x).getD .none) σ
theorem ok_get (O : C.Ok) : OpN C k (fun ws => PySem.call (.builtin "dict.get") ws) spGet := by
 intro A s σ vs ws Q P E ao R hv q hP
 replace q := onRS.elim q
 obtain ⟨a, x, rfl, q⟩ := q
 ·obtain ⟨wa, wb, rfl, h1, h2⟩ := hv.inv2
  cases h1; cases h2 with | str _ t =>
  obtain ⟨kvs, ep, hx, q⟩ := q
  obtain ⟨hz, kws, h1, h2⟩ := R.view _ _ hx
  refine call_meetsIn _root_.PySem.F.slot_dict_get h1.dictOf.typeIs _root_.PySem.F.entry_dict_get (_root_.PySem.F.args_dict_get_2 _ _) (meets_dict_get (PySem.strKind C.prog C.w) a (key_is x t) (O.noMods (R.apart a (by rw [hx]; simp)))) ⟨_, h1.dictOf.mapOf, ?_⟩
  cases hg : vget kvs x with
  | none =>
   rw [hg] at q
   have e : valueAt kws x = Option.none := by
    have : (valueAt kws x).isSome = false := by rw [← h2.none (k := x), hg]; rfl
    cases e : valueAt kws x with
    | none => rfl
    | some _ => rw [e] at this; cases this
   show P ((valueAt kws x).getD .none) _
   rw [e]
   exact hP _ _ σ _ .none (R.tok _) Step.refl q
  | some v =>
   rw [hg] at q
   obtain ⟨w, e1, e2⟩ := h2.find hg
   show P ((valueAt kws x).getD .none) _
   rw [e1]
   exact hP _ _ σ _ e2 (R.tok _) Step.refl q
theorem HE.getD (G : Gl C p) {o : Expr} {apos pos : Pos} {es : List Expr} {To : ET} {L : LT} (ho : HE C sc k o To) (hl : HL C sc k es L) (hp : plainArgs es = true)
  (hbase : ∀ env, attributeBase o (Str.ofString "get") env (eval o env) = eval o env) (hline : (apos.endLine == pos.line) = true) (hfew : es.length < 30) : HE C sc k (.Call (.Attribute o (Str.ofString "get") apos) es [] pos) (eMeth tyDict spGet To L) :=
 HE.meth tyDict_ok F.plainAttrs_dict F.slot_dict_get F.type_dict_get (ok_get G.ok) ho hl hp hbase hline hfew
noncomputable def opNotInD : O2 := fun i o σ Q => isS i fun x => isR o fun a => ∃ kvs ep, σ a = some (.dict kvs ep) ∧ Q (.bool (!(vget kvs x).isSome)) σ
theorem ok_notInD (O : C.Ok) : Op2 C k (compareOp .NotIn) opNotInD := by
 intro A s σ a b wa wb Q P E ao R va vb q hP
 replace q := isS.elim q
 obtain ⟨x, rfl, q⟩ := q
 replace q := isR.elim q
 obtain ⟨a, rfl, q⟩ := q
 ·cases va; cases vb
  obtain ⟨kvs, ep, hx, q⟩ := q
  obtain ⟨_, kws, h1, h2⟩ := R.view _ _ hx
  refine wpAny_notIn_of (knd := PySem.strKind C.prog C.w) (key_is x _) (O.noMods (R.apart a (by rw [hx]; simp))) h1.dictOf.mapOf ?_
  rw [← h2.none]
  exact hP _ _ σ _ (.bool _) (R.tok _) Step.refl q
noncomputable def vNone : V → Bool
 | .none => true
 | _ => false
noncomputable def onBN (b : V) (F : Bool → Prop) (G : Prop) : Prop := match b with | .none => G | .bool y => F y | _ => False
theorem onBN.elim {b : V} {F : Bool → Prop} {G : Prop} (h : onBN b F G) : (b = .none ∧ G) ∨ ∃ y, b = .bool y ∧ F y := by
 cases b <;> first | exact .inl ⟨rfl, h⟩ | exact .inr ⟨_, rfl, h⟩ | exact False.elim h
noncomputable def opIs : O2 := fun a b σ Q => onBN b (fun y => isB a fun x => Q (.bool (x == y)) σ) (Q (.bool (vNone a)) σ)
noncomputable def opIsNot : O2 := fun a b σ Q => onBN b (fun y => isB a fun x => Q (.bool (x != y)) σ) (Q (.bool (!vNone a)) σ)
theorem none_rel {h : Heap} {v : V} {w : Value} (hv : VRel C.aS h v w) : (w == Value.none) = vNone v := by
 cases hv <;> rfl
theorem ok_isNot : Op2 C k (compareOp .IsNot) opIsNot := by
 intro A s σ a b wa wb Q P E ao R va vb q hP
 rcases onBN.elim q with ⟨rfl, q⟩ | ⟨y, rfl, q⟩
 ·cases vb
  exact isnot_none_gen (by rw [none_rel va]; exact hP _ _ σ s (.bool _) R Step.refl q)
 ·obtain ⟨x, rfl, q⟩ := isB.elim q
  cases va; cases vb
  exact isnot_bool (hP _ _ σ s (.bool _) R Step.refl q)
noncomputable def spClear : Spec := fun vs σ Q => onR vs fun a => ∃ xs, σ a = some (.list xs) ∧ Q .none (upd σ a (.list []))
theorem ok_clear : OpN C k (fun ws => PySem.call (.builtin "list.clear") ws) spClear := by
 intro A s σ vs ws Q P E ao R hv q hP
 replace q := onR.elim q
 obtain ⟨a, rfl, q⟩ := q
 ·obtain ⟨wa, rfl, h1⟩ := hv.inv1
  cases h1
  obtain ⟨xs, hx, q⟩ := q
  obtain ⟨hz, us, ⟨n, h3⟩, h4⟩ := R.view _ _ hx
  have e := h4.length
  refine call_meets _root_.PySem.F.slot_list_clear ⟨_, h3, rfl⟩ _root_.PySem.F.entry_list_clear (_root_.PySem.F.args_list_clear_1 _) (_root_.PySem.AutoSeq1.list_clear_list_0 a us.toArray n (by rw [List.size_toArray, ← e, sizeLine_eq]; exact hz)) ⟨h3, ?_⟩
  have hs' := Heap.SameBut.update s.heap a (Obj.mapSeq fun _ => (#[] : Array Value))
  have kt : TupKeep s.heap (s.heap.update a (Obj.mapSeq fun _ => #[])) := fun b o eb ht => hs'.extBut b o (by rintro rfl; rw [h3] at eb; cases eb; simp [IsT] at ht) eb
  exact hP .none .none (upd σ a (.list [])) _ .none (R.change (tk := s.toks) hx hs' ⟨by simp, [], ⟨_, get?_update_seq h3 (fun _ => #[])⟩, .nil⟩) (.change hx hs') q
theorem HE.clear {o : Expr} {apos pos : Pos} {es : List Expr} {To : ET} {L : LT} (ho : HE C sc k o To) (hl : HL C sc k es L) (hp : plainArgs es = true)
  (hbase : ∀ env, attributeBase o (Str.ofString "clear") env (eval o env) = eval o env) (hline : (apos.endLine == pos.line) = true) (hfew : es.length < 30) : HE C sc k (.Call (.Attribute o (Str.ofString "clear") apos) es [] pos) (eMeth tyList spClear To L) :=
 HE.meth tyList_ok F.plainAttrs_list F.slot_list_clear F.type_list_clear ok_clear ho hl hp hbase hline hfew
noncomputable def sSetT (g : Tgt) (T : ET) : ST := fun m σ Q => T m σ fun v σ' => ∃ m', bindT g v m = some m' ∧ Q .next m' σ'
end
section
variable {m : Loc} {σ : View} {Q : V → View → Prop} {R : Fl → Loc → View → Prop} {ns : List Int}
@[simp] theorem sSetT_eq {g : Tgt} {T : ET} : sSetT g T m σ R = T m σ fun v σ' => ∃ m', bindT g v m = some m' ∧ R .next m' σ' := rfl
@[simp] theorem eSortK_eq {T : ET} : eSortK T m σ Q = T m σ fun v σ₁ => ∃ a kvs ep, v = .ref a ∧ σ₁ a = some (.dict kvs ep) ∧ newL ((srt (kvs.map (·.1))).map .str) σ₁ Q := rfl
@[simp] theorem eSortSet_eq {T : ET} : eSortSet T m σ Q = T m σ fun v σ₁ => ∃ a ks, v = .ref a ∧ σ₁ a = some (.list (List.map V.str ks)) ∧ ks.length ≤ 4000 ∧ newL ((srt (uniq ks)).map .str) σ₁ Q := rfl
theorem dictc_dict {a : Addr} {kvs : List (Str × V)} {ep : Nat} (h : σ a = some (.dict kvs ep)) (q : newD kvs σ Q) : spDictC [.ref a] σ Q := ⟨kvs, ep, h, q⟩
theorem get_dict {a : Addr} {kvs : List (Str × V)} {ep : Nat} {x : Str} (h : σ a = some (.dict kvs ep)) (q : Q ((vget kvs x).getD .none) σ) : spGet [.ref a, .str x] σ Q := ⟨kvs, ep, h, q⟩
theorem notin_dict {a : Addr} {kvs : List (Str × V)} {ep : Nat} {x : Str} (h : σ a = some (.dict kvs ep)) (q : Q (.bool (!(vget kvs x).isSome)) σ) : opNotInD (.str x) (.ref a) σ Q := ⟨kvs, ep, h, q⟩
theorem clear_list {a : Addr} {xs : List V} (h : σ a = some (.list xs)) (q : Q .none (upd σ a (.list []))) : spClear [.ref a] σ Q := ⟨xs, h, q⟩
@[simp] theorem is_none {v : V} : opIs v .none σ Q = Q (.bool (vNone v)) σ := rfl
@[simp] theorem isnot_none {v : V} : opIsNot v .none σ Q = Q (.bool (!vNone v)) σ := rfl
@[simp] theorem is_bb {a b : Bool} : opIs (.bool a) (.bool b) σ Q = Q (.bool (a == b)) σ := rfl
@[simp] theorem isnot_bb {a b : Bool} : opIsNot (.bool a) (.bool b) σ Q = Q (.bool (a != b)) σ := rfl
noncomputable def Flat0 : V → Prop
 | .none | .bool _ | .int _ | .str _ => True
 | _ => False
noncomputable def FlatN : Nat → V → Prop
 | 0, v => Flat0 v
 | n + 1, .tup vs => ∀ v ∈ vs, FlatN n v
 | _ + 1, v => Flat0 v
theorem veq0_flat {v : V} (h : Flat0 v) : veq0 v v = some true := by
 cases v <;> first | exact h.elim | rfl | exact congrArg some (beq_self_eq_true _) | simp [veq0]
theorem rowq_same {f : V → V → Option Bool} : ∀ {xs : List V}, (∀ x ∈ xs, f x x = some true) → rowq f xs xs = some true
 | [], _ => rfl
 | x :: xs, h => by
  unfold rowq
  rw [h x (List.mem_cons_self ..)]
  exact rowq_same fun y hy => h y (List.mem_cons_of_mem _ hy)
theorem dq_flat : ∀ {n : Nat} {v : V}, FlatN n v → dq n σ v v = some true
 | 0, v, h => veq0_flat h
 | n + 1, v, h => by
  cases v <;> first | exact veq0_flat h | exact (h : False).elim | skip
  exact rowq_same fun x hx => dq_flat (h x hx)
theorem dq_list {n : Nat} {a b : Addr} {xs : List V} (ha : σ a = some (.list xs)) (hb : σ b = some (.list xs)) (h : ∀ x ∈ xs, FlatN n x) : dq (n + 1) σ (.ref a) (.ref b) = some true := by
 show dqR (dq n σ) (σ a) (σ b) = _
 rw [ha, hb]
 refine (if_pos rfl).trans ?_
 exact rowq_same fun x hx => dq_flat (h x hx)
theorem dictq_same {k0 : List (Str × V)} (hn : (k0.map (·.1)).Nodup) (hf : ∀ q ∈ k0, Flat0 q.2) : ∀ {k1 : List (Str × V)}, (∀ q ∈ k1, q ∈ k0) → dictq k0 k1 = some true
 | [], _ => rfl
 | (k, v) :: k1, hm => by
  have hg : ∃ y, vget k0 k = some y ∧ (k, y) ∈ k0 := vget_mem (List.mem_map.mpr ⟨_, hm _ (List.mem_cons_self ..), rfl⟩)
  obtain ⟨y, hy, hmem⟩ := hg
  have e : y = v := by
   have hq := hm _ (List.mem_cons_self ..)
   clear hy hm
   induction k0 with
   | nil => cases hq
   | cons p k0 ih =>
    rw [List.map_cons, List.nodup_cons] at hn
    rcases List.mem_cons.mp hq with e1 | hq
    ·rcases List.mem_cons.mp hmem with e2 | hmem
     ·rw [← e1] at e2; exact congrArg (·.2) e2
     ·exact absurd (List.mem_map.mpr ⟨_, hmem, by rw [← e1]⟩) hn.1
    ·rcases List.mem_cons.mp hmem with e2 | hmem
     ·exact absurd (List.mem_map.mpr ⟨_, hq, by rw [← e2]⟩) hn.1
     ·exact ih hn.2 (fun q hq => hf q (List.mem_cons_of_mem _ hq)) hmem hq
  subst e
  unfold dictq
  rw [hy]
  dsimp only
  rw [veq0_flat (hf _ hmem), dictq_same hn hf fun q hq => hm q (List.mem_cons_of_mem _ hq)]
  rfl
theorem dq_dict {n : Nat} {a b : Addr} {kvs : List (Str × V)} {e1 e2 : Nat} (ha : σ a = some (.dict kvs e1)) (hb : σ b = some (.dict kvs e2)) (hn : (kvs.map (·.1)).Nodup) (hf : ∀ q ∈ kvs, Flat0 q.2) : dq (n + 1) σ (.ref a) (.ref b) = some true := by
 show dqR (dq n σ) (σ a) (σ b) = _
 rw [ha, hb]
 refine (if_pos rfl).trans ?_
 exact dictq_same hn hf fun q hq => hq
theorem dq_tup {n : Nat} {xs ys : List V} (h : rowq (dq n σ) xs ys = some true) : dq (n + 1) σ (.tup xs) (.tup ys) = some true := h
theorem rowq_cons {f : V → V → Option Bool} {x y : V} {xs ys : List V} (h : f x y = some true) (h' : rowq f xs ys = some true) : rowq f (x :: xs) (y :: ys) = some true := by
 unfold rowq
 rw [h]
 exact h'
theorem eqD_true {a b : V} (h : dq 4 σ a b = some true) (q : Q (.bool true) σ) : opEqD a b σ Q := atK.of h q
theorem neD_false {a b : V} (h : dq 4 σ a b = some true) (q : Q (.bool false) σ) : opNe a b σ Q := atK.of h q
end
end Mine
end
noncomputable section
namespace Mine
open PySem PySem.W PyProof.Rows PySem.Calls
abbrev cls (l : List Str) : List (List Nat) := l.map cl
abbrev tupV (l : List Str) : V := .tup (l.map .str)
@[reducible] noncomputable def tupOrd : KeyOrd where
 α := List (List Nat)
 blt a b := decide (a < b)
 irrefl a := by simpa using List.lt_irrefl a
 trans a b c h1 h2 := by simp only [decide_eq_true_eq] at *; exact List.lt_trans h1 h2
 negTrans a b c h := by
  simp only [decide_eq_true_eq] at *
  by_cases hab : a < b
  ·exact .inl hab
  ·exact .inr (List.lt_of_le_of_lt (List.not_lt.mp hab) h)
 total a b h1 h2 := by simp only [decide_eq_false_iff_not] at *; exact List.le_antisymm (List.not_lt.mp h2) (List.not_lt.mp h1)
noncomputable def tsrt (xs : List (List Str)) : List (List Str) := xs.mergeSort fun a b => !decide (cls b < cls a)
theorem cls_inj : ∀ {a b : List Str}, cls a = cls b → a = b
 | [], [], _ => rfl
 | [], _ :: _, h => by simp [cls] at h
 | _ :: _, [], h => by simp [cls] at h
 | x :: a, y :: b, h => by
  simp only [cls, List.map_cons, List.cons.injEq] at h
  rw [cl_inj h.1, cls_inj h.2]
theorem tsrt_perm (xs : List (List Str)) : (tsrt xs).Perm xs := List.mergeSort_perm _ _
theorem tsrt_sorted (xs : List (List Str)) : (tsrt xs).Pairwise fun a b => tupOrd.kle (cls a) (cls b) := by
 have := List.pairwise_mergeSort (le := fun a b : List Str => !decide (cls b < cls a)) (fun a b c h1 h2 => by
  simp only [Bool.not_eq_true'] at *; exact KeyOrd.kle_trans (O := tupOrd) h1 h2) (fun a b => by
  cases h : decide (cls b < cls a)
  ·rfl
  ·have := KeyOrd.klt_asymm (O := tupOrd) (a := cls b) (b := cls a) h
   have h' : decide (cls a < cls b) = false := this
   rw [h']; rfl) xs
 exact this.imp fun h => by
  have h' := h
  simp only [Bool.not_eq_true'] at h'
  exact h'
theorem tsorted_uniq : ∀ {a b : List (List Str)}, a.Perm b → (a.Pairwise fun a b => tupOrd.kle (cls a) (cls b)) → (b.Pairwise fun a b => tupOrd.kle (cls a) (cls b)) → a = b
 | [], _, p, _, _ => p.nil_eq
 | x :: r, b, p, ha, hb => by
  cases b with
  | nil => exact absurd p.length_eq (by simp)
  | cons y t =>
   have hx : x ∈ y :: t := p.mem_iff.mp (.head _)
   have hy : y ∈ x :: r := p.mem_iff.mpr (.head _)
   have e : x = y := by
    rcases List.mem_cons.mp hx with h | h
    ·exact h
    ·rcases List.mem_cons.mp hy with h' | h'
     ·exact h'.symm
     ·exact cls_inj (KeyOrd.kle_antisymm (O := tupOrd) ((List.pairwise_cons.mp ha).1 y h') ((List.pairwise_cons.mp hb).1 x h))
   subst e
   rw [tsorted_uniq (List.Perm.cons_inv p) (List.pairwise_cons.mp ha).2 (List.pairwise_cons.mp hb).2]
theorem tsrt_congr {xs ys : List (List Str)} (p : xs.Perm ys) : tsrt xs = tsrt ys := tsorted_uniq ((tsrt_perm xs).trans (p.trans (tsrt_perm ys).symm)) (tsrt_sorted xs) (tsrt_sorted ys)
theorem tsrt_of {xs ys : List (List Str)} (p : ys.Perm xs) (h : ys.Pairwise fun a b => tupOrd.kle (cls a) (cls b)) : ys = tsrt xs := tsorted_uniq (p.trans (tsrt_perm xs).symm) h (tsrt_sorted xs)
section
variable {prog : Program} {w : World} {A : Around} {E : Value → Shared → Prop} {s : Shared}
inductive TupsAre (h : Heap) : List Value → List (List Str) → Prop
 | nil : TupsAre h [] []
 | cons {a : Addr} {us : List Value} {xs : List Str} {vs : List Value} {xss : List (List Str)} : h.IsTuple a us.toArray → StrsAre us xs → xs ≠ [] → TupsAre h vs xss → TupsAre h (.ref a :: vs) (xs :: xss)
theorem TupsAre.all {h : Heap} : ∀ {vs : List Value} {xss : List (List Str)}, TupsAre h vs xss → ∀ v ∈ vs, ∃ a us xs, v = .ref a ∧ h.IsTuple a us.toArray ∧ StrsAre us xs ∧ xs ≠ []
 | _, _, .nil, v, hv => by simp at hv
 | _, _, .cons h1 h2 h3 r, v, hv => by
  rcases List.mem_cons.mp hv with rfl | hv
  ·exact ⟨_, _, _, rfl, h1, h2, h3⟩
  ·exact r.all v hv
theorem TupsAre.keep {h h' : Heap} (k : ∀ b o, h.get? b = some o → o.cls = .type "tuple" → h'.get? b = some o) {vs : List Value} {xss : List (List Str)} (x : TupsAre h vs xss) : TupsAre h' vs xss := by
 induction x with
 | nil => exact .nil
 | cons h1 h2 h3 _ ih => exact .cons (let ⟨o, ho, hc, r⟩ := h1; ⟨o, k _ o ho hc, hc, r⟩) h2 h3 ih
theorem oneLt_strF {a b : Str} {t u : Tok} {f : Bool} {Q : Bool → Shared → Prop} (h : Q (decide (a.cps.toList < b.cps.toList)) s) : wpAny (model prog w) A (oneLt' f (.str a t) (.str b u)) Q E s := by
 cases f
 ·rw [oneLt'_eq]
  simp only [Bool.false_eq_true, if_false]
  refine wpAny_bind (wpAny_richCompare_same (typeIs_str s a t) (typeIs_str s b u) slot_str_lt (call_str_lt ⟨by simp, wpAny_truthy_bool h⟩))
 ·exact oneLt_str h
theorem first_tup {a : Addr} {us : List Value} {Q : Option Value → Shared → Prop} (h : s.heap.IsTuple a us.toArray) (q : Q us[0]? s) : wpAny (model prog w) A (firstOfTuple' (.ref a)) Q E s := by
 obtain ⟨o, ho, hc, n, hd⟩ := h
 refine wpAny_bind (wpAny_typeOf (T := "tuple") ⟨o, ho, hc⟩ ?_)
 show wpAny _ _ (if (Value.type "tuple" != Value.type "tuple") = true then pure none else _) Q E s
 rw [if_neg (by simp)]
 refine wpAny_bind (listItems_at ho hd (wpAny_pure ?_))
 rw [List.getElem?_toArray]
 exact q
theorem cls_self {x : Str} {a b : List Str} : decide (cls (x :: a) < cls (x :: b)) = decide (cls a < cls b) := decide_eq_decide.mpr List.cons_lt_cons_self
theorem cls_diff {x y : Str} (e : x ≠ y) {a b : List Str} : decide (cls (x :: a) < cls (y :: b)) = decide (cl x < cl y) := by
 have hne : cl x ≠ cl y := fun h => e (cl_inj h)
 exact decide_eq_decide.mpr (by simp only [cls, List.map_cons, List.cons_lt_cons_iff, hne, false_and, or_false])
theorem tup_loop {f : (Value × Value) × Nat → Option Bool × Unit → Sem (ForInStep (Option Bool × Unit))}
  (hs : ∀ (x y : Str) (t u : Tok) (i : Nat) (R : ForInStep (Option Bool × Unit) → Shared → Prop), (x = y → R (.yield (none, ())) s) → (x ≠ y → R (.done (some (decide (cl x < cl y)), ())) s) → wpAny (model prog w) A (f ((.str x t, .str y u), i) (none, ())) R E s) :
  ∀ {us vs : List Value} {xs ys : List Str} (i : Nat) {R : Option Bool × Unit → Shared → Prop}, StrsAre us xs → StrsAre vs ys → R (some (decide (cls xs < cls ys)), ()) s → (decide (cls xs < cls ys) = decide (xs.length < ys.length) → R (none, ()) s) →
   wpAny (model prog w) A (forIn ((us.zip vs).zipIdx i) (none, ()) f) R E s := by
 intro us vs xs ys i R h1
 induction h1 generalizing vs ys i R with
 | nil =>
  intro h2 q1 q2
  refine wpAny_pure (q2 ?_)
  cases h2 <;> simp [cls]
 | cons x t h1 ih =>
  intro h2 q1 q2
  cases h2 with
  | nil => exact wpAny_pure (q2 (by simp [cls]))
  | cons y u h2 =>
   rw [List.zip_cons_cons, List.zipIdx_cons, List.forIn_cons]
   refine wpAny_bind (hs x y t u i _ (fun e => ?_) (fun e => wpAny_pure ?_))
   ·subst e
    refine ih (i + 1) h2 ?_ fun h => q2 ?_
    ·rw [cls_self] at q1; exact q1
    ·rw [cls_self, h]; simp
   ·rw [cls_diff e] at q1; exact q1
theorem keyLt_tup {a b : Addr} {us vs : List Value} {xs ys : List Str} {Q : Bool → Shared → Prop} (h1 : s.heap.IsTuple a us.toArray) (h2 : s.heap.IsTuple b vs.toArray) (h3 : StrsAre us xs) (h4 : StrsAre vs ys) (q : Q (decide (cls xs < cls ys)) s) :
  wpAny (model prog w) A (keyLt' (tuples' true) (.ref a) (.ref b)) Q E s := by
 obtain ⟨o, ho, hc, n, hd⟩ := h1
 obtain ⟨o2, ho2, hc2, n2, hd2⟩ := h2
 refine wpAny_bind (listItems_at ho hd (wpAny_bind (listItems_at ho2 hd2 ?_)))
 rw [List.toList_toArray, List.toList_toArray]
 refine wpAny_bind (tup_loop (fun x y t u i R r1 r2 => ?_) 0 h3 h4 (wpAny_pure q) fun e => wpAny_pure ?_)
 ·refine wpAny_bind (eqBool_str ?_)
  by_cases e : x = y
  ·subst e
   rw [beq_self_eq_true]
   exact wpAny_pure (r1 rfl)
  ·have : (x == y) = false := by simpa using e
   rw [this]
   exact wpAny_bind (oneLt_strF (wpAny_pure (r2 e)))
 ·have e3 : us.length = xs.length := by rw [← h3.strs, List.length_map]
  have e4 : vs.length = ys.length := by rw [← h4.strs, List.length_map]
  have : decide (us.toArray.size < vs.toArray.size) = decide (cls xs < cls ys) := by rw [e, List.size_toArray, List.size_toArray, e3, e4]
  rw [this]; exact q
noncomputable def ktup (h : Heap) : Value → List Str
 | .ref a => (match h.get? a with
  | some o => (match o.data with | .seq it _ => it.toList.map strOf | _ => [])
  | none => [])
 | _ => []
theorem ktup_at {h : Heap} {a : Addr} {us : List Value} {xs : List Str} (h1 : h.IsTuple a us.toArray) (h2 : StrsAre us xs) : ktup h (.ref a) = xs := by
 obtain ⟨o, ho, hc, n, hd⟩ := h1
 unfold ktup
 dsimp only
 rw [ho]
 dsimp only
 rw [hd]
 dsimp only
 exact h2.strs
theorem TupsAre.map {h : Heap} : ∀ {vs : List Value} {xss : List (List Str)}, TupsAre h vs xss → vs.map (ktup h) = xss
 | _, _, .nil => rfl
 | _, _, .cons h1 h2 _ r => by rw [List.map_cons, ktup_at h1 h2, r.map]
theorem TupsAre.of_all {h : Heap} : ∀ {vs : List Value}, (∀ v ∈ vs, ∃ a us xs, v = .ref a ∧ h.IsTuple a us.toArray ∧ StrsAre us xs ∧ xs ≠ []) → TupsAre h vs (vs.map (ktup h))
 | [], _ => .nil
 | v :: vs, hh => by
  obtain ⟨a, us, xs, rfl, h1, h2, h3⟩ := hh _ (.head _)
  rw [List.map_cons, ktup_at h1 h2]
  exact .cons h1 h2 h3 (TupsAre.of_all fun v hv => hh v (.tail _ hv))
theorem firsts_tup : ∀ {vs : List Value} {xss : List (List Str)} {Q : List (Option Value) → Shared → Prop}, TupsAre s.heap vs xss → (∀ (us : List Value) (ss : List Str), StrsAre us ss → us.length = vs.length → Q (us.map some) s) → wpAny (model prog w) A (vs.mapM firstOfTuple') Q E s
 | _, _, Q, .nil, q => wpAny_pure (q [] [] .nil rfl)
 | _, _, Q, .cons h1 h2 h3 r, q => by
  rw [List.mapM_cons]
  refine wpAny_bind (first_tup h1 (wpAny_bind (firsts_tup r fun us ss hu hl => wpAny_pure ?_)))
  cases h2 with
  | nil => exact absurd rfl h3
  | cons x t h2 => exact q (.str x t :: us) (x :: ss) (.cons x t hu) (by simp [hl])
theorem kind_tup {vs : List Value} {xss : List (List Str)} {Q : SortKind → Shared → Prop} (h : TupsAre s.heap vs xss) (h2 : 2 ≤ vs.length) (q : Q (tuples' true) s) : wpAny (model prog w) A (keyKind' vs.toArray) Q E s := by
 rw [keyKind'_eq, List.mapM_toArray]
 refine wpAny_bind (wpAny_map (firsts_tup h fun us ss hu hl => ?_))
 have h1 : ((us.map some).toArray.all fun x : Option Value => x.isSome) = true := by simp
 rw [if_pos h1]
 refine wpAny_bind (wpAny_rule ?_)
 have h3 : Array.filterMap id (us.map some).toArray = us.toArray := by
  rw [List.filterMap_toArray]; simp
 rw [h3, oneTypeOnly'_eq, List.mapM_toArray, mapM_typeOf_strs hu]
 have h4 : us.length ≠ 0 := by omega
 cases hu with
 | nil => exact absurd rfl h4
 | cons x t hu =>
  rename_i us ss
  have h5 : ((List.map (fun _ => Value.type "str") (Value.str x t :: us)).toArray.all fun x => x == Value.type "str") = true := by
   simp only [List.all_toArray, List.all_map, List.all_eq_true]
   intro _ _
   rfl
  have h6 : (List.map (fun _ => Value.type "str") (Value.str x t :: us)).toArray[0]? = some (Value.type "str") := by simp
  simp only [map_pure, pure_bind]
  rw [h6]
  simp only [h5, if_true, pure_bind]
  exact wpAny_pure q
theorem sort_tups {a : Addr} {vs : List Value} {xss : List (List Str)} {n : Nat} {P : Fin → Shared → Prop} (ho : s.heap.get? a = some (seqObj "list" vs.toArray n)) (hz : vs.length ≤ 16777216) (hS : TupsAre s.heap vs xss)
  (h : ∀ out : List Value, TupsAre s.heap out (tsrt xss) → P (.done (.ret .none)) { s with heap := sortedHeap s.heap a vs out.toArray }) :
  wpAny (model prog w) A (Builtin.«list.sort» ⟨[.ref a], []⟩) P E s := by
 have keep : ∀ s' : Shared, (∀ b o, b ≠ a → s.heap.get? b = some o → s'.heap.get? b = some o) → ∀ b o, s.heap.get? b = some o → o.cls = .type "tuple" → s'.heap.get? b = some o := fun s' hk b o h1 h2 =>
  hk b o (by rintro rfl; rw [ho] at h1; cases h1; simp at h2) h1
 refine ts_sort (kd := tuples' true) (O := tupOrd) (key := fun p => cls (ktup s.heap p.1)) ho hz (fun h2 s' hk Q q => kind_tup (hS.keep (keep s' hk)) h2 q) (fun s' hk x y hx hy Q st hkd q => ?_) fun out hp hs => ?_
 ·rw [pairsOf_toList] at hx hy
  obtain ⟨b, us, xs, e1, t1, t2, t3⟩ := hS.all _ (mem_zip_self hx).2
  obtain ⟨c, us', xs', e2, u1, u2, u3⟩ := hS.all _ (mem_zip_self hy).2
  have q' : Q (some (decide (cls (ktup s.heap x.1) < cls (ktup s.heap y.1)))) st := q
  rw [e1, e2, ktup_at t1 t2, ktup_at u1 u2] at q'
  rw [lt'_eq, e1, e2]
  refine ts_getB ?_
  rw [hkd]
  refine wpS_bind (wpS_lift (wpAny_attempt (keyLt_tup (let ⟨o, ho, hc, r⟩ := t1; ⟨o, keep s' hk _ o ho hc, hc, r⟩) (let ⟨o, ho, hc, r⟩ := u1; ⟨o, keep s' hk _ o ho hc, hc, r⟩) t2 u2 ⟨rfl, ?_⟩)))
  exact wpS_pure q'
 ·have hall := fun v (hv : v ∈ out) => hS.all v (hp.mem_iff.mp hv)
  have e : out.map (ktup s.heap) = tsrt xss := by
   refine tsrt_of ?_ ?_
   ·rw [← hS.map]; exact hp.map _
   ·rw [List.pairwise_map]; exact hs
  exact h out (e ▸ TupsAre.of_all hall)
end
section
variable {C : Cx} {p : Program} {sc : Scope} {k : Nat}
theorem tupsAre_of {aS : Addr} {h : Heap} : ∀ {xss : List (List Str)} {ws : List Value}, VRels aS h (xss.map tupV) ws → (∀ l ∈ xss, l ≠ []) → TupsAre h ws xss
 | [], _, r, _ => by rw [r.inv0]; exact .nil
 | x :: xss, _, r, hn => by
  obtain ⟨w, ws, rfl, h1, r2⟩ := r.invC
  cases h1 with
  | tup ht hs => exact .cons ht (strsAre_of hs) (hn _ (.head _)) (tupsAre_of r2 fun l hl => hn l (.tail _ hl))
theorem tupsAre_rel {aS : Addr} {h : Heap} : ∀ {xss : List (List Str)} {ws : List Value}, TupsAre h ws xss → VRels aS h (xss.map tupV) ws
 | _, _, .nil => .nil
 | _, _, .cons h1 h2 _ r => .cons (.tup h1 (strsAre_rel h2)) (tupsAre_rel r)
noncomputable def spSortT : Spec := fun vs σ Q => onR vs fun a => ∃ xss : List (List Str), σ a = some (.list (xss.map tupV)) ∧ (∀ l ∈ xss, l ≠ []) ∧ newL ((tsrt xss).map tupV) σ Q
theorem ok_sortedT (O : C.Ok) : OpN C k (fun ws => PySem.call (.builtin "sorted") ws) spSortT := by
 intro A s σ vs ws Q P E ao R hv q hP
 replace q := onR.elim q
 obtain ⟨a, rfl, q⟩ := q
 ·obtain ⟨wa, rfl, h1⟩ := hv.inv1
  cases h1
  obtain ⟨xss, hx, hn, q⟩ := q
  obtain ⟨hz, us, h2, h3⟩ := R.view _ _ hx
  have hlen := h3.length
  have hT := tupsAre_of h3 hn
  refine call_function_entry kind_sorted plain_sorted entry_sorted (args_sorted1 _) ?_
  unfold Builtin.«sorted»
  refine wpAny_bind (m := checkCount "sorted" 1 1 _) (wpAny_pure ?_)
  refine wpAny_bind (with_size (collect_list h2.isList ?_ (by rw [← hlen, sizeLine_eq]; exact hz)))
  intro hsz
  have hk : ∀ b o, s.heap.get? b = some o → ((s.heap.push (seqObj "list" #[] 0)).update s.heap.objs.size (Obj.mapSeq fun x => x ++ us.toArray)).get? b = some o := fun b o e => by
   rw [Heap.get?_update_ne _ _ _ _ (Nat.ne_of_lt (Heap.lt_size e))]
   exact Heap.get?_push_of_some _ e
  generalize (s.heap.push (seqObj "list" #[] 0)).update s.heap.objs.size (Obj.mapSeq fun x => x ++ us.toArray) = h' at hk hsz ⊢
  have hvl : us.length ≤ 16777216 := by rw [← hlen]; exact hz
  refine wpAny_bind (wpAny_newList ?_ (by rw [sizeLine_eq]; exact hvl))
  have hoL : (h'.push (seqObj "list" us.toArray 0)).get? h'.objs.size = some (seqObj "list" us.toArray 0) := Heap.get?_push_size _ rfl
  have hT2 : TupsAre (h'.push (seqObj "list" us.toArray 0)) us xss := hT.keep fun b o e _ => Heap.get?_push_of_some _ (hk b o e)
  refine wpAny_bind (wpAny_holding (wpAny_call_entry slot_list_sort ⟨_, hoL, rfl⟩ entry_list_sort (sort_tups hoL hvl hT2 fun out h1 => ⟨_, rfl, ?_⟩) (args_list_sort _)))
  refine wpAny_pure ⟨_, rfl, ?_⟩
  obtain ⟨e, he⟩ := sortedHeap_at (out := out.toArray) hoL
  have hk2 : ∀ b o, s.heap.get? b = some o → (sortedHeap (h'.push (seqObj "list" us.toArray 0)) h'.objs.size us out.toArray).get? b = some o := fun b o eb => by
   have hb := Heap.lt_size (hk b o eb)
   rw [sortedHeap_old (Nat.ne_of_lt hb) (by rw [Heap.size_push]; exact Nat.lt_succ_of_lt hb)]
   exact Heap.get?_push_of_some _ (hk b o eb)
  have hn2 : s.heap.get? h'.objs.size = Option.none := get_none_of_size hsz
  have hsz2 : s.heap.objs.size ≤ (sortedHeap (h'.push (seqObj "list" us.toArray 0)) h'.objs.size us out.toArray).objs.size := Nat.le_trans hsz (Nat.le_of_lt (Heap.lt_size he))
  have hT3 : TupsAre (sortedHeap (h'.push (seqObj "list" us.toArray 0)) h'.objs.size us out.toArray) out (tsrt xss) := h1.keep fun b o eb hc => by
   rw [sortedHeap_old (by rintro rfl; rw [hoL] at eb; cases eb; simp at hc) (Heap.lt_size eb)]
   exact eb
  exact hP (.ref h'.objs.size) (.ref h'.objs.size) (upd σ h'.objs.size (.list ((tsrt xss).map tupV))) _ (.ref _)
   (R.add (tk := s.toks) hk2 hn2 ⟨by rw [List.length_map, (tsrt_perm xss).length_eq]; simpa using hz, out, ⟨e, he⟩, tupsAre_rel hT3⟩) (.add hk2 hsz2 hsz) (q _ (R.freshNone hn2))
theorem HE.sortedT (G : Gl C p) (hpl : C.held = Option.none) {np pos : Pos} {es : List Expr} {L : LT} (hn : sc.names.lookup (Str.ofString "sorted") = some .globalImplicit) (hl : HL C sc k es L) (hp : plainArgs es = true) : HE C sc k (.Call (.Name (Str.ofString "sorted") np) es [] pos) (eCall spSortT L) :=
 HE.builtin G.ok (ok_sortedT G.ok) hn (G.free _ (by decide)) (G.blt bb_sorted (by decide)) rfl hl hp
end
end Mine
end
noncomputable section
set_option maxRecDepth 100000
namespace Mine
open PySem PySem.W PyProof.Rows PySem.Calls
noncomputable def litAt (l : List (Int × Int)) (i d : Int) : Int := match l.find? (fun q => q.1 = i) with | some q => q.2 | Option.none => d
noncomputable def litV (l : List (Int × Int)) : List (Int × V) := l.map fun q => (q.1, .int q.2)
theorem lit_rel {aS : Addr} {h : Heap} (i d : Int) : ∀ {l : List (Int × Int)} {b : List (Int × Value)}, PRel aS h (litV l) b → ∀ dw : Value, VRel aS h (.int d) dw → VRel aS h (.int (litAt l i d)) ((valueAt b i).getD dw)
 | [], [], _, dw, hd => hd
 | (x, u) :: l, (y, z) :: b, ⟨e, q, r⟩, dw, hd => by
  have ih := lit_rel i d r dw hd
  unfold litAt valueAt at *
  have e' : x = y := e
  subst e'
  by_cases c : x = i
  ·rw [List.find?_cons_of_pos (by simpa using c), List.find?_cons_of_pos (by simpa using c)]; exact q
  ·rw [List.find?_cons_of_neg (by simpa using c), List.find?_cons_of_neg (by simpa using c)]; exact ih
section
variable {C : Cx} {p : Program} {sc : Scope} {k : Nat}
noncomputable def tyLit : V → View → Prop
 | .ref a, σ => ∃ kvs ep, σ a = some (.idict kvs ep)
 | _, _ => False
theorem tyLit_ok : TyOk C "dict" tyLit := by
 intro o wo σ s R hv h
 cases hv <;> first | exact h.elim | skip
 obtain ⟨kvs, ep, hx⟩ := h
 obtain ⟨_, kws, h1, _⟩ := R.view _ _ hx
 exact ⟨h1.dictOf.typeIs, h1.dictOf.mapOf.noDict⟩
noncomputable def spLit : Spec := fun vs σ Q => match vs with
 | v :: r => isR v fun a => onII r fun x d => ∃ l ep, σ a = some (.idict (litV l) ep) ∧ Q (.int (litAt l x d)) σ
 | _ => False
theorem ok_lit (O : C.Ok) : OpN C k (fun ws => PySem.call (.builtin "dict.get") ws) spLit := by
 intro A s σ vs ws Q P E ao R hv q hP
 cases vs with
 | nil => exact (show False from q).elim
 | cons v r =>
  obtain ⟨a, rfl, q⟩ := isR.elim q
  obtain ⟨x, d, rfl, q⟩ := onII.elim q
  obtain ⟨wa, ws, rfl, h1, hv⟩ := hv.invC
  obtain ⟨wb, ws, rfl, h2, hv⟩ := hv.invC
  obtain ⟨wc, ws, rfl, h3, hv⟩ := hv.invC
  cases hv.inv0
  cases h1
  obtain ⟨t, rfl⟩ := h2.invInt
  obtain ⟨l, ep, hx, q⟩ := q
  obtain ⟨hz, kws, h1, h2⟩ := R.view _ _ hx
  refine call_meetsIn _root_.PySem.F.slot_dict_get h1.dictOf.typeIs _root_.PySem.F.entry_dict_get (_root_.PySem.F.args_dict_get_3 _ _ _) (meets_dict_get_default (intKind C.prog C.w) a (intKind_is _ _ x t) (O.noMods (R.apart a (by rw [hx]; simp))) wc) ⟨_, h1.dictOf.mapOf, ?_⟩
  exact hP _ _ σ _ (lit_rel x d h2 wc h3) (R.tok _) Step.refl q
theorem HE.litGet (G : Gl C p) {o : Expr} {apos pos : Pos} {es : List Expr} {To : ET} {L : LT} (ho : HE C sc k o To) (hl : HL C sc k es L) (hp : plainArgs es = true)
  (hbase : ∀ env, attributeBase o (Str.ofString "get") env (eval o env) = eval o env) (hline : (apos.endLine == pos.line) = true) (hfew : es.length < 30) : HE C sc k (.Call (.Attribute o (Str.ofString "get") apos) es [] pos) (eMeth tyLit spLit To L) :=
 HE.meth tyLit_ok F.plainAttrs_dict F.slot_dict_get F.type_dict_get (ok_lit G.ok) ho hl hp hbase hline hfew
noncomputable def eLit (l : List (Int × Int)) : ET := fun _ σ Q => ∀ a ep, σ a = Option.none → Q (.ref a) (upd σ a (.idict (litV l) ep))
theorem HE.lit3 {i1 i2 i3 u1 u2 u3 : Int} {n1 n2 n3 m1 m2 m3 : Nat} {p1 p2 p3 q1 q2 q3 pos : Pos} (hd : (decide (i1 = i2) || decide (i1 = i3) || decide (i2 = i3)) = false) :
  HE C sc k (.Dict [some (.Constant (.int i1) n1 p1), some (.Constant (.int i2) n2 p2), some (.Constant (.int i3) n3 p3)] [.Constant (.int u1) m1 q1, .Constant (.int u2) m2 q2, .Constant (.int u3) m3 q3] pos) (eLit [(i1, u1), (i2, u2), (i3, u3)]) := by
 refine ⟨?_⟩; intro env A s m σ Q P E en ao R F q hP
 have hn := size_none s.heap
 refine wpAny_Dict_walk (knd := intKind C.prog C.w) rfl rfl (by simp) (by simp) (pairTrees_cons_walk (wpAny_Constant_int (wpAny_Constant_int (pairTrees_cons_walk (wpAny_Constant_int (wpAny_Constant_int (pairTrees_cons_walk (wpAny_Constant_int (wpAny_Constant_int (pairTrees_nil_walk ?_))))))))))
 refine ⟨[(i1, _), (i2, _), (i3, _)], ⟨intKind_is _ _ _ _, rfl, intKind_is _ _ _ _, rfl, intKind_is _ _ _ _, rfl, trivial⟩, Heap.DictOf.new s.heap, fun h' hd' hs => ?_⟩
 have hm : ∀ a b c : Value, merged ([] : List (Int × Value)) [(i1, a), (i2, b), (i3, c)] = [(i1, a), (i2, b), (i3, c)] := fun a b c => by
  simp only [Bool.or_eq_false_iff, decide_eq_false_iff_not] at hd
  simp [merged, stored, hd]
 rw [hm] at hd'
 obtain ⟨ep, hat⟩ := hd'.dictAt
 have old : ∀ b o, s.heap.get? b = some o → h'.get? b = some o := fun b o e => (hs.2 b (Nat.ne_of_lt (Heap.lt_size e))).trans (push_old b o e)
 have hz : s.heap.objs.size ≤ h'.objs.size := by
  have h1 : h'.objs.size = (s.heap.push { cls := .type "dict", data := .dict #[] }).objs.size := hs.1
  have h2 : (s.heap.push { cls := .type "dict", data := .dict #[] }).objs.size = s.heap.objs.size + 1 := Heap.size_push _ _
  omega
 exact hP (.ref _) _ (upd σ s.heap.objs.size (.idict (litV [(i1, u1), (i2, u2), (i3, u3)]) ep)) _ (.ref _) (R.add old hn ⟨by simp [litV], _, hat, rfl, .int _ _, rfl, .int _ _, rfl, .int _ _, trivial⟩) (.add old hz (Nat.le_refl _)) (q _ ep (R.freshNone hn))
end
end Mine
end
noncomputable section
set_option maxRecDepth 100000
set_option maxHeartbeats 0
namespace Mine
namespace Hd
noncomputable section
open PySem PySem.W PyProof.Rows PySem.Calls
theorem topGo_q : topGo = PySem.W.Fast.tw15667345088766844465 := PySem.W.Fast.te15667345088766844465
theorem segRun_q : segRun = PySem.W.Fast.tw14374325043358763698 := PySem.W.Fast.te14374325043358763698
theorem segRunT_q : segRunT = PySem.W.Fast.tw10110043849684766642 := PySem.W.Fast.te10110043849684766642
theorem topRun_q : topRun = PySem.W.Fast.tw14082659384304107361 := PySem.W.Fast.te14082659384304107361
theorem table_q : treeTable = PySem.W.Fast.tw14364793385576792824 := PySem.W.Fast.te14364793385576792824
theorem denote_q : denote = PySem.W.Fast.tw11892475500146522536 := PySem.W.Fast.te11892475500146522536
noncomputable def fA (l : List Stmt) (n : Nat) : Arguments := match l[n]? with | some (.FunctionDef _ a _ _ _ _ _ _ _ _) => a | _ => default
noncomputable def fB (l : List Stmt) (n : Nat) : List Stmt := match l[n]? with | some (.FunctionDef _ _ b _ _ _ _ _ _ _) => b | _ => []
noncomputable def fS (l : List Stmt) (n : Nat) : Scope := match l[n]? with | some (.FunctionDef _ _ _ _ _ _ s _ _ _) => s | _ => default
noncomputable def cB (l : List Stmt) (n : Nat) : List Stmt := match l[n]? with | some (.ClassDef _ _ _ b ..) => b | _ => []
noncomputable def cS (l : List Stmt) (n : Nat) : Scope := match l[n]? with | some (.ClassDef _ _ _ _ _ _ s ..) => s | _ => default
abbrev n : Value := .none
abbrev r (k : Nat) : Value := .ref k
abbrev s (x : Str) (k : Nat) : Value := .str x k
abbrev i (k m : Nat) : Value := .int (Int.ofNat k) m
abbrev z (k : Nat) : Value := .int (Int.ofNat k) 0
abbrev t (x : String) : Value := .type x
abbrev u (x : String) : Value := .builtin x
abbrev ps (a b c d : Nat) : Pos := Pos.mk a b c d
noncomputable def e (P : Params) (x : String) (k : Nat) (v : Value) : DictEntry := .mk (PyData.keyHash P x) (.str (Str.ofString x) k) v
noncomputable def O (x : String) (l : List Value) : Obj := .mk (.type x) none (.fields l.toArray) #[]
noncomputable def T (l : List Value) : Obj := .mk (.type "tuple") none (.seq l.toArray 0) #[]
noncomputable def E (l : List Value) : Obj := .mk .none none (.fields l.toArray) #[]
noncomputable def D (l : List DictEntry) (k : Nat) : Obj := .mk (.type "dict") none (.dict l.toArray k) #[]
noncomputable def K (x y : Str) (k l a f b : Nat) (g : Bool) (v0 v1 v2 v3 : Value) (m : Nat) : Obj := O "code" [s x k, s y (k + 1), s "/claim/cut.py" (k + 2), z l, z a, z 0, z 0, z f, r b, .bool g, z 181, r (b + 1), v0, v1, v2, v3, z m, z l, s "/claim/cut.py" (m + 1)]
noncomputable def G (x y : Str) (l : List Stmt) (k : Nat) : Obj := .mk .none none (.func (.mk x y (fA l k) (.stmts (fB l k)) (fS l k) 0 [] n n n n none n n 0)) #[]
noncomputable def F (x y : Str) (l : List Stmt) (k g : Nat) (v c : Value) : Obj := .mk (.type "function") none (.func (.mk x y (fA l k) (.stmts (fB l k)) (fS l k) g [] n n n v none c n 0)) #[]
noncomputable def M (a b c : Nat) (v : Value) : Obj := .mk (.type "frame") none .plain #[some (r a), some (r b), some (r c), none, some v, none, some (r 0)]
noncomputable def lfe : Life := (@Life.mk [] [] [] 0 [] [] false (@List.toArray @Nat []) [] 0 false false false (0 : Int) [(2000 : Int), (10 : Int), (10 : Int)] false 0 true [] [] 0 false)
noncomputable def dw : Drawn := Drawn.mk 0 0 0 0
noncomputable def ev (l : List Obj) : List Obj × List Obj := List.rec ([], []) (fun x _ ih => (x :: ih.2, ih.1)) l
noncomputable def bt (f : Nat) : List Obj → PySem.W.BT := Nat.rec (fun _ => .nil) (fun _ ih l => List.rec .nil (fun x t _ => .node x (ih (ev t).1) (ih (ev t).2)) l) f
abbrev pw : Program := PySem.Challenge.pw_uf050007_07
abbrev TB : List Stmt := pw.main.body
noncomputable def vw : Program := view pw [1, 3, 4, 5, 6, 7, 9, 10, 11, 12, 13, 14, 15, 16, 17, 18, 19, 20, 21]
noncomputable def env : Env := { scope := pw.main.scope, locals := mainNs, globals := mainNs, cells := [], code := (.ref 13), frame := some 14 }
noncomputable def ann : Option Value := (some (.ref 6))
abbrev cE : Code := .body (behindTheImports pw) env
noncomputable def qq : Pos := (ps 0 0 0 0)
abbrev BB : List Frame := [topFrame qq]
abbrev s0 (w : World) (os : OsState) : Shared := Shared.mk (boot_heap w.params) (@Array.mk GenState []) boot_drawn boot_toks os
noncomputable def eo3 (P : Params) : List DictEntry := [(e P "__name__" 165 (s "law_uf050007_07" 248)), (e P "__doc__" 166 n), (e P "__package__" 167 n), (e P "__loader__" 168 (u "__main__.__loader__#opaque")), (e P "__spec__" 169 n), (e P "__annotations__" 170 (r 6)), (e P "__builtins__" 171 (r 4)), (e P "__file__" 173 (s "/claim/cut.py" 172)), (e P "__cached__" 174 n), (e P "above" 194 (r 19)), (e P "all_paths" 208 (r 26)), (e P "marks" 222 (r 33)), (e P "clashing" 228 (r 38)), (e P "standing" 241 (r 45)), (e P "clashes" 247 (r 50)), (e P "_law_cell_at" 257 (r 57)), (e P "_law_sign_by" 264 (r 64)), (e P "_law_name_by" 270 (r 69)), (e P "_law_path_by" 276 (r 74)), (e P "_law_line_by" 282 (r 79)), (e P "_law_is_free" 291 (r 86)), (e P "_law_grown" 302 (r 93)), (e P "_law_elder" 315 (r 100)), (e P "_law_side" 329 (r 107)), (e P "_law_uppers" 335 (r 112)), (e P "_law_due" 341 (r 117)), (e P "_law_both_changed" 354 (r 124)), (e P "law" 360 (r 129))]
noncomputable def o3_0 (P : Params) : Obj := D ((eo3 P).take 23) 23
noncomputable def o3_1 (P : Params) : Obj := D (eo3 P) 28
noncomputable def eo12 : List Value := [(z 2), (z 0), (r 18), (z 6), (z 0), (r 25), (z 12), (z 0), (r 32), (z 28), (z 0), (r 37), (z 30), (z 0), (r 44), (z 40), (z 0), (r 49), (z 49), (z 0), (r 56), (z 53), (z 0), (r 63), (z 55), (z 0), (r 68), (z 69), (z 0), (r 73), (z 78), (z 0), (r 78), (z 87), (z 0), (r 85), (z 92), (z 0), (r 92), (z 104), (z 0), (r 99), (z 116), (z 0), (r 106), (z 127), (z 0), (r 111), (z 129), (z 0), (r 116), (z 145), (z 0), (r 123), (z 154), (z 0), (r 128)]
noncomputable def o12_0 (P : Params) : Obj := E (eo12.take 0)
noncomputable def o12_1 (P : Params) : Obj := E (eo12.take 42)
noncomputable def o12_2 (P : Params) : Obj := E (eo12.take 57)
noncomputable def lz (P : Params) : List Obj := [boot_o_0 P, boot_o_1 P, boot_o_2 P, o3_1 P, boot_o_4 P, boot_o_5 P, boot_o_6 P, boot_o_7 P, boot_o_8 P, boot_o_9 P, boot_o_10 P, T [], o12_2 P, K "<module>" "<module>" 182 1 0 0 11 false n n n n 185, M 13 3 3 (s "__main__" 164), T [], E [], G "above" "above" TB 1, K "above" "above" 189 2 1 3 15 true n n n (r 17) 192, F "above" "above" TB 1 3 (s "threeroad.paths" 187) (r 18), T [], E [], T [(s "elder" 200), (s "one" 201), (s "other" 202), (s "found" 203), (s "tree" 204), (s "path" 205)], T [], G "all_paths" "all_paths" TB 3, K "all_paths" "all_paths" 197 6 3 3 20 true n (r 22) (r 23) (r 24) 206, F "all_paths" "all_paths" TB 3 3 (s "threeroad.joining" 195) (r 25), T [], E [], T [(s "elder" 212), (s "one" 213), (s "other" 214), (s "told" 215), (s "path" 216), (s "was" 217), (s "mine" 218), (s "theirs" 219)], T [], G "marks" "marks" TB 4, K "marks" "marks" 209 12 3 3 27 true n (r 29) (r 30) (r 31) 220, F "marks" "marks" TB 4 3 (s "threeroad.joining" 195) (r 32), T [], E [], G "clashing" "clashing" TB 5, K "clashing" "clashing" 223 28 3 3 34 true n n n (r 36) 226, F "clashing" "clashing" TB 5 3 (s "threeroad.joining" 195) (r 37), T [], E [], T [(s "elder" 232), (s "one" 233), (s "other" 234), (s "away" 235), (s "found" 236), (s "path" 237), (s "text" 238)], T [], G "standing" "standing" TB 6, K "standing" "standing" 229 30 3 3 39 true n (r 41) (r 42) (r 43) 239, F "standing" "standing" TB 6 3 (s "threeroad.joining" 195) (r 44), T [], E [], G "clashes" "clashes" TB 7, K "clashes" "clashes" 242 40 3 3 46 true n n n (r 48) 245, F "clashes" "clashes" TB 7 3 (s "threeroad.joining" 195) (r 49), T [], E [], T [(s "_law_script" 253), (s "_law_k" 254)], T [], G "_law_cell_at" "_law_cell_at" TB 9, K "_law_cell_at" "_law_cell_at" 250 49 2 3 51 true n (r 53) (r 54) (r 55) 255, F "_law_cell_at" "_law_cell_at" TB 9 3 (s "law_uf050007_07" 248) (r 56), T [], E [], T [(s "_law_k" 261)], T [], G "_law_sign_by" "_law_sign_by" TB 10, K "_law_sign_by" "_law_sign_by" 258 53 1 3 58 true n (r 60) (r 61) (r 62) 262, F "_law_sign_by" "_law_sign_by" TB 10 3 (s "law_uf050007_07" 248) (r 63), T [], E [], G "_law_name_by" "_law_name_by" TB 11, K "_law_name_by" "_law_name_by" 265 55 2 3 65 true n n n (r 67) 268, F "_law_name_by" "_law_name_by" TB 11 3 (s "law_uf050007_07" 248) (r 68), T [], E [], G "_law_path_by" "_law_path_by" TB 12, K "_law_path_by" "_law_path_by" 271 69 2 3 70 true n n n (r 72) 274, F "_law_path_by" "_law_path_by" TB 12 3 (s "law_uf050007_07" 248) (r 73), T [], E [], G "_law_line_by" "_law_line_by" TB 13, K "_law_line_by" "_law_line_by" 277 78 2 3 75 true n n n (r 77) 280, F "_law_line_by" "_law_line_by" TB 13 3 (s "law_uf050007_07" 248) (r 78), T [], E [], T [(s "_law_tree" 286), (s "_law_path" 287), (s "_law_other" 288)], T [], G "_law_is_free" "_law_is_free" TB 14, K "_law_is_free" "_law_is_free" 283 87 2 3 80 true n (r 82) (r 83) (r 84) 289, F "_law_is_free" "_law_is_free" TB 14 3 (s "law_uf050007_07" 248) (r 85), T [], E [], T [(s "_law_tree" 295), (s "_law_cell" 296), (s "_law_shift" 297), (s "_law_path" 298), (s "_law_made" 299)], T [], G "_law_grown" "_law_grown" TB 15, K "_law_grown" "_law_grown" 292 92 3 3 87 true n (r 89) (r 90) (r 91) 300, F "_law_grown" "_law_grown" TB 15 3 (s "law_uf050007_07" 248) (r 92), T [], E [], T [(s "_law_script" 306), (s "_law_shift" 307), (s "_law_cell" 308), (s "_law_elder_here" 309), (s "_law_k" 310), (s "_law_many" 311), (s "_law_j" 312)], T [], G "_law_elder" "_law_elder" TB 16, K "_law_elder" "_law_elder" 303 104 1 3 94 true n (r 96) (r 97) (r 98) 313, F "_law_elder" "_law_elder" TB 16 3 (s "law_uf050007_07" 248) (r 99), T [], E [], T [(s "_law_script" 319), (s "_law_elder_here" 320), (s "_law_which" 321), (s "_law_shift" 322), (s "_law_made" 323), (s "_law_k" 324), (s "_law_j" 325), (s "_law_path" 326)], T [], G "_law_side" "_law_side" TB 17, K "_law_side" "_law_side" 316 116 3 3 101 true n (r 103) (r 104) (r 105) 327, F "_law_side" "_law_side" TB 17 3 (s "law_uf050007_07" 248) (r 106), T [], E [], G "_law_uppers" "_law_uppers" TB 18, K "_law_uppers" "_law_uppers" 330 127 1 3 108 true n n n (r 110) 333, F "_law_uppers" "_law_uppers" TB 18 3 (s "law_uf050007_07" 248) (r 111), T [], E [], G "_law_due" "_law_due" TB 19, K "_law_due" "_law_due" 336 129 3 3 113 true n n n (r 115) 339, F "_law_due" "_law_due" TB 19 3 (s "law_uf050007_07" 248) (r 116), T [], E [], T [(s "_law_clash" 345), (s "_law_elder_here" 346), (s "_law_one" 347), (s "_law_other" 348), (s "_law_was" 349), (s "_law_left" 350), (s "_law_path" 351)], T [], G "_law_both_changed" "_law_both_changed" TB 20, K "_law_both_changed" "_law_both_changed" 342 145 4 3 118 true n (r 120) (r 121) (r 122) 352, F "_law_both_changed" "_law_both_changed" TB 20 3 (s "law_uf050007_07" 248) (r 123), T [], E [], G "law" "law" TB 21, K "law" "law" 355 154 1 3 125 true n n n (r 127) 358, F "law" "law" TB 21 3 (s "law_uf050007_07" 248) (r 128)]
noncomputable def hp_a (P : Params) : Heap := Heap.mk ⟨(((lz P).take 15).set 3 (boot_o_3 P)).set 12 (o12_0 P)⟩ lfe
abbrev sl_a (w : World) (os : OsState) : Shared := Shared.mk (hp_a w.params) #[] dw 187 os
noncomputable def tr_b (P : Params) : PySem.W.BT := bt 8 ((((lz P).take 15).set 3 (boot_o_3 P)).set 12 (o12_0 P))
abbrev st_b (w : World) (os : OsState) : SharedT := SharedT.mk (tr_b w.params) 15 lfe #[] dw 187 os
theorem q_pre : ∀ w : World, (fun os => topGo treeTable pw w 11 ann 12 (s0 w os) (topStub pw)) = fun os => some (sl_a w os, Thread.mk (denote treeTable cE) cE (ps 0 0 0 0) BB) := fun w => by rw [topGo_q, table_q, denote_q]; kernel_rfl
theorem q_block : ∀ w : World, (fun os => segRun treeTable pw w 11 ann 1 1 (sl_a w os) (blockOf (behindTheImports pw) env cE (ps 0 0 0 0) BB)) = fun os => some (Flow.next, (st_b w os).abs, cE, (ps 0 0 0 0)) := fun w => by rw [segRun_q, table_q]; kernel_rfl
noncomputable def tr_17 (P : Params) : PySem.W.BT := bt 8 ((((lz P).take 101).set 3 (o3_0 P)).set 12 (o12_1 P))
abbrev st_17 (w : World) (os : OsState) : SharedT := SharedT.mk (tr_17 w.params) 101 lfe #[] dw 316 os
noncomputable def ss_17 : List Stmt := ((behindTheImports pw).drop 0).take 17
theorem q_17 : ∀ w : World, (fun os => segRunT treeTable pw w 11 ann 1 447 (st_b w os) (piecesOf ss_17 env cE (ps 0 0 0 0) BB)) = fun os => some (Flow.next, st_17 w os, cE, (ps 104 0 115 26)) := fun w => by rw [segRunT_q, table_q]; kernel_rfl
noncomputable def tr_22 (P : Params) : PySem.W.BT := bt 8 (lz P)
abbrev st_22 (w : World) (os : OsState) : SharedT := SharedT.mk (tr_22 w.params) 130 lfe #[] dw 361 os
noncomputable def ss_22 : List Stmt := ((behindTheImports pw).drop 17).take 5
theorem q_22 : ∀ w : World, (fun os => segRunT treeTable pw w 11 ann 1 150 (st_17 w os) (piecesOf ss_22 env cE (ps 104 0 115 26) BB)) = fun os => some (Flow.next, st_22 w os, cE, (ps 154 0 171 131)) := fun w => by rw [segRunT_q, table_q]; kernel_rfl
noncomputable def hp_f (P : Params) : Heap := Heap.mk ⟨lz P⟩ lfe
abbrev sl_f (w : World) (os : OsState) : Shared := Shared.mk (hp_f w.params) #[] dw 361 os
theorem q_fin : ∀ w : World, (fun os => topRun treeTable pw w 11 ann 2 (st_22 w os).abs (Thread.mk (doneF .next) cE (ps 154 0 171 131) BB)) = fun os => some (sl_f w os) := fun w => by rw [topRun_q, table_q]; kernel_rfl
theorem body_eq : behindTheImports pw = (ss_17 ++ (ss_22 ++ ([] : List Stmt))) := by kernel_rfl
theorem q_rest (w : World) (os : OsState) : topRun treeTable pw w 11 ann (Nat.add 447 (Nat.add 150 2)) (st_b w os).abs (restOf (ss_17 ++ (ss_22 ++ ([] : List Stmt))) env cE (ps 0 0 0 0) BB) = some (sl_f w os) :=
 (piece_app (tb := treeTable) (p := pw) (w := w) (n₀ := 11) (ann := ann) (env := env) (q := qq) (n := 447) (N := (Nat.add 150 2)) (s := (st_b w os).abs) (s' := (st_17 w os).abs) (r := sl_f w os) (l := ss_17) (rest := (ss_22 ++ ([] : List Stmt))) (c := cE) (pos := (ps 0 0 0 0)) (p' := (ps 104 0 115 26)) (segRun_of (congrFun (q_17 w) os))
  (piece_app (tb := treeTable) (p := pw) (w := w) (n₀ := 11) (ann := ann) (env := env) (q := qq) (n := 150) (N := 2) (s := (st_17 w os).abs) (s' := (st_22 w os).abs) (r := sl_f w os) (l := ss_22) (rest := ([] : List Stmt)) (c := cE) (pos := (ps 104 0 115 26)) (p' := (ps 154 0 171 131)) (segRun_of (congrFun (q_22 w) os))
  (congrFun (q_fin w) os)))
theorem q_run (w : World) (os : OsState) : topRun treeTable pw w 11 ann (Nat.add 12 (Nat.add 1 (Nat.add 447 (Nat.add 150 2)))) (s0 w os) (topStub pw) = some (sl_f w os) :=
 go_top (congrFun (q_pre w) os) (piece_block (congrFun (q_block w) os) (by rw [show restOf (behindTheImports pw) env cE (ps 0 0 0 0) BB = restOf (ss_17 ++ (ss_22 ++ ([] : List Stmt))) env cE (ps 0 0 0 0) BB from congrArg (fun b => restOf b env cE (ps 0 0 0 0) BB) body_eq]; exact q_rest w os))
theorem q_le : Nat.ble (Nat.add 12 (Nat.add 1 (Nat.add 447 (Nat.add 150 2)))) 1316 = true := by kernel_rfl
theorem q_open : ∀ w : World, (fencedOpening treeTable pw w 1316).map (fun s => (s.heap, s.gens, s.drawn, s.toks)) = some (boot_heap w.params, (@Array.mk GenState []), boot_drawn, boot_toks) := boot_open (by kernel_rfl) (by kernel_rfl) (fun _ => by kernel_rfl)
theorem q_size : ∀ w : World, ((boot_heap w.params).isNs mainGlobals && ((@Array.mk GenState [])).size == 0, (boot_heap w.params).objs.size, (boot_heap w.params).nsMap mainGlobals "__annotations__") = (true, 11, ann) := fun w => by kernel_rfl
noncomputable def ks : List Addr := [0, 1, 2, 3, 4, 5, 6, 7, 9, 10, 11, 13, 14, 15, 18, 19, 20, 22, 23, 25, 26, 27, 29, 30, 32, 33, 34, 37, 38, 39, 41, 42, 44, 45, 46, 49, 50, 51, 53, 54, 56, 57, 58, 60, 61, 63, 64, 65, 68, 69, 70, 73, 74, 75, 78, 79, 80, 82, 83, 85, 86, 87, 89, 90, 92, 93, 94, 96, 97, 99, 100, 101, 103, 104, 106, 107, 108, 111, 112, 113, 116, 117, 118, 120, 121, 123, 124, 125, 128, 129]
noncomputable def kk (P : Params) : Frag := ks.map fun a => (a, (lz P).getD a default)
abbrev NN : Nat := 1316
theorem openSeen_q : @openSeen = @PySem.W.Fast.tw4187177175401517315 := PySem.W.Fast.te4187177175401517315
theorem imods_q : importedModules = PySem.W.Fast.tw5923862056798008813 := PySem.W.Fast.te5923862056798008813
abbrev rw : OpenLaw := PySem.Challenge.rw_uf050007_07
abbrev Xt : Shared → Bool := fun s => xlAt vw [] s && recOk (RowW.records (OpenRow.toRowW rw.row)) s
abbrev HK : Hook := kHook kk ks (fun _ => by kernel_rfl)
theorem l_1 : ∀ w : World, (fun os => (staticsOk (importedModules pw.main.body) (boot_heap w.params) (hp_f w.params) && namesBound pw (hp_f w.params) && gensDone (sl_f w os) && laidKept (boot_heap w.params) (hp_f w.params))) = fun _ : OsState => true := fun w => by rw [imods_q]; kernel_rfl
theorem l_2 : ∀ w : World, (fun os => openSeen vw [] (importedModules pw.main.body) Xt true (sl_f w os)) = fun _ : OsState => openGood vw [] := fun w => by rw [imods_q, openSeen_q]; kernel_rfl
theorem l_3 : ∀ w : World, (fun os => HK.obs (sl_f w os)) = fun _ : OsState => HK.val w := fun w => by kernel_rfl
theorem left : LeftO pw vw [] Xt HK.obs HK.val NN :=
 LeftO.of_pieces (p := pw) (q := vw) (loose := []) (Xt := Xt) (Yf := HK.obs) (Ya := HK.val) (N := NN) (g0 := true) (H₀ := boot_heap) (H₁ := hp_f) q_open q_size q_run q_le
  fun w => funext fun os => looks_pair (congrFun (l_1 w) os) (looks_pair (congrFun (l_2 w) os) (congrFun (l_3 w) os))
theorem said : rw.wellSaid = true := by
 unfold OpenLaw.wellSaid OpenRow.wellSaid OpenRow.partSaid looksOpen
 repeat' (with_reducible refine look_both ?_ ?_)
 all_goals decide +kernel
theorem hd {d : DefRec} {kwd : List (Str × Expr)} (hdef : defOf vw rw.row.name = some (d, kwd)) (hp : rw.row.prog.theDef rw.row.name = some (d.params, d.body, d.scope)) (hk : kwWritten? d.params.kwonlyargs d.params.kw_defaults = some kwd)
  (call : WalkO vw [] (XL vw []) HK.says rw.row.toRowW d kwd fun f vs => PySem.call f vs) : rw.Holds :=
 holds_law said fun said' =>
  holds_open (q := vw) (loose := []) (Xt := Xt) (XP := XL vw []) (Yf := HK.obs) (Ya := HK.val) (YP := HK.says) (N := NN) left HK.of HK.keeps (fun s e => xl_of s (Bool.and_eq_true_iff.mp e).1) XL.keeps hdef hp hk
   (fun s e => recFacts_of (Bool.and_eq_true_iff.mp e).2) (by rfl) said' (by decide +kernel) ⟨rfl, rfl, rfl, rfl, rfl, by decide +kernel⟩ (by w_witness2) call
end
end Hd
end Mine
end
noncomputable section
namespace Mine
open PySem PySem.W PyProof.Rows PySem.Calls
noncomputable def ALS : Str := Str.ofString "abcdefghijklmnopqrstuvwxyzABCDEFGHIJKLMNOPQRSTUVWXYZ0123456789.-_"
noncomputable def signBy (k : Int) : Str := ⟨#[(cl ALS).getD (k % 65).toNat 0]⟩
noncomputable def TOPS : List Nat := [116, 111, 112, 115]
noncomputable def NT (x : Str) : Prop := (cl x).take 4 ≠ TOPS
noncomputable def topK (j : Nat) : Str := Str.ofString "tops" ++ Str.ofString ((j : Int).repr) ++ Str.ofString "/x"
noncomputable def clr (x y : Str) : Bool := !(Txt.startswith y (x ++ Str.ofString "/") || Txt.startswith x (y ++ Str.ofString "/"))
noncomputable def keysOf (kvs : List (Str × V)) : List Str := kvs.map (·.1)
noncomputable def isFree (ks : List Str) (x : Str) : Bool := ks.all fun y => clr x y
structure Tr (n : Nat) (kvs : List (Str × V)) : Prop where
 len : kvs.length ≤ n
 key : ∀ q ∈ kvs, q.1.length ≤ 300
 val : ∀ q ∈ kvs, ∃ y, q.2 = .str y
 nodup : (kvs.map (·.1)).Nodup
structure Fre (n : Nat) (kvs : List (Str × V)) : Prop where
 tr : Tr n kvs
 fr : ∀ x ∈ keysOf kvs, ∀ y ∈ keysOf kvs, clr x y = true
 nt : ∀ x ∈ keysOf kvs, NT x ∨ ∃ j, j < 170 ∧ x = topK j
noncomputable def gS (kvs : List (Str × V)) (x : Str) : Option Str := match vget kvs x with | some (.str y) => some y | _ => Option.none
noncomputable def toV : Option Str → V
 | Option.none => .none
 | some y => .str y
noncomputable def markOf (w m t : Option Str) : Option Str :=
 if m = t then (if m = w then Option.none else some (Str.ofString "alike")) else if t = w then some (Str.ofString "one") else if m = w then some (Str.ofString "other") else some (Str.ofString "clash")
noncomputable def allK (a b c : List (Str × V)) : List Str := srt (uniq (keysOf a ++ keysOf b ++ keysOf c))
noncomputable def marksL (a b c : List (Str × V)) : List V := (allK a b c).filterMap fun x => (markOf (gS a x) (gS b x) (gS c x)).map fun u => V.tup [.str x, .str u]
noncomputable def isCl (w m t : Option Str) : Bool := !decide (m = t) && !decide (m = w) && !decide (t = w)
noncomputable def stand (w m t : Option Str) : Option Str := if isCl w m t then Option.none else if m = w then t else m
noncomputable def clL (a b c : List (Str × V)) : List Str := (allK a b c).filter fun x => isCl (gS a x) (gS b x) (gS c x)
noncomputable def stL (a b c : List (Str × V)) : List (Str × V) := (allK a b c).filterMap fun x => (stand (gS a x) (gS b x) (gS c x)).map fun y => (x, .str y)
noncomputable def aboveL (x : Str) : List Str := (List.range ((Txt.split x (Str.ofString "/")).length - 1)).map fun i => Str.join (Str.ofString "/") ((Txt.split x (Str.ofString "/")).take (i + 1))
noncomputable def upps (x : Str) : List Str := (List.range (cl x).length).filterMap fun i => if (cl x)[i]? = some 47 then some ⟨((cl x).take i).toArray⟩ else Option.none
noncomputable def prsL (ks : List Str) : List (List Str) := ks.flatMap fun x => ((aboveL x).filter fun u => decide (u ∈ ks)).map fun u => [u, x]
noncomputable def toldL (a b c : List (Str × V)) : List (List Str) := (clL a b c).map (fun x => [x]) ++ prsL (keysOf (stL a b c))
noncomputable def clsL (a b c : List (Str × V)) : List (List Str) := tsrt (toldL a b c)
structure D3 (n : Nat) (a b c : Addr) (ka kb kc : List (Str × V)) (e1 e2 e3 : Nat) (σ : View) : Prop where
 xa : σ a = some (.dict ka e1)
 xb : σ b = some (.dict kb e2)
 xc : σ c = some (.dict kc e3)
 ta : Tr n ka
 tb : Tr n kb
 tc : Tr n kc
inductive sp__law_cell_at (ns : List Int) (vs : List V) (σ : View) (Q : V → View → Prop) : Prop
 | mk (k : _) (h1 : vs = [.script, .int k]) (h2 : 0 ≤ k) (h3 : Q (.int (cell ns k)) σ) : sp__law_cell_at ns vs σ Q
inductive sp__law_sign_by (ns : List Int) (vs : List V) (σ : View) (Q : V → View → Prop) : Prop
 | mk (k : _) (h1 : vs = [.int k]) (h2 : Q (.str (signBy k)) σ) : sp__law_sign_by ns vs σ Q
inductive sp__law_name_by (ns : List Int) (vs : List V) (σ : View) (Q : V → View → Prop) : Prop
 | mk (c : _) (s : _) (h1 : vs = [.int c, .int s]) (h2 : ∀ (x : Str) σ', Grow σ σ' → NT x → x.length ≤ 12 → Q (.str x) σ') : sp__law_name_by ns vs σ Q
inductive sp__law_path_by (ns : List Int) (vs : List V) (σ : View) (Q : V → View → Prop) : Prop
 | mk (c : _) (s : _) (h1 : vs = [.int c, .int s]) (h2 : ∀ (x : Str) σ', Grow σ σ' → NT x → x.length ≤ 200 → Q (.str x) σ') : sp__law_path_by ns vs σ Q
inductive sp__law_line_by (ns : List Int) (vs : List V) (σ : View) (Q : V → View → Prop) : Prop
 | mk (c : _) (s : _) (h1 : vs = [.int c, .int s]) (h2 : ∀ (x : Str) σ', Grow σ σ' → Q (.str x) σ') : sp__law_line_by ns vs σ Q
inductive sp__law_is_free (ns : List Int) (vs : List V) (σ : View) (Q : V → View → Prop) : Prop
 | mk (a : _) (kvs : _) (ep : _) (x : _) (h1 : vs = [.ref a, .str x]) (h2 : σ a = some (.dict kvs ep)) (h3 : (∀ q ∈ kvs, q.1.length ≤ 300)) (h4 : x.length ≤ 1000) (h5 : Q (.bool (isFree (keysOf kvs) x)) σ) : sp__law_is_free ns vs σ Q
inductive sp__law_grown (ns : List Int) (vs : List V) (σ : View) (Q : V → View → Prop) : Prop
 | mk (a : _) (kvs : _) (ep : _) (c : _) (s : _) (n : _) (h1 : vs = [.ref a, .int c, .int s]) (h2 : σ a = some (.dict kvs ep)) (h3 : Fre n kvs) (h4 : n ≤ 900) (h5 : ∀ b kvs' ep' σ', Grow σ σ' → σ b = Option.none → σ' b = some (.dict kvs' ep') → Fre (n + 1) kvs' → Q (.ref b) σ') : sp__law_grown ns vs σ Q
inductive sp__law_elder (ns : List Int) (vs : List V) (σ : View) (Q : V → View → Prop) : Prop
 | mk (z : _) (h1 : vs = [z]) (h2 : z = V.script) (h3 : ∀ b kvs' ep' σ', Grow σ σ' → σ b = Option.none → σ' b = some (.dict kvs' ep') → Fre 180 kvs' → Q (.ref b) σ') : sp__law_elder ns vs σ Q
inductive sp__law_side (ns : List Int) (vs : List V) (σ : View) (Q : V → View → Prop) : Prop
 | mk (a : _) (kvs : _) (ep : _) (i : _) (h1 : vs = [.script, .ref a, .int i]) (h2 : σ a = some (.dict kvs ep)) (h3 : Fre 180 kvs) (h4 : (i = 0 ∨ i = 1)) (h5 : ∀ b kvs' ep' σ', Grow σ σ' → σ b = Option.none → σ' b = some (.dict kvs' ep') → Fre 200 kvs' → Q (.ref b) σ') : sp__law_side ns vs σ Q
inductive sp__law_uppers (ns : List Int) (vs : List V) (σ : View) (Q : V → View → Prop) : Prop
 | mk (x : _) (h1 : vs = [.str x]) (h2 : x.length ≤ 300) (h3 : newG ((upps x).map .str) σ Q) : sp__law_uppers ns vs σ Q
inductive sp_above (ns : List Int) (vs : List V) (σ : View) (Q : V → View → Prop) : Prop
 | mk (x : _) (h1 : vs = [.str x]) (h2 : x.length ≤ 300) (h3 : newG ((aboveL x).map .str) σ Q) : sp_above ns vs σ Q
inductive sp_all_paths (ns : List Int) (vs : List V) (σ : View) (Q : V → View → Prop) : Prop
 | mk (a : _) (b : _) (c : _) (ka : _) (kb : _) (kc : _) (e1 : _) (e2 : _) (e3 : _) (h1 : vs = [.ref a, .ref b, .ref c]) (h2 : D3 1000 a b c ka kb kc e1 e2 e3 σ) (h3 : newG ((allK ka kb kc).map .str) σ Q) : sp_all_paths ns vs σ Q
inductive sp_marks (ns : List Int) (vs : List V) (σ : View) (Q : V → View → Prop) : Prop
 | mk (a : _) (b : _) (c : _) (ka : _) (kb : _) (kc : _) (e1 : _) (e2 : _) (e3 : _) (h1 : vs = [.ref a, .ref b, .ref c]) (h2 : D3 1000 a b c ka kb kc e1 e2 e3 σ) (h3 : newG (marksL ka kb kc) σ Q) : sp_marks ns vs σ Q
inductive sp_clashing (ns : List Int) (vs : List V) (σ : View) (Q : V → View → Prop) : Prop
 | mk (a : _) (b : _) (c : _) (ka : _) (kb : _) (kc : _) (e1 : _) (e2 : _) (e3 : _) (h1 : vs = [.ref a, .ref b, .ref c]) (h2 : D3 1000 a b c ka kb kc e1 e2 e3 σ) (h3 : newG ((clL ka kb kc).map .str) σ Q) : sp_clashing ns vs σ Q
inductive sp_standing (ns : List Int) (vs : List V) (σ : View) (Q : V → View → Prop) : Prop
 | mk (a : _) (b : _) (c : _) (ka : _) (kb : _) (kc : _) (e1 : _) (e2 : _) (e3 : _) (h1 : vs = [.ref a, .ref b, .ref c]) (h2 : D3 1000 a b c ka kb kc e1 e2 e3 σ) (h3 : ∀ f ep σ', Grow σ σ' → σ f = Option.none → σ' f = some (.dict (stL ka kb kc) ep) → Q (.ref f) σ') : sp_standing ns vs σ Q
inductive sp_clashes (ns : List Int) (vs : List V) (σ : View) (Q : V → View → Prop) : Prop
 | mk (a : _) (b : _) (c : _) (ka : _) (kb : _) (kc : _) (e1 : _) (e2 : _) (e3 : _) (h1 : vs = [.ref a, .ref b, .ref c]) (h2 : D3 1000 a b c ka kb kc e1 e2 e3 σ) (h3 : newG ((clsL ka kb kc).map tupV) σ Q) : sp_clashes ns vs σ Q
inductive sp__law_due (ns : List Int) (vs : List V) (σ : View) (Q : V → View → Prop) : Prop
 | mk (a : _) (b : _) (c : _) (ka : _) (kb : _) (kc : _) (e1 : _) (e2 : _) (e3 : _) (h1 : vs = [.ref a, .ref b, .ref c]) (h2 : D3 1000 a b c ka kb kc e1 e2 e3 σ) (h3 : newG ((clsL ka kb kc).map tupV) σ Q) : sp__law_due ns vs σ Q
inductive sp__law_both_changed (ns : List Int) (vs : List V) (σ : View) (Q : V → View → Prop) : Prop
 | mk (l : _) (a : _) (b : _) (c : _) (ka : _) (kb : _) (kc : _) (e1 : _) (e2 : _) (e3 : _) (h1 : vs = [tupV l, .ref a, .ref b, .ref c]) (h2 : D3 1000 a b c ka kb kc e1 e2 e3 σ) (h3 : Fre 1000 ka) (h4 : Fre 1000 kb) (h5 : Fre 1000 kc) (h6 : l ∈ toldL ka kb kc) (h7 : Q (.bool true) σ) : sp__law_both_changed ns vs σ Q
noncomputable def sp_law (_ns : List Int) : Spec := spLaw
end Mine
end
noncomputable section
set_option maxRecDepth 100000
set_option maxHeartbeats 4000000
namespace Mine
open PySem PySem.W PyProof.Rows PySem.Calls
noncomputable def T_above_1 (ns : List Int) : ST :=
 (sSet "parts" (eMeth tyStr spSplit (eName "path") (lCons (eVal (.str (Str.ofString "/"))) lNil)))
noncomputable def T_above_2 (ns : List Int) : ST :=
 (sRet (eComp ["parts"] (.name "size") (iRange (lCons (eVal (.int 1)) (lCons (eCall (spLen ns) (lCons (eName "parts") lNil)) lNil))) tT (eMeth tyStr spJoin (eVal (.str (Str.ofString "/"))) (lCons (eCut ns (eName "parts") pNone (pSome (eName "size"))) lNil))))
noncomputable def T_above (ns : List Int) : ST := (sSeq (T_above_1 ns) (sSeq (T_above_2 ns) sNil))
theorem b_above {C : Cx} (G : Gl C Hd.vw) (hz : C.held = none)   : HS C (scopeAt Hd.vw 0) 0 (bodyAt Hd.vw 0) (T_above C.ns) :=
 (HS.cons (HS1.set (.inr rfl) (HE.split (HE.name rfl rfl) (HL.cons HE.str HL.nil rfl) rfl (fun _ => rfl) rfl (by decide)) (fun _ _ => rfl))
 (HS.cons (HS1.ret (HE.comp (CompOk.of rfl) (HI.rng G hz rfl (HL.cons HE.int (HL.cons (HE.len G rfl (HL.cons (HE.cell rfl rfl) HL.nil rfl) rfl) HL.nil rfl) rfl) rfl) (HT.name rfl) HTs.nil (HE.join HE.str (HL.cons (HE.cut G.ok (HE.cell rfl rfl) HP.none (HP.some (HE.name rfl rfl))) HL.nil rfl) rfl (fun _ => rfl) rfl (by decide)) (fun _ _ => rfl)))
 HS.nil))
theorem f_above {C : Cx} (G : Gl C Hd.vw) (hz : C.held = none)   (hspec : ∀ vs σ Q, sp_above C.ns vs σ Q → vs.length = 1 ∧ T_above C.ns (bindM ["path"] vs none') σ (fin Q)) : FnAt C 0 "above" (sp_above C.ns) :=
 FnAt.mk (xs := ["path"]) G 0 0 rfl rfl rfl rfl rfl (fun ws pm code doc h => by
  obtain ⟨w0, rfl⟩ := len1 h
  rfl) rfl (b_above G hz  ) hspec
noncomputable def T_all_paths_1 (ns : List Int) : ST :=
 (sSet "found" eDict0)
noncomputable def T_all_paths_2 (ns : List Int) : ST :=
 (sFor (.name "tree") (iOf ns (eList (lCons (eName "elder") (lCons (eName "one") (lCons (eName "other") lNil))))) (sSeq (sFor (.name "path") (iOf ns (eName "tree")) (sSeq (sSetItem setD (eVal (.bool true)) (eName "found") (eName "path"))
 sNil))
 sNil))
noncomputable def T_all_paths_3 (ns : List Int) : ST :=
 (sRet (eSortK (eName "found")))
noncomputable def T_all_paths (ns : List Int) : ST := (sSeq (T_all_paths_1 ns) (sSeq (T_all_paths_2 ns) (sSeq (T_all_paths_3 ns) sNil)))
theorem b_all_paths {C : Cx} (G : Gl C Hd.vw) (hz : C.held = none)   : HS C (scopeAt Hd.vw 1) 0 (bodyAt Hd.vw 1) (T_all_paths C.ns) :=
 (HS.cons (HS1.set (.inl rfl) HE.dict0 (fun _ _ => rfl))
 (HS.cons (HS1.for (HT.name rfl) (HI.of G.ok hz (HE.list (HL.cons (HE.name rfl rfl) (HL.cons (HE.name rfl rfl) (HL.cons (HE.name rfl rfl) HL.nil rfl) rfl) rfl))) (HS.cons (HS1.for (HT.name rfl) (HI.of G.ok hz (HE.name rfl rfl)) (HS.cons (HS1.setItem ok_setD HE.bool (HE.name rfl rfl) (HE.name rfl rfl) (fun _ _ => rfl))
 HS.nil) (fun _ _ => rfl))
 HS.nil) (fun _ _ => rfl))
 (HS.cons (HS1.ret (HE.sortedKeys G hz rfl (HE.name rfl rfl) (fun _ => rfl) rfl))
 HS.nil)))
theorem f_all_paths {C : Cx} (G : Gl C Hd.vw) (hz : C.held = none)   (hspec : ∀ vs σ Q, sp_all_paths C.ns vs σ Q → vs.length = 3 ∧ T_all_paths C.ns (bindM ["elder", "one", "other"] vs none') σ (fin Q)) : FnAt C 0 "all_paths" (sp_all_paths C.ns) :=
 FnAt.mk (xs := ["elder", "one", "other"]) G 1 1 rfl rfl rfl rfl rfl (fun ws pm code doc h => by
  obtain ⟨w0, w1, w2, rfl⟩ := len3 h
  rfl) rfl (b_all_paths G hz  ) hspec
noncomputable def T_marks_1 (ns : List Int) : ST :=
 (sSet "told" (eList lNil))
noncomputable def T_marks_2 (ns : List Int) : ST :=
 (sFor (.name "path") (iOf ns (eCall (sp_all_paths ns) (lCons (eName "elder") (lCons (eName "one") (lCons (eName "other") lNil))))) (sSeq (sSet "was" (eMeth tyDict spGet (eName "elder") (lCons (eName "path") lNil)))
 (sSeq (sSet "mine" (eMeth tyDict spGet (eName "one") (lCons (eName "path") lNil)))
 (sSeq (sSet "theirs" (eMeth tyDict spGet (eName "other") (lCons (eName "path") lNil)))
 (sSeq (sIf (tBool (eBin opEq0 (eName "mine") (eName "theirs"))) (sSeq (sIf (tBool (eBin opNe0 (eName "mine") (eName "was"))) (sSeq (sExpr (eMeth tyList spAppend (eName "told") (lCons (eTup (lCons (eName "path") (lCons (eVal (.str (Str.ofString "alike"))) lNil))) lNil)))
 sNil) sNil)
 sNil) (sSeq (sIf (tBool (eBin opEq0 (eName "theirs") (eName "was"))) (sSeq (sExpr (eMeth tyList spAppend (eName "told") (lCons (eTup (lCons (eName "path") (lCons (eVal (.str (Str.ofString "one"))) lNil))) lNil)))
 sNil) (sSeq (sIf (tBool (eBin opEq0 (eName "mine") (eName "was"))) (sSeq (sExpr (eMeth tyList spAppend (eName "told") (lCons (eTup (lCons (eName "path") (lCons (eVal (.str (Str.ofString "other"))) lNil))) lNil)))
 sNil) (sSeq (sExpr (eMeth tyList spAppend (eName "told") (lCons (eTup (lCons (eName "path") (lCons (eVal (.str (Str.ofString "clash"))) lNil))) lNil)))
 sNil))
 sNil))
 sNil))
 sNil)))))
noncomputable def T_marks_3 (ns : List Int) : ST :=
 (sRet (eName "told"))
noncomputable def T_marks (ns : List Int) : ST := (sSeq (T_marks_1 ns) (sSeq (T_marks_2 ns) (sSeq (T_marks_3 ns) sNil)))
theorem b_marks {C : Cx} (G : Gl C Hd.vw) (hz : C.held = none)  (h_all_paths : FnAt C 0 "all_paths" (sp_all_paths C.ns)) : HS C (scopeAt Hd.vw 2) 1 (bodyAt Hd.vw 2) (T_marks C.ns) :=
 (HS.cons (HS1.set (.inl rfl) (HE.list HL.nil) (fun _ _ => rfl))
 (HS.cons (HS1.for (HT.name rfl) (HI.of G.ok hz (HE.callAt G h_all_paths (by decide) rfl rfl (HL.cons (HE.name rfl rfl) (HL.cons (HE.name rfl rfl) (HL.cons (HE.name rfl rfl) HL.nil rfl) rfl) rfl) rfl)) (HS.cons (HS1.set (.inl rfl) (HE.getD G (HE.name rfl rfl) (HL.cons (HE.name rfl rfl) HL.nil rfl) rfl (fun _ => rfl) rfl (by decide)) (fun _ _ => rfl))
 (HS.cons (HS1.set (.inl rfl) (HE.getD G (HE.name rfl rfl) (HL.cons (HE.name rfl rfl) HL.nil rfl) rfl (fun _ => rfl) rfl (by decide)) (fun _ _ => rfl))
 (HS.cons (HS1.set (.inl rfl) (HE.getD G (HE.name rfl rfl) (HL.cons (HE.name rfl rfl) HL.nil rfl) rfl (fun _ => rfl) rfl (by decide)) (fun _ _ => rfl))
 (HS.cons (HS1.ite (HB.cmp ok_eq0 (HE.name rfl rfl) (HE.name rfl rfl) rfl) (HS.cons (HS1.ite (HB.cmp ok_ne0 (HE.name rfl rfl) (HE.name rfl rfl) rfl) (HS.cons (HS1.expr (HE.append (HE.name rfl rfl) (HL.cons (HE.tup (HL.cons (HE.name rfl rfl) (HL.cons HE.str HL.nil rfl) rfl)) HL.nil rfl) rfl (fun _ => rfl) rfl (by decide)) (fun _ _ => rfl))
 HS.nil) HS.nil)
 HS.nil) (HS.cons (HS1.ite (HB.cmp ok_eq0 (HE.name rfl rfl) (HE.name rfl rfl) rfl) (HS.cons (HS1.expr (HE.append (HE.name rfl rfl) (HL.cons (HE.tup (HL.cons (HE.name rfl rfl) (HL.cons HE.str HL.nil rfl) rfl)) HL.nil rfl) rfl (fun _ => rfl) rfl (by decide)) (fun _ _ => rfl))
 HS.nil) (HS.cons (HS1.ite (HB.cmp ok_eq0 (HE.name rfl rfl) (HE.name rfl rfl) rfl) (HS.cons (HS1.expr (HE.append (HE.name rfl rfl) (HL.cons (HE.tup (HL.cons (HE.name rfl rfl) (HL.cons HE.str HL.nil rfl) rfl)) HL.nil rfl) rfl (fun _ => rfl) rfl (by decide)) (fun _ _ => rfl))
 HS.nil) (HS.cons (HS1.expr (HE.append (HE.name rfl rfl) (HL.cons (HE.tup (HL.cons (HE.name rfl rfl) (HL.cons HE.str HL.nil rfl) rfl)) HL.nil rfl) rfl (fun _ => rfl) rfl (by decide)) (fun _ _ => rfl))
 HS.nil))
 HS.nil))
 HS.nil))
 HS.nil)))) (fun _ _ => rfl))
 (HS.cons (HS1.ret (HE.name rfl rfl))
 HS.nil)))
theorem f_marks {C : Cx} (G : Gl C Hd.vw) (hz : C.held = none)  (h_all_paths : FnAt C 0 "all_paths" (sp_all_paths C.ns)) (hspec : ∀ vs σ Q, sp_marks C.ns vs σ Q → vs.length = 3 ∧ T_marks C.ns (bindM ["elder", "one", "other"] vs none') σ (fin Q)) : FnAt C 1 "marks" (sp_marks C.ns) :=
 FnAt.mk (xs := ["elder", "one", "other"]) G 2 2 rfl rfl rfl rfl rfl (fun ws pm code doc h => by
  obtain ⟨w0, w1, w2, rfl⟩ := len3 h
  rfl) rfl (b_marks G hz  h_all_paths) hspec
noncomputable def T_clashing_1 (ns : List Int) : ST :=
 (sRet (eComp [] (.tup ["path", "word"]) (iOf ns (eCall (sp_marks ns) (lCons (eName "elder") (lCons (eName "one") (lCons (eName "other") lNil))))) (tBool (eBin opEq0 (eName "word") (eVal (.str (Str.ofString "clash"))))) (eName "path")))
noncomputable def T_clashing (ns : List Int) : ST := (sSeq (T_clashing_1 ns) sNil)
theorem b_clashing {C : Cx} (G : Gl C Hd.vw) (hz : C.held = none)  (h_marks : FnAt C 1 "marks" (sp_marks C.ns)) : HS C (scopeAt Hd.vw 3) 2 (bodyAt Hd.vw 3) (T_clashing C.ns) :=
 (HS.cons (HS1.ret (HE.comp (CompOk.of rfl) (HI.of G.ok hz (HE.callAt G h_marks (by decide) rfl rfl (HL.cons (HE.name rfl rfl) (HL.cons (HE.name rfl rfl) (HL.cons (HE.name rfl rfl) HL.nil rfl) rfl) rfl) rfl)) (HT.tup G.ok (l := [("path", _), ("word", _)]) (by decide)) (HTs.one (HB.cmp ok_eq0 (HE.name rfl rfl) HE.str rfl)) (HE.name rfl rfl) (fun _ _ => rfl)))
 HS.nil)
theorem f_clashing {C : Cx} (G : Gl C Hd.vw) (hz : C.held = none)  (h_marks : FnAt C 1 "marks" (sp_marks C.ns)) (hspec : ∀ vs σ Q, sp_clashing C.ns vs σ Q → vs.length = 3 ∧ T_clashing C.ns (bindM ["elder", "one", "other"] vs none') σ (fin Q)) : FnAt C 2 "clashing" (sp_clashing C.ns) :=
 FnAt.mk (xs := ["elder", "one", "other"]) G 3 3 rfl rfl rfl rfl rfl (fun ws pm code doc h => by
  obtain ⟨w0, w1, w2, rfl⟩ := len3 h
  rfl) rfl (b_clashing G hz  h_marks) hspec
noncomputable def T_standing_1 (ns : List Int) : ST :=
 (sSet "away" (eCall (sp_clashing ns) (lCons (eName "elder") (lCons (eName "one") (lCons (eName "other") lNil)))))
noncomputable def T_standing_2 (ns : List Int) : ST :=
 (sSet "found" eDict0)
noncomputable def T_standing_3 (ns : List Int) : ST :=
 (sFor (.name "path") (iOf ns (eCall (sp_all_paths ns) (lCons (eName "elder") (lCons (eName "one") (lCons (eName "other") lNil))))) (sSeq (sSet "text" (eMeth tyDict spGet (eName "one") (lCons (eName "path") lNil)))
 (sSeq (sIf (tBool (eBin opEq0 (eMeth tyDict spGet (eName "one") (lCons (eName "path") lNil)) (eMeth tyDict spGet (eName "elder") (lCons (eName "path") lNil)))) (sSeq (sSet "text" (eMeth tyDict spGet (eName "other") (lCons (eName "path") lNil)))
 sNil) sNil)
 (sSeq (sIf (tAnd (tBool (eBin opNotInL (eName "path") (eName "away"))) (tAnd (tBool (eBin opIsNot (eName "text") (eVal .none))) tT)) (sSeq (sSetItem setD (eName "text") (eName "found") (eName "path"))
 sNil) sNil)
 sNil))))
noncomputable def T_standing_4 (ns : List Int) : ST :=
 (sRet (eName "found"))
noncomputable def T_standing (ns : List Int) : ST := (sSeq (T_standing_1 ns) (sSeq (T_standing_2 ns) (sSeq (T_standing_3 ns) (sSeq (T_standing_4 ns) sNil))))
theorem b_standing {C : Cx} (G : Gl C Hd.vw) (hz : C.held = none)  (h_clashing : FnAt C 2 "clashing" (sp_clashing C.ns)) (h_all_paths : FnAt C 0 "all_paths" (sp_all_paths C.ns)) : HS C (scopeAt Hd.vw 4) 3 (bodyAt Hd.vw 4) (T_standing C.ns) :=
 (HS.cons (HS1.set (.inl rfl) (HE.callAt G h_clashing (by decide) rfl rfl (HL.cons (HE.name rfl rfl) (HL.cons (HE.name rfl rfl) (HL.cons (HE.name rfl rfl) HL.nil rfl) rfl) rfl) rfl) (fun _ _ => rfl))
 (HS.cons (HS1.set (.inl rfl) HE.dict0 (fun _ _ => rfl))
 (HS.cons (HS1.for (HT.name rfl) (HI.of G.ok hz (HE.callAt G h_all_paths (by decide) rfl rfl (HL.cons (HE.name rfl rfl) (HL.cons (HE.name rfl rfl) (HL.cons (HE.name rfl rfl) HL.nil rfl) rfl) rfl) rfl)) (HS.cons (HS1.set (.inl rfl) (HE.getD G (HE.name rfl rfl) (HL.cons (HE.name rfl rfl) HL.nil rfl) rfl (fun _ => rfl) rfl (by decide)) (fun _ _ => rfl))
 (HS.cons (HS1.ite (HB.cmp ok_eq0 (HE.getD G (HE.name rfl rfl) (HL.cons (HE.name rfl rfl) HL.nil rfl) rfl (fun _ => rfl) rfl (by decide)) (HE.getD G (HE.name rfl rfl) (HL.cons (HE.name rfl rfl) HL.nil rfl) rfl (fun _ => rfl) rfl (by decide)) rfl) (HS.cons (HS1.set (.inl rfl) (HE.getD G (HE.name rfl rfl) (HL.cons (HE.name rfl rfl) HL.nil rfl) rfl (fun _ => rfl) rfl (by decide)) (fun _ _ => rfl))
 HS.nil) HS.nil)
 (HS.cons (HS1.ite (HB.boolOp (HBs.and (HB.cmp ok_notInL (HE.name rfl rfl) (HE.name rfl rfl) rfl) (HBs.and (HB.cmp ok_isNot (HE.name rfl rfl) HE.none rfl) HBs.andNil))) (HS.cons (HS1.setItem ok_setD (HE.name rfl rfl) (HE.name rfl rfl) (HE.name rfl rfl) (fun _ _ => rfl))
 HS.nil) HS.nil)
 HS.nil))) (fun _ _ => rfl))
 (HS.cons (HS1.ret (HE.name rfl rfl))
 HS.nil))))
theorem f_standing {C : Cx} (G : Gl C Hd.vw) (hz : C.held = none)  (h_clashing : FnAt C 2 "clashing" (sp_clashing C.ns)) (h_all_paths : FnAt C 0 "all_paths" (sp_all_paths C.ns)) (hspec : ∀ vs σ Q, sp_standing C.ns vs σ Q → vs.length = 3 ∧ T_standing C.ns (bindM ["elder", "one", "other"] vs none') σ (fin Q)) : FnAt C 3 "standing" (sp_standing C.ns) :=
 FnAt.mk (xs := ["elder", "one", "other"]) G 4 4 rfl rfl rfl rfl rfl (fun ws pm code doc h => by
  obtain ⟨w0, w1, w2, rfl⟩ := len3 h
  rfl) rfl (b_standing G hz  h_clashing h_all_paths) hspec
noncomputable def T_clashes_1 (ns : List Int) : ST :=
 (sSet "told" (eComp [] (.name "path") (iOf ns (eCall (sp_clashing ns) (lCons (eName "elder") (lCons (eName "one") (lCons (eName "other") lNil))))) tT (eTup (lCons (eName "path") lNil))))
noncomputable def T_clashes_2 (ns : List Int) : ST :=
 (sSet "files" (eCall (sp_standing ns) (lCons (eName "elder") (lCons (eName "one") (lCons (eName "other") lNil)))))
noncomputable def T_clashes_3 (ns : List Int) : ST :=
 (sFor (.name "path") (iOf ns (eName "files")) (sSeq (sFor (.name "folder") (iOf ns (eCall (sp_above ns) (lCons (eName "path") lNil))) (sSeq (sIf (tBool (eBin opInD (eName "folder") (eName "files"))) (sSeq (sExpr (eMeth tyList spAppend (eName "told") (lCons (eTup (lCons (eName "folder") (lCons (eName "path") lNil))) lNil)))
 sNil) sNil)
 sNil))
 sNil))
noncomputable def T_clashes_4 (ns : List Int) : ST :=
 (sRet (eCall spSortT (lCons (eName "told") lNil)))
noncomputable def T_clashes (ns : List Int) : ST := (sSeq (T_clashes_1 ns) (sSeq (T_clashes_2 ns) (sSeq (T_clashes_3 ns) (sSeq (T_clashes_4 ns) sNil))))
theorem b_clashes {C : Cx} (G : Gl C Hd.vw) (hz : C.held = none)  (h_clashing : FnAt C 2 "clashing" (sp_clashing C.ns)) (h_standing : FnAt C 3 "standing" (sp_standing C.ns)) (h_above : FnAt C 0 "above" (sp_above C.ns)) : HS C (scopeAt Hd.vw 5) 4 (bodyAt Hd.vw 5) (T_clashes C.ns) :=
 (HS.cons (HS1.setComp (CompOk.of rfl) (HI.of G.ok hz (HE.callAt G h_clashing (by decide) rfl rfl (HL.cons (HE.name rfl rfl) (HL.cons (HE.name rfl rfl) (HL.cons (HE.name rfl rfl) HL.nil rfl) rfl) rfl) rfl)) (HT.name rfl) HTs.nil (HE.tup (HL.cons (HE.name rfl rfl) HL.nil rfl)) (fun _ _ => rfl) rfl (swaps_local rfl rfl rfl))
 (HS.cons (HS1.set (.inl rfl) (HE.callAt G h_standing (by decide) rfl rfl (HL.cons (HE.name rfl rfl) (HL.cons (HE.name rfl rfl) (HL.cons (HE.name rfl rfl) HL.nil rfl) rfl) rfl) rfl) (fun _ _ => rfl))
 (HS.cons (HS1.for (HT.name rfl) (HI.of G.ok hz (HE.name rfl rfl)) (HS.cons (HS1.for (HT.name rfl) (HI.of G.ok hz (HE.callAt G h_above (by decide) rfl rfl (HL.cons (HE.name rfl rfl) HL.nil rfl) rfl)) (HS.cons (HS1.ite (HB.cmp (ok_inD G.ok) (HE.name rfl rfl) (HE.name rfl rfl) rfl) (HS.cons (HS1.expr (HE.append (HE.name rfl rfl) (HL.cons (HE.tup (HL.cons (HE.name rfl rfl) (HL.cons (HE.name rfl rfl) HL.nil rfl) rfl)) HL.nil rfl) rfl (fun _ => rfl) rfl (by decide)) (fun _ _ => rfl))
 HS.nil) HS.nil)
 HS.nil) (fun _ _ => rfl))
 HS.nil) (fun _ _ => rfl))
 (HS.cons (HS1.ret (HE.sortedT G hz rfl (HL.cons (HE.name rfl rfl) HL.nil rfl) rfl))
 HS.nil))))
theorem f_clashes {C : Cx} (G : Gl C Hd.vw) (hz : C.held = none)  (h_clashing : FnAt C 2 "clashing" (sp_clashing C.ns)) (h_standing : FnAt C 3 "standing" (sp_standing C.ns)) (h_above : FnAt C 0 "above" (sp_above C.ns)) (hspec : ∀ vs σ Q, sp_clashes C.ns vs σ Q → vs.length = 3 ∧ T_clashes C.ns (bindM ["elder", "one", "other"] vs none') σ (fin Q)) : FnAt C 4 "clashes" (sp_clashes C.ns) :=
 FnAt.mk (xs := ["elder", "one", "other"]) G 5 5 rfl rfl rfl rfl rfl (fun ws pm code doc h => by
  obtain ⟨w0, w1, w2, rfl⟩ := len3 h
  rfl) rfl (b_clashes G hz  h_clashing h_standing h_above) hspec
noncomputable def T__law_cell_at_1 (ns : List Int) : ST :=
 (sIf (tBool (eBin opLt (eName "_law_k") (eCall (spLen ns) (lCons (eName "_law_script") lNil)))) (sSeq (sRet (eBin (opItem ns) (eName "_law_script") (eName "_law_k")))
 sNil) sNil)
noncomputable def T__law_cell_at_2 (ns : List Int) : ST :=
 (sRet (eVal (.int 0)))
noncomputable def T__law_cell_at (ns : List Int) : ST := (sSeq (T__law_cell_at_1 ns) (sSeq (T__law_cell_at_2 ns) sNil))
theorem b__law_cell_at {C : Cx} (G : Gl C Hd.vw) (hz : C.held = none)   : HS C (scopeAt Hd.vw 6) 0 (bodyAt Hd.vw 6) (T__law_cell_at C.ns) :=
 (HS.cons (HS1.ite (HB.cmp ok_lt (HE.name rfl rfl) (HE.len G rfl (HL.cons (HE.name rfl rfl) HL.nil rfl) rfl) rfl) (HS.cons (HS1.ret (HE.item G (HE.name rfl rfl) (HE.name rfl rfl) rfl))
 HS.nil) HS.nil)
 (HS.cons (HS1.ret HE.int)
 HS.nil))
theorem f__law_cell_at {C : Cx} (G : Gl C Hd.vw) (hz : C.held = none)   (hspec : ∀ vs σ Q, sp__law_cell_at C.ns vs σ Q → vs.length = 2 ∧ T__law_cell_at C.ns (bindM ["_law_script", "_law_k"] vs none') σ (fin Q)) : FnAt C 0 "_law_cell_at" (sp__law_cell_at C.ns) :=
 FnAt.mk (xs := ["_law_script", "_law_k"]) G 6 6 rfl rfl rfl rfl rfl (fun ws pm code doc h => by
  obtain ⟨w0, w1, rfl⟩ := len2 h
  rfl) rfl (b__law_cell_at G hz  ) hspec
noncomputable def T__law_sign_by_1 (ns : List Int) : ST :=
 (sRet (eBin (opItem ns) (eVal (.str (Str.ofString "abcdefghijklmnopqrstuvwxyzABCDEFGHIJKLMNOPQRSTUVWXYZ0123456789.-_"))) (eBin opMod (eName "_law_k") (eVal (.int 65)))))
noncomputable def T__law_sign_by (ns : List Int) : ST := (sSeq (T__law_sign_by_1 ns) sNil)
theorem b__law_sign_by {C : Cx} (G : Gl C Hd.vw) (hz : C.held = none)   : HS C (scopeAt Hd.vw 7) 0 (bodyAt Hd.vw 7) (T__law_sign_by C.ns) :=
 (HS.cons (HS1.ret (HE.item G HE.str (HE.bin ok_mod (HE.name rfl rfl) HE.int) rfl))
 HS.nil)
theorem f__law_sign_by {C : Cx} (G : Gl C Hd.vw) (hz : C.held = none)   (hspec : ∀ vs σ Q, sp__law_sign_by C.ns vs σ Q → vs.length = 1 ∧ T__law_sign_by C.ns (bindM ["_law_k"] vs none') σ (fin Q)) : FnAt C 0 "_law_sign_by" (sp__law_sign_by C.ns) :=
 FnAt.mk (xs := ["_law_k"]) G 7 7 rfl rfl rfl rfl rfl (fun ws pm code doc h => by
  obtain ⟨w0, rfl⟩ := len1 h
  rfl) rfl (b__law_sign_by G hz  ) hspec
noncomputable def T__law_name_by_1 (ns : List Int) : ST :=
 (sSet "_law_size" (eVal (.int 1)))
noncomputable def T__law_name_by_2 (ns : List Int) : ST :=
 (sIf (tBool (eBin opEq0 (eBin opMod (eBin opDiv (eName "_law_shift") (eVal (.int 65))) (eVal (.int 3))) (eVal (.int 1)))) (sSeq (sSet "_law_size" (eBin opAdd (eVal (.int 1)) (eBin opMod (eBin opDiv (eName "_law_shift") (eVal (.int 195))) (eVal (.int 12)))))
 sNil) sNil)
noncomputable def T__law_name_by_3 (ns : List Int) : ST :=
 (sSet "_law_way" (eBin opMod (eBin opDiv (eName "_law_shift") (eVal (.int 5))) (eVal (.int 4))))
noncomputable def T__law_name_by_4 (ns : List Int) : ST :=
 (sSet "_law_rest" (eComp ["_law_shift", "_law_k", "_law_way"] (.name "_law_j") (iRange (lCons (eVal (.int 12)) lNil)) tT (eCall (sp__law_sign_by ns) (lCons (eBin opAdd (eBin opAdd (eBin opDiv (eName "_law_shift") (eVal (.int 195))) (eBin opMul (eVal (.int 7)) (eName "_law_j"))) (eBin opMul (eName "_law_k") (eCall spInt (lCons (eBin opEq0 (eName "_law_way") (eVal (.int 0))) lNil)))) lNil))))
noncomputable def T__law_name_by_5 (ns : List Int) : ST :=
 (sSet "_law_at" (eBin opMul (eBin opMod (eBin opDiv (eName "_law_shift") (eVal (.int 20))) (eName "_law_size")) (eCall spInt (lCons (eBin opEq0 (eName "_law_way") (eVal (.int 1))) lNil))))
noncomputable def T__law_name_by_6 (ns : List Int) : ST :=
 (sSet "_law_told" (eCall (sp__law_sign_by ns) (lCons (eBin opAdd (eName "_law_shift") (eBin opMul (eName "_law_k") (eBin (opItem ns) (eList (lCons (eVal (.int 1)) (lCons (eVal (.int 26)) lNil))) (eCall spInt (lCons (eBin opEq0 (eName "_law_way") (eVal (.int 3))) lNil))))) lNil)))
noncomputable def T__law_name_by_7 (ns : List Int) : ST :=
 (sSet "_law_name" (eBin opAdd (eBin opAdd (eMeth tyStr spJoin (eVal (.str (Str.ofString ""))) (lCons (eCut ns (eName "_law_rest") pNone (pSome (eName "_law_at"))) lNil)) (eName "_law_told")) (eMeth tyStr spJoin (eVal (.str (Str.ofString ""))) (lCons (eCut ns (eName "_law_rest") (pSome (eName "_law_at")) (pSome (eBin opSub (eName "_law_size") (eVal (.int 1))))) lNil))))
noncomputable def T__law_name_by_8 (ns : List Int) : ST :=
 (sIf (tBool (eBin opEq0 (eName "_law_way") (eVal (.int 2)))) (sSeq (sSet "_law_name" (eMeth tyStr spJoin (eVal (.str (Str.ofString ""))) (lCons (eCut ns (eName "_law_rest") pNone (pSome (eBin opAdd (eVal (.int 1)) (eBin opMod (eBin opAdd (eBin opDiv (eName "_law_shift") (eVal (.int 65))) (eName "_law_k")) (eVal (.int 12)))))) lNil)))
 sNil) sNil)
noncomputable def T__law_name_by_9 (ns : List Int) : ST :=
 (sIf (tOr (tBool (eBin opEq0 (eName "_law_name") (eVal (.str (Str.ofString "."))))) (tOr (tBool (eBin opEq0 (eName "_law_name") (eVal (.str (Str.ofString ".."))))) tF)) (sSeq (sRet (eVal (.str (Str.ofString "0x"))))
 sNil) sNil)
noncomputable def T__law_name_by_10 (ns : List Int) : ST :=
 (sRet (eName "_law_name"))
noncomputable def T__law_name_by (ns : List Int) : ST := (sSeq (T__law_name_by_1 ns) (sSeq (T__law_name_by_2 ns) (sSeq (T__law_name_by_3 ns) (sSeq (T__law_name_by_4 ns) (sSeq (T__law_name_by_5 ns) (sSeq (T__law_name_by_6 ns) (sSeq (T__law_name_by_7 ns) (sSeq (T__law_name_by_8 ns) (sSeq (T__law_name_by_9 ns) (sSeq (T__law_name_by_10 ns) sNil))))))))))
theorem b__law_name_by {C : Cx} (G : Gl C Hd.vw) (hz : C.held = none)  (h__law_sign_by : FnAt C 0 "_law_sign_by" (sp__law_sign_by C.ns)) : HS C (scopeAt Hd.vw 8) 1 (bodyAt Hd.vw 8) (T__law_name_by C.ns) :=
 (HS.cons (HS1.set (.inl rfl) HE.int (fun _ _ => rfl))
 (HS.cons (HS1.ite (HB.cmp ok_eq0 (HE.bin ok_mod (HE.bin ok_div (HE.cell rfl rfl) HE.int) HE.int) HE.int rfl) (HS.cons (HS1.set (.inl rfl) (HE.bin ok_add HE.int (HE.bin ok_mod (HE.bin ok_div (HE.cell rfl rfl) HE.int) HE.int)) (fun _ _ => rfl))
 HS.nil) HS.nil)
 (HS.cons (HS1.set (.inr rfl) (HE.bin ok_mod (HE.bin ok_div (HE.cell rfl rfl) HE.int) HE.int) (fun _ _ => rfl))
 (HS.cons (HS1.setComp (CompOk.of rfl) (HI.rng G hz rfl (HL.cons HE.int HL.nil rfl) rfl) (HT.name rfl) HTs.nil (HE.callAt G h__law_sign_by (by decide) rfl rfl (HL.cons (HE.bin ok_add (HE.bin ok_add (HE.bin ok_div (HE.cell rfl rfl) HE.int) (HE.bin ok_mul HE.int (HE.name rfl rfl))) (HE.bin ok_mul (HE.cell rfl rfl) (HE.intC G rfl (HL.cons (HE.cmp ok_eq0 (HE.cell rfl rfl) HE.int rfl) HL.nil rfl) rfl))) HL.nil rfl) rfl) (fun _ _ => rfl) rfl (swaps_local rfl rfl rfl))
 (HS.cons (HS1.set (.inl rfl) (HE.bin ok_mul (HE.bin ok_mod (HE.bin ok_div (HE.cell rfl rfl) HE.int) (HE.name rfl rfl)) (HE.intC G rfl (HL.cons (HE.cmp ok_eq0 (HE.cell rfl rfl) HE.int rfl) HL.nil rfl) rfl)) (fun _ _ => rfl))
 (HS.cons (HS1.set (.inl rfl) (HE.callAt G h__law_sign_by (by decide) rfl rfl (HL.cons (HE.bin ok_add (HE.cell rfl rfl) (HE.bin ok_mul (HE.cell rfl rfl) (HE.item G (HE.list (HL.cons HE.int (HL.cons HE.int HL.nil rfl) rfl)) (HE.intC G rfl (HL.cons (HE.cmp ok_eq0 (HE.cell rfl rfl) HE.int rfl) HL.nil rfl) rfl) rfl))) HL.nil rfl) rfl) (fun _ _ => rfl))
 (HS.cons (HS1.set (.inl rfl) (HE.bin ok_add (HE.bin ok_add (HE.join HE.str (HL.cons (HE.cut G.ok (HE.name rfl rfl) HP.none (HP.some (HE.name rfl rfl))) HL.nil rfl) rfl (fun _ => rfl) rfl (by decide)) (HE.name rfl rfl)) (HE.join HE.str (HL.cons (HE.cut G.ok (HE.name rfl rfl) (HP.some (HE.name rfl rfl)) (HP.some (HE.bin ok_sub (HE.name rfl rfl) HE.int))) HL.nil rfl) rfl (fun _ => rfl) rfl (by decide))) (fun _ _ => rfl))
 (HS.cons (HS1.ite (HB.cmp ok_eq0 (HE.cell rfl rfl) HE.int rfl) (HS.cons (HS1.set (.inl rfl) (HE.join HE.str (HL.cons (HE.cut G.ok (HE.name rfl rfl) HP.none (HP.some (HE.bin ok_add HE.int (HE.bin ok_mod (HE.bin ok_add (HE.bin ok_div (HE.cell rfl rfl) HE.int) (HE.cell rfl rfl)) HE.int)))) HL.nil rfl) rfl (fun _ => rfl) rfl (by decide)) (fun _ _ => rfl))
 HS.nil) HS.nil)
 (HS.cons (HS1.ite (HB.boolOp (HBs.or (HB.cmp ok_eq0 (HE.name rfl rfl) HE.str rfl) (HBs.or (HB.cmp ok_eq0 (HE.name rfl rfl) HE.str rfl) HBs.orNil))) (HS.cons (HS1.ret HE.str)
 HS.nil) HS.nil)
 (HS.cons (HS1.ret (HE.name rfl rfl))
 HS.nil))))))))))
theorem f__law_name_by {C : Cx} (G : Gl C Hd.vw) (hz : C.held = none)  (h__law_sign_by : FnAt C 0 "_law_sign_by" (sp__law_sign_by C.ns)) (hspec : ∀ vs σ Q, sp__law_name_by C.ns vs σ Q → vs.length = 2 ∧ T__law_name_by C.ns (bindM ["_law_k", "_law_shift"] vs none') σ (fin Q)) : FnAt C 1 "_law_name_by" (sp__law_name_by C.ns) :=
 FnAt.mk (xs := ["_law_k", "_law_shift"]) G 8 8 rfl rfl rfl rfl rfl (fun ws pm code doc h => by
  obtain ⟨w0, w1, rfl⟩ := len2 h
  rfl) rfl (b__law_name_by G hz  h__law_sign_by) hspec
noncomputable def T__law_path_by_1 (ns : List Int) : ST :=
 (sSet "_law_parts" (eList lNil))
noncomputable def T__law_path_by_2 (ns : List Int) : ST :=
 (sIf (tBool (eBin opEq0 (eBin opMod (eName "_law_shift") (eVal (.int 7))) (eVal (.int 3)))) (sSeq (sSet "_law_parts" (eComp ["_law_shift"] (.name "_law_j") (iRange (lCons (eBin opAdd (eVal (.int 1)) (eBin opMod (eBin opDiv (eName "_law_shift") (eVal (.int 7))) (eVal (.int 5)))) lNil)) tT (eCall (sp__law_name_by ns) (lCons (eBin opAdd (eVal (.int 3)) (eName "_law_j")) (lCons (eName "_law_shift") lNil)))))
 sNil) sNil)
noncomputable def T__law_path_by_3 (ns : List Int) : ST :=
 (sFor (.name "_law_j") (iRange (lCons (eBin (opItem ns) (eList (lCons (eVal (.int 1)) (lCons (eVal (.int 1)) (lCons (eVal (.int 2)) (lCons (eVal (.int 2)) (lCons (eVal (.int 3)) lNil)))))) (eBin opMod (eName "_law_cell") (eVal (.int 5)))) lNil)) (sSeq (sExpr (eMeth tyList spAppend (eName "_law_parts") (lCons (eCall (sp__law_name_by ns) (lCons (eBin opMod (eBin opDiv (eBin opDiv (eName "_law_cell") (eVal (.int 5))) (eBin (opItem ns) (eList (lCons (eVal (.int 1)) (lCons (eVal (.int 3)) (lCons (eVal (.int 9)) lNil)))) (eName "_law_j"))) (eVal (.int 3))) (lCons (eName "_law_shift") lNil))) lNil)))
 sNil))
noncomputable def T__law_path_by_4 (ns : List Int) : ST :=
 (sIf (tAnd (tBool (eBin opEq0 (eBin opMod (eName "_law_shift") (eVal (.int 7))) (eVal (.int 3)))) (tAnd (tBool (eBin opEq0 (eBin opMod (eName "_law_cell") (eVal (.int 13))) (eVal (.int 6)))) tT)) (sSeq (sSet "_law_parts" (eCut ns (eName "_law_parts") pNone (pSome (eBin opAdd (eVal (.int 1)) (eBin opMod (eBin opDiv (eName "_law_cell") (eVal (.int 13))) (eCall (spLen ns) (lCons (eName "_law_parts") lNil)))))))
 sNil) sNil)
noncomputable def T__law_path_by_5 (ns : List Int) : ST :=
 (sRet (eMeth tyStr spJoin (eVal (.str (Str.ofString "/"))) (lCons (eName "_law_parts") lNil)))
noncomputable def T__law_path_by (ns : List Int) : ST := (sSeq (T__law_path_by_1 ns) (sSeq (T__law_path_by_2 ns) (sSeq (T__law_path_by_3 ns) (sSeq (T__law_path_by_4 ns) (sSeq (T__law_path_by_5 ns) sNil)))))
theorem b__law_path_by {C : Cx} (G : Gl C Hd.vw) (hz : C.held = none)  (h__law_name_by : FnAt C 1 "_law_name_by" (sp__law_name_by C.ns)) : HS C (scopeAt Hd.vw 9) 2 (bodyAt Hd.vw 9) (T__law_path_by C.ns) :=
 (HS.cons (HS1.set (.inl rfl) (HE.list HL.nil) (fun _ _ => rfl))
 (HS.cons (HS1.ite (HB.cmp ok_eq0 (HE.bin ok_mod (HE.cell rfl rfl) HE.int) HE.int rfl) (HS.cons (HS1.setComp (CompOk.of rfl) (HI.rng G hz rfl (HL.cons (HE.bin ok_add HE.int (HE.bin ok_mod (HE.bin ok_div (HE.cell rfl rfl) HE.int) HE.int)) HL.nil rfl) rfl) (HT.name rfl) HTs.nil (HE.callAt G h__law_name_by (by decide) rfl rfl (HL.cons (HE.bin ok_add HE.int (HE.name rfl rfl)) (HL.cons (HE.cell rfl rfl) HL.nil rfl) rfl) rfl) (fun _ _ => rfl) rfl (swaps_local rfl rfl rfl))
 HS.nil) HS.nil)
 (HS.cons (HS1.for (HT.name rfl) (HI.rng G hz rfl (HL.cons (HE.item G (HE.list (HL.cons HE.int (HL.cons HE.int (HL.cons HE.int (HL.cons HE.int (HL.cons HE.int HL.nil rfl) rfl) rfl) rfl) rfl)) (HE.bin ok_mod (HE.name rfl rfl) HE.int) rfl) HL.nil rfl) rfl) (HS.cons (HS1.expr (HE.append (HE.name rfl rfl) (HL.cons (HE.callAt G h__law_name_by (by decide) rfl rfl (HL.cons (HE.bin ok_mod (HE.bin ok_div (HE.bin ok_div (HE.name rfl rfl) HE.int) (HE.item G (HE.list (HL.cons HE.int (HL.cons HE.int (HL.cons HE.int HL.nil rfl) rfl) rfl)) (HE.name rfl rfl) rfl)) HE.int) (HL.cons (HE.cell rfl rfl) HL.nil rfl) rfl) rfl) HL.nil rfl) rfl (fun _ => rfl) rfl (by decide)) (fun _ _ => rfl))
 HS.nil) (fun _ _ => rfl))
 (HS.cons (HS1.ite (HB.boolOp (HBs.and (HB.cmp ok_eq0 (HE.bin ok_mod (HE.cell rfl rfl) HE.int) HE.int rfl) (HBs.and (HB.cmp ok_eq0 (HE.bin ok_mod (HE.name rfl rfl) HE.int) HE.int rfl) HBs.andNil))) (HS.cons (HS1.set (.inl rfl) (HE.cut G.ok (HE.name rfl rfl) HP.none (HP.some (HE.bin ok_add HE.int (HE.bin ok_mod (HE.bin ok_div (HE.name rfl rfl) HE.int) (HE.len G rfl (HL.cons (HE.name rfl rfl) HL.nil rfl) rfl))))) (fun _ _ => rfl))
 HS.nil) HS.nil)
 (HS.cons (HS1.ret (HE.join HE.str (HL.cons (HE.name rfl rfl) HL.nil rfl) rfl (fun _ => rfl) rfl (by decide)))
 HS.nil)))))
theorem f__law_path_by {C : Cx} (G : Gl C Hd.vw) (hz : C.held = none)  (h__law_name_by : FnAt C 1 "_law_name_by" (sp__law_name_by C.ns)) (hspec : ∀ vs σ Q, sp__law_path_by C.ns vs σ Q → vs.length = 2 ∧ T__law_path_by C.ns (bindM ["_law_cell", "_law_shift"] vs none') σ (fin Q)) : FnAt C 2 "_law_path_by" (sp__law_path_by C.ns) :=
 FnAt.mk (xs := ["_law_cell", "_law_shift"]) G 9 9 rfl rfl rfl rfl rfl (fun ws pm code doc h => by
  obtain ⟨w0, w1, rfl⟩ := len2 h
  rfl) rfl (b__law_path_by G hz  h__law_name_by) hspec
noncomputable def T__law_line_by_1 (ns : List Int) : ST :=
 (sSet "_law_some" (eVal (.str (Str.ofString " !\"#$&'()*+,-./0123456789:;<=>?@ABCDEFGHIJKLMNOPQRSTUVWXYZ[\\]^_`"))))
noncomputable def T__law_line_by_2 (ns : List Int) : ST :=
 (sSet "_law_some" (eBin opAdd (eName "_law_some") (eVal (.str (Str.ofString "abcdefghijklmnopqrstuvwxyz{|}~\n\t")))))
noncomputable def T__law_line_by_3 (ns : List Int) : ST :=
 (sSet "_law_size" (eBin opMod (eName "_law_k") (eVal (.int 4))))
noncomputable def T__law_line_by_4 (ns : List Int) : ST :=
 (sIf (tBool (eBin opEq0 (eName "_law_size") (eVal (.int 3)))) (sSeq (sSet "_law_size" (eBin opAdd (eVal (.int 3)) (eBin opMod (eName "_law_shift") (eVal (.int 60)))))
 (sSeq (sIf (tBool (eBin opEq0 (eBin opMod (eBin opDiv (eName "_law_shift") (eVal (.int 60))) (eVal (.int 4))) (eVal (.int 3)))) (sSeq (sSet "_law_size" (eBin opAdd (eVal (.int 3)) (eBin opMod (eBin opDiv (eName "_law_shift") (eVal (.int 240))) (eVal (.int 600)))))
 sNil) sNil)
 sNil)) sNil)
noncomputable def T__law_line_by_5 (ns : List Int) : ST :=
 (sRet (eMeth tyStr spJoin (eVal (.str (Str.ofString ""))) (lCons (eComp ["_law_some", "_law_shift", "_law_k"] (.name "_law_j") (iRange (lCons (eName "_law_size") lNil)) tT (eBin (opItem ns) (eName "_law_some") (eBin opMod (eBin opAdd (eBin opAdd (eName "_law_shift") (eBin opMul (eVal (.int 5)) (eName "_law_k"))) (eName "_law_j")) (eVal (.int 96))))) lNil)))
noncomputable def T__law_line_by (ns : List Int) : ST := (sSeq (T__law_line_by_1 ns) (sSeq (T__law_line_by_2 ns) (sSeq (T__law_line_by_3 ns) (sSeq (T__law_line_by_4 ns) (sSeq (T__law_line_by_5 ns) sNil)))))
theorem b__law_line_by {C : Cx} (G : Gl C Hd.vw) (hz : C.held = none)   : HS C (scopeAt Hd.vw 10) 0 (bodyAt Hd.vw 10) (T__law_line_by C.ns) :=
 (HS.cons (HS1.set (.inr rfl) HE.str (fun _ _ => rfl))
 (HS.cons (HS1.set (.inr rfl) (HE.bin ok_add (HE.cell rfl rfl) HE.str) (fun _ _ => rfl))
 (HS.cons (HS1.set (.inl rfl) (HE.bin ok_mod (HE.cell rfl rfl) HE.int) (fun _ _ => rfl))
 (HS.cons (HS1.ite (HB.cmp ok_eq0 (HE.name rfl rfl) HE.int rfl) (HS.cons (HS1.set (.inl rfl) (HE.bin ok_add HE.int (HE.bin ok_mod (HE.cell rfl rfl) HE.int)) (fun _ _ => rfl))
 (HS.cons (HS1.ite (HB.cmp ok_eq0 (HE.bin ok_mod (HE.bin ok_div (HE.cell rfl rfl) HE.int) HE.int) HE.int rfl) (HS.cons (HS1.set (.inl rfl) (HE.bin ok_add HE.int (HE.bin ok_mod (HE.bin ok_div (HE.cell rfl rfl) HE.int) HE.int)) (fun _ _ => rfl))
 HS.nil) HS.nil)
 HS.nil)) HS.nil)
 (HS.cons (HS1.ret (HE.join HE.str (HL.cons (HE.comp (CompOk.of rfl) (HI.rng G hz rfl (HL.cons (HE.name rfl rfl) HL.nil rfl) rfl) (HT.name rfl) HTs.nil (HE.item G (HE.cell rfl rfl) (HE.bin ok_mod (HE.bin ok_add (HE.bin ok_add (HE.cell rfl rfl) (HE.bin ok_mul HE.int (HE.cell rfl rfl))) (HE.name rfl rfl)) HE.int) rfl) (fun _ _ => rfl)) HL.nil rfl) rfl (fun _ => rfl) rfl (by decide)))
 HS.nil)))))
theorem f__law_line_by {C : Cx} (G : Gl C Hd.vw) (hz : C.held = none)   (hspec : ∀ vs σ Q, sp__law_line_by C.ns vs σ Q → vs.length = 2 ∧ T__law_line_by C.ns (bindM ["_law_k", "_law_shift"] vs none') σ (fin Q)) : FnAt C 0 "_law_line_by" (sp__law_line_by C.ns) :=
 FnAt.mk (xs := ["_law_k", "_law_shift"]) G 10 10 rfl rfl rfl rfl rfl (fun ws pm code doc h => by
  obtain ⟨w0, w1, rfl⟩ := len2 h
  rfl) rfl (b__law_line_by G hz  ) hspec
noncomputable def T__law_is_free_1 (ns : List Int) : ST :=
 (sFor (.name "_law_other") (iOf ns (eName "_law_tree")) (sSeq (sIf (tOr (tBool (eMeth tyStr spStarts (eName "_law_other") (lCons (eBin opAdd (eName "_law_path") (eVal (.str (Str.ofString "/")))) lNil))) (tOr (tBool (eMeth tyStr spStarts (eName "_law_path") (lCons (eBin opAdd (eName "_law_other") (eVal (.str (Str.ofString "/")))) lNil))) tF)) (sSeq (sRet (eVal (.bool false)))
 sNil) sNil)
 sNil))
noncomputable def T__law_is_free_2 (ns : List Int) : ST :=
 (sRet (eVal (.bool true)))
noncomputable def T__law_is_free (ns : List Int) : ST := (sSeq (T__law_is_free_1 ns) (sSeq (T__law_is_free_2 ns) sNil))
theorem b__law_is_free {C : Cx} (G : Gl C Hd.vw) (hz : C.held = none)   : HS C (scopeAt Hd.vw 11) 0 (bodyAt Hd.vw 11) (T__law_is_free C.ns) :=
 (HS.cons (HS1.for (HT.name rfl) (HI.of G.ok hz (HE.name rfl rfl)) (HS.cons (HS1.ite (HB.boolOp (HBs.or (HB.val (HE.starts (HE.name rfl rfl) (HL.cons (HE.bin ok_add (HE.name rfl rfl) HE.str) HL.nil rfl) rfl (fun _ => rfl) rfl (by decide)) (fun _ _ => rfl)) (HBs.or (HB.val (HE.starts (HE.name rfl rfl) (HL.cons (HE.bin ok_add (HE.name rfl rfl) HE.str) HL.nil rfl) rfl (fun _ => rfl) rfl (by decide)) (fun _ _ => rfl)) HBs.orNil))) (HS.cons (HS1.ret HE.bool)
 HS.nil) HS.nil)
 HS.nil) (fun _ _ => rfl))
 (HS.cons (HS1.ret HE.bool)
 HS.nil))
theorem f__law_is_free {C : Cx} (G : Gl C Hd.vw) (hz : C.held = none)   (hspec : ∀ vs σ Q, sp__law_is_free C.ns vs σ Q → vs.length = 2 ∧ T__law_is_free C.ns (bindM ["_law_tree", "_law_path"] vs none') σ (fin Q)) : FnAt C 0 "_law_is_free" (sp__law_is_free C.ns) :=
 FnAt.mk (xs := ["_law_tree", "_law_path"]) G 11 11 rfl rfl rfl rfl rfl (fun ws pm code doc h => by
  obtain ⟨w0, w1, rfl⟩ := len2 h
  rfl) rfl (b__law_is_free G hz  ) hspec
noncomputable def T__law_grown_1 (ns : List Int) : ST :=
 (sSet "_law_path" (eCall (sp__law_path_by ns) (lCons (eName "_law_cell") (lCons (eName "_law_shift") lNil))))
noncomputable def T__law_grown_2 (ns : List Int) : ST :=
 (sIf (tBool (eBin opEq0 (eBin opMod (eName "_law_cell") (eVal (.int 11))) (eVal (.int 4)))) (sSeq (sSet "_law_path" (eBin opAdd (eBin opAdd (eVal (.str (Str.ofString "tops"))) (eCall spStr (lCons (eBin opMod (eBin opDiv (eName "_law_cell") (eVal (.int 11))) (eBin (opItem ns) (eList (lCons (eVal (.int 40)) (lCons (eVal (.int 170)) lNil))) (eBin opMod (eBin opDiv (eName "_law_cell") (eVal (.int 440))) (eVal (.int 2))))) lNil))) (eVal (.str (Str.ofString "/x")))))
 sNil) sNil)
noncomputable def T__law_grown_3 (ns : List Int) : ST :=
 (sIf (tAnd (tBool (eBin opEq0 (eBin opMod (eName "_law_cell") (eVal (.int 3))) (eVal (.int 2)))) (tAnd (tCmp2 opLt opLt (eVal (.int 0)) (eCall (spLen ns) (lCons (eName "_law_tree") lNil)) (eVal (.int 30))) tT)) (sSeq (sSet "_law_path" (eBin (opItem ns) (eCall spListD (lCons (eName "_law_tree") lNil)) (eBin opMod (eBin opDiv (eName "_law_cell") (eVal (.int 3))) (eCall (spLen ns) (lCons (eName "_law_tree") lNil)))))
 sNil) sNil)
noncomputable def T__law_grown_4 (ns : List Int) : ST :=
 (sSet "_law_made" (eCall spDictC (lCons (eName "_law_tree") lNil)))
noncomputable def T__law_grown_5 (ns : List Int) : ST :=
 (sIf (tAnd (tBool (eBin opInD (eName "_law_path") (eName "_law_made"))) (tAnd (tBool (eBin opEq0 (eBin opMod (eBin opDiv (eName "_law_cell") (eVal (.int 135))) (eVal (.int 3))) (eVal (.int 0)))) tT)) (sSeq (sExpr (eMeth tyDict spPop (eName "_law_made") (lCons (eName "_law_path") lNil)))
 sNil) (sSeq (sIf (tOr (tBool (eBin opInD (eName "_law_path") (eName "_law_made"))) (tOr (tAnd (tBool (eBin opNe0 (eBin opMod (eName "_law_cell") (eVal (.int 11))) (eVal (.int 4)))) (tAnd (tBool (eCall (sp__law_is_free ns) (lCons (eName "_law_made") (lCons (eName "_law_path") lNil)))) tT)) tF)) (sSeq (sSetItem setD (eCall (sp__law_line_by ns) (lCons (eBin opDiv (eName "_law_cell") (eVal (.int 405))) (lCons (eName "_law_shift") lNil))) (eName "_law_made") (eName "_law_path"))
 sNil) sNil)
 sNil))
noncomputable def T__law_grown_6 (ns : List Int) : ST :=
 (sRet (eName "_law_made"))
noncomputable def T__law_grown (ns : List Int) : ST := (sSeq (T__law_grown_1 ns) (sSeq (T__law_grown_2 ns) (sSeq (T__law_grown_3 ns) (sSeq (T__law_grown_4 ns) (sSeq (T__law_grown_5 ns) (sSeq (T__law_grown_6 ns) sNil))))))
theorem b__law_grown {C : Cx} (G : Gl C Hd.vw) (hz : C.held = none)  (h__law_path_by : FnAt C 2 "_law_path_by" (sp__law_path_by C.ns)) (h__law_is_free : FnAt C 0 "_law_is_free" (sp__law_is_free C.ns)) (h__law_line_by : FnAt C 0 "_law_line_by" (sp__law_line_by C.ns)) : HS C (scopeAt Hd.vw 12) 3 (bodyAt Hd.vw 12) (T__law_grown C.ns) :=
 (HS.cons (HS1.set (.inl rfl) (HE.callAt G h__law_path_by (by decide) rfl rfl (HL.cons (HE.name rfl rfl) (HL.cons (HE.name rfl rfl) HL.nil rfl) rfl) rfl) (fun _ _ => rfl))
 (HS.cons (HS1.ite (HB.cmp ok_eq0 (HE.bin ok_mod (HE.name rfl rfl) HE.int) HE.int rfl) (HS.cons (HS1.set (.inl rfl) (HE.bin ok_add (HE.bin ok_add HE.str (HE.strC G rfl (HL.cons (HE.bin ok_mod (HE.bin ok_div (HE.name rfl rfl) HE.int) (HE.item G (HE.list (HL.cons HE.int (HL.cons HE.int HL.nil rfl) rfl)) (HE.bin ok_mod (HE.bin ok_div (HE.name rfl rfl) HE.int) HE.int) rfl)) HL.nil rfl) rfl)) HE.str) (fun _ _ => rfl))
 HS.nil) HS.nil)
 (HS.cons (HS1.ite (HB.boolOp (HBs.and (HB.cmp ok_eq0 (HE.bin ok_mod (HE.name rfl rfl) HE.int) HE.int rfl) (HBs.and (HB.cmp2 ok_lt ok_lt HE.int (HE.len G rfl (HL.cons (HE.name rfl rfl) HL.nil rfl) rfl) HE.int rfl) HBs.andNil))) (HS.cons (HS1.set (.inl rfl) (HE.item G (HE.listC G hz rfl (HL.cons (HE.name rfl rfl) HL.nil rfl) rfl) (HE.bin ok_mod (HE.bin ok_div (HE.name rfl rfl) HE.int) (HE.len G rfl (HL.cons (HE.name rfl rfl) HL.nil rfl) rfl)) rfl) (fun _ _ => rfl))
 HS.nil) HS.nil)
 (HS.cons (HS1.set (.inl rfl) (HE.dictC G rfl (HL.cons (HE.name rfl rfl) HL.nil rfl) rfl) (fun _ _ => rfl))
 (HS.cons (HS1.ite (HB.boolOp (HBs.and (HB.cmp (ok_inD G.ok) (HE.name rfl rfl) (HE.name rfl rfl) rfl) (HBs.and (HB.cmp ok_eq0 (HE.bin ok_mod (HE.bin ok_div (HE.name rfl rfl) HE.int) HE.int) HE.int rfl) HBs.andNil))) (HS.cons (HS1.expr (HE.popD (HE.name rfl rfl) (HL.cons (HE.name rfl rfl) HL.nil rfl) rfl (fun _ => rfl) rfl (by decide)) (fun _ _ => rfl))
 HS.nil) (HS.cons (HS1.ite (HB.boolOp (HBs.or (HB.cmp (ok_inD G.ok) (HE.name rfl rfl) (HE.name rfl rfl) rfl) (HBs.or (HB.boolOp (HBs.and (HB.cmp ok_ne0 (HE.bin ok_mod (HE.name rfl rfl) HE.int) HE.int rfl) (HBs.and (HB.val (HE.callAt G h__law_is_free (by decide) rfl rfl (HL.cons (HE.name rfl rfl) (HL.cons (HE.name rfl rfl) HL.nil rfl) rfl) rfl) (fun _ _ => rfl)) HBs.andNil))) HBs.orNil))) (HS.cons (HS1.setItem ok_setD (HE.callAt G h__law_line_by (by decide) rfl rfl (HL.cons (HE.bin ok_div (HE.name rfl rfl) HE.int) (HL.cons (HE.name rfl rfl) HL.nil rfl) rfl) rfl) (HE.name rfl rfl) (HE.name rfl rfl) (fun _ _ => rfl))
 HS.nil) HS.nil)
 HS.nil))
 (HS.cons (HS1.ret (HE.name rfl rfl))
 HS.nil))))))
theorem f__law_grown {C : Cx} (G : Gl C Hd.vw) (hz : C.held = none)  (h__law_path_by : FnAt C 2 "_law_path_by" (sp__law_path_by C.ns)) (h__law_is_free : FnAt C 0 "_law_is_free" (sp__law_is_free C.ns)) (h__law_line_by : FnAt C 0 "_law_line_by" (sp__law_line_by C.ns)) (hspec : ∀ vs σ Q, sp__law_grown C.ns vs σ Q → vs.length = 3 ∧ T__law_grown C.ns (bindM ["_law_tree", "_law_cell", "_law_shift"] vs none') σ (fin Q)) : FnAt C 3 "_law_grown" (sp__law_grown C.ns) :=
 FnAt.mk (xs := ["_law_tree", "_law_cell", "_law_shift"]) G 12 12 rfl rfl rfl rfl rfl (fun ws pm code doc h => by
  obtain ⟨w0, w1, w2, rfl⟩ := len3 h
  rfl) rfl (b__law_grown G hz  h__law_path_by h__law_is_free h__law_line_by) hspec
noncomputable def T__law_elder_1 (ns : List Int) : ST :=
 (sSet "_law_shift" (eCall (sp__law_cell_at ns) (lCons (eName "_law_script") (lCons (eVal (.int 0)) lNil))))
noncomputable def T__law_elder_2 (ns : List Int) : ST :=
 (sSet "_law_cell" (eCall (sp__law_cell_at ns) (lCons (eName "_law_script") (lCons (eVal (.int 1)) lNil))))
noncomputable def T__law_elder_3 (ns : List Int) : ST :=
 (sSet "_law_elder_here" eDict0)
noncomputable def T__law_elder_4 (ns : List Int) : ST :=
 (sIf (tBool (eBin opEq0 (eBin opMod (eBin opDiv (eName "_law_cell") (eVal (.int 56))) (eVal (.int 2))) (eVal (.int 1)))) (sSeq (sFor (.name "_law_k") (iRange (lCons (eBin opMod (eName "_law_cell") (eVal (.int 7))) lNil)) (sSeq (sSet "_law_elder_here" (eCall (sp__law_grown ns) (lCons (eName "_law_elder_here") (lCons (eCall (sp__law_cell_at ns) (lCons (eName "_law_script") (lCons (eBin opAdd (eVal (.int 4)) (eName "_law_k")) lNil))) (lCons (eName "_law_shift") lNil)))))
 sNil))
 sNil) sNil)
noncomputable def T__law_elder_5 (ns : List Int) : ST :=
 (sSet "_law_many" (eMeth tyLit spLit (eLit [(1, 40), (9, 40), (6, 170)]) (lCons (eBin opMod (eBin opDiv (eName "_law_cell") (eVal (.int 7))) (eVal (.int 16))) (lCons (eVal (.int 0)) lNil))))
noncomputable def T__law_elder_6 (ns : List Int) : ST :=
 (sFor (.name "_law_j") (iRange (lCons (eName "_law_many") lNil)) (sSeq (sIf (tBool (eBin opNotInD (eBin opAdd (eVal (.str (Str.ofString "tops"))) (eCall spStr (lCons (eName "_law_j") lNil))) (eName "_law_elder_here"))) (sSeq (sSetItem setD (eCall (sp__law_line_by ns) (lCons (eBin opMod (eName "_law_j") (eVal (.int 3))) (lCons (eName "_law_shift") lNil))) (eName "_law_elder_here") (eBin opAdd (eBin opAdd (eVal (.str (Str.ofString "tops"))) (eCall spStr (lCons (eName "_law_j") lNil))) (eVal (.str (Str.ofString "/x")))))
 sNil) sNil)
 sNil))
noncomputable def T__law_elder_7 (ns : List Int) : ST :=
 (sRet (eName "_law_elder_here"))
noncomputable def T__law_elder (ns : List Int) : ST := (sSeq (T__law_elder_1 ns) (sSeq (T__law_elder_2 ns) (sSeq (T__law_elder_3 ns) (sSeq (T__law_elder_4 ns) (sSeq (T__law_elder_5 ns) (sSeq (T__law_elder_6 ns) (sSeq (T__law_elder_7 ns) sNil)))))))
theorem b__law_elder {C : Cx} (G : Gl C Hd.vw) (hz : C.held = none)  (h__law_cell_at : FnAt C 0 "_law_cell_at" (sp__law_cell_at C.ns)) (h__law_grown : FnAt C 3 "_law_grown" (sp__law_grown C.ns)) (h__law_line_by : FnAt C 0 "_law_line_by" (sp__law_line_by C.ns)) : HS C (scopeAt Hd.vw 13) 4 (bodyAt Hd.vw 13) (T__law_elder C.ns) :=
 (HS.cons (HS1.set (.inl rfl) (HE.callAt G h__law_cell_at (by decide) rfl rfl (HL.cons (HE.name rfl rfl) (HL.cons HE.int HL.nil rfl) rfl) rfl) (fun _ _ => rfl))
 (HS.cons (HS1.set (.inl rfl) (HE.callAt G h__law_cell_at (by decide) rfl rfl (HL.cons (HE.name rfl rfl) (HL.cons HE.int HL.nil rfl) rfl) rfl) (fun _ _ => rfl))
 (HS.cons (HS1.set (.inl rfl) HE.dict0 (fun _ _ => rfl))
 (HS.cons (HS1.ite (HB.cmp ok_eq0 (HE.bin ok_mod (HE.bin ok_div (HE.name rfl rfl) HE.int) HE.int) HE.int rfl) (HS.cons (HS1.for (HT.name rfl) (HI.rng G hz rfl (HL.cons (HE.bin ok_mod (HE.name rfl rfl) HE.int) HL.nil rfl) rfl) (HS.cons (HS1.set (.inl rfl) (HE.callAt G h__law_grown (by decide) rfl rfl (HL.cons (HE.name rfl rfl) (HL.cons (HE.callAt G h__law_cell_at (by decide) rfl rfl (HL.cons (HE.name rfl rfl) (HL.cons (HE.bin ok_add HE.int (HE.name rfl rfl)) HL.nil rfl) rfl) rfl) (HL.cons (HE.name rfl rfl) HL.nil rfl) rfl) rfl) rfl) (fun _ _ => rfl))
 HS.nil) (fun _ _ => rfl))
 HS.nil) HS.nil)
 (HS.cons (HS1.set (.inl rfl) (HE.litGet G (HE.lit3 (by decide)) (HL.cons (HE.bin ok_mod (HE.bin ok_div (HE.name rfl rfl) HE.int) HE.int) (HL.cons HE.int HL.nil rfl) rfl) rfl (fun _ => rfl) rfl (by decide)) (fun _ _ => rfl))
 (HS.cons (HS1.for (HT.name rfl) (HI.rng G hz rfl (HL.cons (HE.name rfl rfl) HL.nil rfl) rfl) (HS.cons (HS1.ite (HB.cmp (ok_notInD G.ok) (HE.bin ok_add HE.str (HE.strC G rfl (HL.cons (HE.name rfl rfl) HL.nil rfl) rfl)) (HE.name rfl rfl) rfl) (HS.cons (HS1.setItem ok_setD (HE.callAt G h__law_line_by (by decide) rfl rfl (HL.cons (HE.bin ok_mod (HE.name rfl rfl) HE.int) (HL.cons (HE.name rfl rfl) HL.nil rfl) rfl) rfl) (HE.name rfl rfl) (HE.bin ok_add (HE.bin ok_add HE.str (HE.strC G rfl (HL.cons (HE.name rfl rfl) HL.nil rfl) rfl)) HE.str) (fun _ _ => rfl))
 HS.nil) HS.nil)
 HS.nil) (fun _ _ => rfl))
 (HS.cons (HS1.ret (HE.name rfl rfl))
 HS.nil)))))))
theorem f__law_elder {C : Cx} (G : Gl C Hd.vw) (hz : C.held = none)  (h__law_cell_at : FnAt C 0 "_law_cell_at" (sp__law_cell_at C.ns)) (h__law_grown : FnAt C 3 "_law_grown" (sp__law_grown C.ns)) (h__law_line_by : FnAt C 0 "_law_line_by" (sp__law_line_by C.ns)) (hspec : ∀ vs σ Q, sp__law_elder C.ns vs σ Q → vs.length = 1 ∧ T__law_elder C.ns (bindM ["_law_script"] vs none') σ (fin Q)) : FnAt C 4 "_law_elder" (sp__law_elder C.ns) :=
 FnAt.mk (xs := ["_law_script"]) G 13 13 rfl rfl rfl rfl rfl (fun ws pm code doc h => by
  obtain ⟨w0, rfl⟩ := len1 h
  rfl) rfl (b__law_elder G hz  h__law_cell_at h__law_grown h__law_line_by) hspec
noncomputable def T__law_side_1 (ns : List Int) : ST :=
 (sSet "_law_shift" (eCall (sp__law_cell_at ns) (lCons (eName "_law_script") (lCons (eVal (.int 0)) lNil))))
noncomputable def T__law_side_2 (ns : List Int) : ST :=
 (sSet "_law_made" (eCall spDictC (lCons (eName "_law_elder_here") lNil)))
noncomputable def T__law_side_3 (ns : List Int) : ST :=
 (sFor (.name "_law_k") (iRange (lCons (eBin opMod (eCall (sp__law_cell_at ns) (lCons (eName "_law_script") (lCons (eBin opAdd (eVal (.int 2)) (eName "_law_which")) lNil))) (eVal (.int 9))) lNil)) (sSeq (sSet "_law_made" (eCall (sp__law_grown ns) (lCons (eName "_law_made") (lCons (eCall (sp__law_cell_at ns) (lCons (eName "_law_script") (lCons (eBin opAdd (eBin opAdd (eVal (.int 10)) (eBin opMul (eVal (.int 8)) (eName "_law_which"))) (eName "_law_k")) lNil))) (lCons (eName "_law_shift") lNil)))))
 sNil))
noncomputable def T__law_side_4 (ns : List Int) : ST :=
 (sIf (tBool (eBin opEq0 (eBin opMod (eBin opDiv (eCall (sp__law_cell_at ns) (lCons (eName "_law_script") (lCons (eVal (.int 1)) lNil))) (eVal (.int 112))) (eVal (.int 2))) (eVal (.int 1)))) (sSeq (sFor (.name "_law_j") (iRange (lCons (eVal (.int 40)) lNil)) (sSeq (sSet "_law_path" (eBin opAdd (eBin opAdd (eVal (.str (Str.ofString "tops"))) (eCall spStr (lCons (eBin opAdd (eName "_law_j") (eBin opMod (eBin opDiv (eCall (sp__law_cell_at ns) (lCons (eName "_law_script") (lCons (eVal (.int 2)) lNil))) (eVal (.int 9))) (eVal (.int 150)))) lNil))) (eVal (.str (Str.ofString "/x")))))
 (sSeq (sIf (tBool (eBin opInD (eName "_law_path") (eName "_law_made"))) (sSeq (sSetItem setD (eBin (opItem ns) (eList (lCons (eVal (.str (Str.ofString "one"))) (lCons (eBin opAdd (eVal (.str (Str.ofString "other"))) (eCall spStr (lCons (eBin opMod (eName "_law_j") (eVal (.int 2))) lNil))) lNil))) (eName "_law_which")) (eName "_law_made") (eName "_law_path"))
 sNil) sNil)
 sNil)))
 sNil) sNil)
noncomputable def T__law_side_5 (ns : List Int) : ST :=
 (sRet (eName "_law_made"))
noncomputable def T__law_side (ns : List Int) : ST := (sSeq (T__law_side_1 ns) (sSeq (T__law_side_2 ns) (sSeq (T__law_side_3 ns) (sSeq (T__law_side_4 ns) (sSeq (T__law_side_5 ns) sNil)))))
theorem b__law_side {C : Cx} (G : Gl C Hd.vw) (hz : C.held = none)  (h__law_cell_at : FnAt C 0 "_law_cell_at" (sp__law_cell_at C.ns)) (h__law_grown : FnAt C 3 "_law_grown" (sp__law_grown C.ns)) : HS C (scopeAt Hd.vw 14) 4 (bodyAt Hd.vw 14) (T__law_side C.ns) :=
 (HS.cons (HS1.set (.inl rfl) (HE.callAt G h__law_cell_at (by decide) rfl rfl (HL.cons (HE.name rfl rfl) (HL.cons HE.int HL.nil rfl) rfl) rfl) (fun _ _ => rfl))
 (HS.cons (HS1.set (.inl rfl) (HE.dictC G rfl (HL.cons (HE.name rfl rfl) HL.nil rfl) rfl) (fun _ _ => rfl))
 (HS.cons (HS1.for (HT.name rfl) (HI.rng G hz rfl (HL.cons (HE.bin ok_mod (HE.callAt G h__law_cell_at (by decide) rfl rfl (HL.cons (HE.name rfl rfl) (HL.cons (HE.bin ok_add HE.int (HE.name rfl rfl)) HL.nil rfl) rfl) rfl) HE.int) HL.nil rfl) rfl) (HS.cons (HS1.set (.inl rfl) (HE.callAt G h__law_grown (by decide) rfl rfl (HL.cons (HE.name rfl rfl) (HL.cons (HE.callAt G h__law_cell_at (by decide) rfl rfl (HL.cons (HE.name rfl rfl) (HL.cons (HE.bin ok_add (HE.bin ok_add HE.int (HE.bin ok_mul HE.int (HE.name rfl rfl))) (HE.name rfl rfl)) HL.nil rfl) rfl) rfl) (HL.cons (HE.name rfl rfl) HL.nil rfl) rfl) rfl) rfl) (fun _ _ => rfl))
 HS.nil) (fun _ _ => rfl))
 (HS.cons (HS1.ite (HB.cmp ok_eq0 (HE.bin ok_mod (HE.bin ok_div (HE.callAt G h__law_cell_at (by decide) rfl rfl (HL.cons (HE.name rfl rfl) (HL.cons HE.int HL.nil rfl) rfl) rfl) HE.int) HE.int) HE.int rfl) (HS.cons (HS1.for (HT.name rfl) (HI.rng G hz rfl (HL.cons HE.int HL.nil rfl) rfl) (HS.cons (HS1.set (.inl rfl) (HE.bin ok_add (HE.bin ok_add HE.str (HE.strC G rfl (HL.cons (HE.bin ok_add (HE.name rfl rfl) (HE.bin ok_mod (HE.bin ok_div (HE.callAt G h__law_cell_at (by decide) rfl rfl (HL.cons (HE.name rfl rfl) (HL.cons HE.int HL.nil rfl) rfl) rfl) HE.int) HE.int)) HL.nil rfl) rfl)) HE.str) (fun _ _ => rfl))
 (HS.cons (HS1.ite (HB.cmp (ok_inD G.ok) (HE.name rfl rfl) (HE.name rfl rfl) rfl) (HS.cons (HS1.setItem ok_setD (HE.item G (HE.list (HL.cons HE.str (HL.cons (HE.bin ok_add HE.str (HE.strC G rfl (HL.cons (HE.bin ok_mod (HE.name rfl rfl) HE.int) HL.nil rfl) rfl)) HL.nil rfl) rfl)) (HE.name rfl rfl) rfl) (HE.name rfl rfl) (HE.name rfl rfl) (fun _ _ => rfl))
 HS.nil) HS.nil)
 HS.nil)) (fun _ _ => rfl))
 HS.nil) HS.nil)
 (HS.cons (HS1.ret (HE.name rfl rfl))
 HS.nil)))))
theorem f__law_side {C : Cx} (G : Gl C Hd.vw) (hz : C.held = none)  (h__law_cell_at : FnAt C 0 "_law_cell_at" (sp__law_cell_at C.ns)) (h__law_grown : FnAt C 3 "_law_grown" (sp__law_grown C.ns)) (hspec : ∀ vs σ Q, sp__law_side C.ns vs σ Q → vs.length = 3 ∧ T__law_side C.ns (bindM ["_law_script", "_law_elder_here", "_law_which"] vs none') σ (fin Q)) : FnAt C 4 "_law_side" (sp__law_side C.ns) :=
 FnAt.mk (xs := ["_law_script", "_law_elder_here", "_law_which"]) G 14 14 rfl rfl rfl rfl rfl (fun ws pm code doc h => by
  obtain ⟨w0, w1, w2, rfl⟩ := len3 h
  rfl) rfl (b__law_side G hz  h__law_cell_at h__law_grown) hspec
noncomputable def T__law_uppers_1 (ns : List Int) : ST :=
 (sRet (eComp ["_law_path"] (.name "_law_k") (iRange (lCons (eCall (spLen ns) (lCons (eName "_law_path") lNil)) lNil)) (tBool (eBin opEq0 (eBin (opItem ns) (eName "_law_path") (eName "_law_k")) (eVal (.str (Str.ofString "/"))))) (eCut ns (eName "_law_path") pNone (pSome (eName "_law_k")))))
noncomputable def T__law_uppers (ns : List Int) : ST := (sSeq (T__law_uppers_1 ns) sNil)
theorem b__law_uppers {C : Cx} (G : Gl C Hd.vw) (hz : C.held = none)   : HS C (scopeAt Hd.vw 15) 0 (bodyAt Hd.vw 15) (T__law_uppers C.ns) :=
 (HS.cons (HS1.ret (HE.comp (CompOk.of rfl) (HI.rng G hz rfl (HL.cons (HE.len G rfl (HL.cons (HE.cell rfl rfl) HL.nil rfl) rfl) HL.nil rfl) rfl) (HT.name rfl) (HTs.one (HB.cmp ok_eq0 (HE.item G (HE.cell rfl rfl) (HE.name rfl rfl) rfl) HE.str rfl)) (HE.cut G.ok (HE.cell rfl rfl) HP.none (HP.some (HE.name rfl rfl))) (fun _ _ => rfl)))
 HS.nil)
theorem f__law_uppers {C : Cx} (G : Gl C Hd.vw) (hz : C.held = none)   (hspec : ∀ vs σ Q, sp__law_uppers C.ns vs σ Q → vs.length = 1 ∧ T__law_uppers C.ns (bindM ["_law_path"] vs none') σ (fin Q)) : FnAt C 0 "_law_uppers" (sp__law_uppers C.ns) :=
 FnAt.mk (xs := ["_law_path"]) G 15 15 rfl rfl rfl rfl rfl (fun ws pm code doc h => by
  obtain ⟨w0, rfl⟩ := len1 h
  rfl) rfl (b__law_uppers G hz  ) hspec
noncomputable def T__law_due_1 (ns : List Int) : ST :=
 (sSet "_law_due_here" (eList lNil))
noncomputable def T__law_due_2 (ns : List Int) : ST :=
 (sSet "_law_made" eDict0)
noncomputable def T__law_due_3 (ns : List Int) : ST :=
 (sFor (.name "_law_path") (iOf ns (eSortSet (eBin opAdd (eBin opAdd (eCall spListD (lCons (eName "_law_elder_here") lNil)) (eCall spListD (lCons (eName "_law_one") lNil))) (eCall spListD (lCons (eName "_law_other") lNil))))) (sSeq (sSet "_law_was" (eMeth tyDict spGet (eName "_law_elder_here") (lCons (eName "_law_path") lNil)))
 (sSeq (sSet "_law_left" (eMeth tyDict spGet (eName "_law_one") (lCons (eName "_law_path") lNil)))
 (sSeq (sSet "_law_right" (eMeth tyDict spGet (eName "_law_other") (lCons (eName "_law_path") lNil)))
 (sSeq (sIf (tAnd (tBool (eBin opNe0 (eName "_law_left") (eName "_law_right"))) (tAnd (tBool (eBin opNe0 (eName "_law_left") (eName "_law_was"))) (tAnd (tBool (eBin opNe0 (eName "_law_right") (eName "_law_was"))) tT))) (sSeq (sExpr (eMeth tyList spAppend (eName "_law_due_here") (lCons (eTup (lCons (eName "_law_path") lNil)) lNil)))
 sNil) (sSeq (sIf (tAnd (tBool (eBin opNe0 (eName "_law_left") (eName "_law_was"))) (tAnd (tBool (eBin opIsNot (eName "_law_left") (eVal .none))) tT)) (sSeq (sSetItem setD (eVal (.bool true)) (eName "_law_made") (eName "_law_path"))
 sNil) (sSeq (sIf (tAnd (tBool (eBin opEq0 (eName "_law_left") (eName "_law_was"))) (tAnd (tBool (eBin opIsNot (eName "_law_right") (eVal .none))) tT)) (sSeq (sSetItem setD (eVal (.bool true)) (eName "_law_made") (eName "_law_path"))
 sNil) sNil)
 sNil))
 sNil))
 sNil)))))
noncomputable def T__law_due_4 (ns : List Int) : ST :=
 (sFor (.name "_law_lower") (iOf ns (eName "_law_made")) (sSeq (sSet "_law_due_here" (eBin opAdd (eName "_law_due_here") (eComp ["_law_made", "_law_lower"] (.name "_law_upper") (iOf ns (eCall (sp__law_uppers ns) (lCons (eName "_law_lower") lNil))) (tBool (eBin opInD (eName "_law_upper") (eName "_law_made"))) (eTup (lCons (eName "_law_upper") (lCons (eName "_law_lower") lNil))))))
 sNil))
noncomputable def T__law_due_5 (ns : List Int) : ST :=
 (sRet (eCall spSortT (lCons (eName "_law_due_here") lNil)))
noncomputable def T__law_due (ns : List Int) : ST := (sSeq (T__law_due_1 ns) (sSeq (T__law_due_2 ns) (sSeq (T__law_due_3 ns) (sSeq (T__law_due_4 ns) (sSeq (T__law_due_5 ns) sNil)))))
theorem b__law_due {C : Cx} (G : Gl C Hd.vw) (hz : C.held = none)  (h__law_uppers : FnAt C 0 "_law_uppers" (sp__law_uppers C.ns)) : HS C (scopeAt Hd.vw 16) 1 (bodyAt Hd.vw 16) (T__law_due C.ns) :=
 (HS.cons (HS1.set (.inl rfl) (HE.list HL.nil) (fun _ _ => rfl))
 (HS.cons (HS1.set (.inr rfl) HE.dict0 (fun _ _ => rfl))
 (HS.cons (HS1.for (HT.name rfl) (HI.of G.ok hz (HE.sortedSet G hz rfl rfl (HE.bin ok_add (HE.bin ok_add (HE.listC G hz rfl (HL.cons (HE.name rfl rfl) HL.nil rfl) rfl) (HE.listC G hz rfl (HL.cons (HE.name rfl rfl) HL.nil rfl) rfl)) (HE.listC G hz rfl (HL.cons (HE.name rfl rfl) HL.nil rfl) rfl)) rfl)) (HS.cons (HS1.set (.inl rfl) (HE.getD G (HE.name rfl rfl) (HL.cons (HE.name rfl rfl) HL.nil rfl) rfl (fun _ => rfl) rfl (by decide)) (fun _ _ => rfl))
 (HS.cons (HS1.set (.inl rfl) (HE.getD G (HE.name rfl rfl) (HL.cons (HE.name rfl rfl) HL.nil rfl) rfl (fun _ => rfl) rfl (by decide)) (fun _ _ => rfl))
 (HS.cons (HS1.set (.inl rfl) (HE.getD G (HE.name rfl rfl) (HL.cons (HE.name rfl rfl) HL.nil rfl) rfl (fun _ => rfl) rfl (by decide)) (fun _ _ => rfl))
 (HS.cons (HS1.ite (HB.boolOp (HBs.and (HB.cmp ok_ne0 (HE.name rfl rfl) (HE.name rfl rfl) rfl) (HBs.and (HB.cmp ok_ne0 (HE.name rfl rfl) (HE.name rfl rfl) rfl) (HBs.and (HB.cmp ok_ne0 (HE.name rfl rfl) (HE.name rfl rfl) rfl) HBs.andNil)))) (HS.cons (HS1.expr (HE.append (HE.name rfl rfl) (HL.cons (HE.tup (HL.cons (HE.name rfl rfl) HL.nil rfl)) HL.nil rfl) rfl (fun _ => rfl) rfl (by decide)) (fun _ _ => rfl))
 HS.nil) (HS.cons (HS1.ite (HB.boolOp (HBs.and (HB.cmp ok_ne0 (HE.name rfl rfl) (HE.name rfl rfl) rfl) (HBs.and (HB.cmp ok_isNot (HE.name rfl rfl) HE.none rfl) HBs.andNil))) (HS.cons (HS1.setItem ok_setD HE.bool (HE.cell rfl rfl) (HE.name rfl rfl) (fun _ _ => rfl))
 HS.nil) (HS.cons (HS1.ite (HB.boolOp (HBs.and (HB.cmp ok_eq0 (HE.name rfl rfl) (HE.name rfl rfl) rfl) (HBs.and (HB.cmp ok_isNot (HE.name rfl rfl) HE.none rfl) HBs.andNil))) (HS.cons (HS1.setItem ok_setD HE.bool (HE.cell rfl rfl) (HE.name rfl rfl) (fun _ _ => rfl))
 HS.nil) HS.nil)
 HS.nil))
 HS.nil))
 HS.nil)))) (fun _ _ => rfl))
 (HS.cons (HS1.for (HT.cell rfl) (HI.of G.ok hz (HE.cell rfl rfl)) (HS.cons (HS1.set (.inl rfl) (HE.bin ok_add (HE.name rfl rfl) (HE.comp (CompOk.of rfl) (HI.of G.ok hz (HE.callAt G h__law_uppers (by decide) rfl rfl (HL.cons (HE.cell rfl rfl) HL.nil rfl) rfl)) (HT.name rfl) (HTs.one (HB.cmp (ok_inD G.ok) (HE.name rfl rfl) (HE.cell rfl rfl) rfl)) (HE.tup (HL.cons (HE.name rfl rfl) (HL.cons (HE.cell rfl rfl) HL.nil rfl) rfl)) (fun _ _ => rfl))) (fun _ _ => rfl))
 HS.nil) (fun _ _ => rfl))
 (HS.cons (HS1.ret (HE.sortedT G hz rfl (HL.cons (HE.name rfl rfl) HL.nil rfl) rfl))
 HS.nil)))))
theorem f__law_due {C : Cx} (G : Gl C Hd.vw) (hz : C.held = none)  (h__law_uppers : FnAt C 0 "_law_uppers" (sp__law_uppers C.ns)) (hspec : ∀ vs σ Q, sp__law_due C.ns vs σ Q → vs.length = 3 ∧ T__law_due C.ns (bindM ["_law_elder_here", "_law_one", "_law_other"] vs none') σ (fin Q)) : FnAt C 1 "_law_due" (sp__law_due C.ns) :=
 FnAt.mk (xs := ["_law_elder_here", "_law_one", "_law_other"]) G 16 16 rfl rfl rfl rfl rfl (fun ws pm code doc h => by
  obtain ⟨w0, w1, w2, rfl⟩ := len3 h
  rfl) rfl (b__law_due G hz  h__law_uppers) hspec
noncomputable def T__law_both_changed_1 (ns : List Int) : ST :=
 (sIf (tBool (eBin opEq0 (eCall (spLen ns) (lCons (eName "_law_clash") lNil)) (eVal (.int 1)))) (sSeq (sSet "_law_was" (eMeth tyDict spGet (eName "_law_elder_here") (lCons (eBin (opItem ns) (eName "_law_clash") (eVal (.int 0))) lNil)))
 (sSeq (sSet "_law_left" (eMeth tyDict spGet (eName "_law_one") (lCons (eBin (opItem ns) (eName "_law_clash") (eVal (.int 0))) lNil)))
 (sSeq (sRet (eAnd (eBin opNe0 (eName "_law_left") (eName "_law_was")) (eAnd (eBin opNe0 (eMeth tyDict spGet (eName "_law_other") (lCons (eBin (opItem ns) (eName "_law_clash") (eVal (.int 0))) lNil)) (eName "_law_was")) (eBin opNe0 (eName "_law_left") (eMeth tyDict spGet (eName "_law_other") (lCons (eBin (opItem ns) (eName "_law_clash") (eVal (.int 0))) lNil))))))
 sNil))) sNil)
noncomputable def T__law_both_changed_2 (ns : List Int) : ST :=
 (sFor (.name "_law_path") (iOf ns (eName "_law_clash")) (sSeq (sIf (tOr (tBool (eBin opInD (eName "_law_path") (eName "_law_elder_here"))) (tOr (tBool (eBin opEq0 (eBin opInD (eName "_law_path") (eName "_law_one")) (eBin opInD (eName "_law_path") (eName "_law_other")))) tF)) (sSeq (sRet (eVal (.bool false)))
 sNil) sNil)
 sNil))
noncomputable def T__law_both_changed_3 (ns : List Int) : ST :=
 (sRet (eBin opNe0 (eBin opInD (eBin (opItem ns) (eName "_law_clash") (eVal (.int 0))) (eName "_law_one")) (eBin opInD (eBin (opItem ns) (eName "_law_clash") (eVal (.int 1))) (eName "_law_one"))))
noncomputable def T__law_both_changed (ns : List Int) : ST := (sSeq (T__law_both_changed_1 ns) (sSeq (T__law_both_changed_2 ns) (sSeq (T__law_both_changed_3 ns) sNil)))
theorem b__law_both_changed {C : Cx} (G : Gl C Hd.vw) (hz : C.held = none)   : HS C (scopeAt Hd.vw 17) 0 (bodyAt Hd.vw 17) (T__law_both_changed C.ns) :=
 (HS.cons (HS1.ite (HB.cmp ok_eq0 (HE.len G rfl (HL.cons (HE.name rfl rfl) HL.nil rfl) rfl) HE.int rfl) (HS.cons (HS1.set (.inl rfl) (HE.getD G (HE.name rfl rfl) (HL.cons (HE.item G (HE.name rfl rfl) HE.int rfl) HL.nil rfl) rfl (fun _ => rfl) rfl (by decide)) (fun _ _ => rfl))
 (HS.cons (HS1.set (.inl rfl) (HE.getD G (HE.name rfl rfl) (HL.cons (HE.item G (HE.name rfl rfl) HE.int rfl) HL.nil rfl) rfl (fun _ => rfl) rfl (by decide)) (fun _ _ => rfl))
 (HS.cons (HS1.ret (HE.boolOp (HVs.and (HE.cmp ok_ne0 (HE.name rfl rfl) (HE.name rfl rfl) rfl) (HVs.and (HE.cmp ok_ne0 (HE.getD G (HE.name rfl rfl) (HL.cons (HE.item G (HE.name rfl rfl) HE.int rfl) HL.nil rfl) rfl (fun _ => rfl) rfl (by decide)) (HE.name rfl rfl) rfl) (HVs.one (HE.cmp ok_ne0 (HE.name rfl rfl) (HE.getD G (HE.name rfl rfl) (HL.cons (HE.item G (HE.name rfl rfl) HE.int rfl) HL.nil rfl) rfl (fun _ => rfl) rfl (by decide)) rfl))))))
 HS.nil))) HS.nil)
 (HS.cons (HS1.for (HT.name rfl) (HI.of G.ok hz (HE.name rfl rfl)) (HS.cons (HS1.ite (HB.boolOp (HBs.or (HB.cmp (ok_inD G.ok) (HE.name rfl rfl) (HE.name rfl rfl) rfl) (HBs.or (HB.cmp ok_eq0 (HE.cmp (ok_inD G.ok) (HE.name rfl rfl) (HE.name rfl rfl) rfl) (HE.cmp (ok_inD G.ok) (HE.name rfl rfl) (HE.name rfl rfl) rfl) rfl) HBs.orNil))) (HS.cons (HS1.ret HE.bool)
 HS.nil) HS.nil)
 HS.nil) (fun _ _ => rfl))
 (HS.cons (HS1.ret (HE.cmp ok_ne0 (HE.cmp (ok_inD G.ok) (HE.item G (HE.name rfl rfl) HE.int rfl) (HE.name rfl rfl) rfl) (HE.cmp (ok_inD G.ok) (HE.item G (HE.name rfl rfl) HE.int rfl) (HE.name rfl rfl) rfl) rfl))
 HS.nil)))
theorem f__law_both_changed {C : Cx} (G : Gl C Hd.vw) (hz : C.held = none)   (hspec : ∀ vs σ Q, sp__law_both_changed C.ns vs σ Q → vs.length = 4 ∧ T__law_both_changed C.ns (bindM ["_law_clash", "_law_elder_here", "_law_one", "_law_other"] vs none') σ (fin Q)) : FnAt C 0 "_law_both_changed" (sp__law_both_changed C.ns) :=
 FnAt.mk (xs := ["_law_clash", "_law_elder_here", "_law_one", "_law_other"]) G 17 17 rfl rfl rfl rfl rfl (fun ws pm code doc h => by
  obtain ⟨w0, w1, w2, w3, rfl⟩ := len4 h
  rfl) rfl (b__law_both_changed G hz  ) hspec
noncomputable def T_law_1 (ns : List Int) : ST :=
 (sSet "_law_elder_here" (eCall (sp__law_elder ns) (lCons (eName "_law_script") lNil)))
noncomputable def T_law_2 (ns : List Int) : ST :=
 (sSet "_law_one" (eCall (sp__law_side ns) (lCons (eName "_law_script") (lCons (eName "_law_elder_here") (lCons (eVal (.int 0)) lNil)))))
noncomputable def T_law_3 (ns : List Int) : ST :=
 (sSet "_law_other" (eCall (sp__law_side ns) (lCons (eName "_law_script") (lCons (eName "_law_elder_here") (lCons (eVal (.int 1)) lNil)))))
noncomputable def T_law_4 (ns : List Int) : ST :=
 (sSet "_law_kept" (eTup (lCons (eCall spDictC (lCons (eName "_law_elder_here") lNil)) (lCons (eCall spDictC (lCons (eName "_law_one") lNil)) (lCons (eCall spDictC (lCons (eName "_law_other") lNil)) lNil)))))
noncomputable def T_law_5 (ns : List Int) : ST :=
 (sSet "_law_due_here" (eCall (sp__law_due ns) (lCons (eName "_law_elder_here") (lCons (eName "_law_one") (lCons (eName "_law_other") lNil)))))
noncomputable def T_law_6 (ns : List Int) : ST :=
 (sFor (.name "_law_found") (iOf ns (eList (lCons (eCall (sp_clashes ns) (lCons (eName "_law_elder_here") (lCons (eName "_law_one") (lCons (eName "_law_other") lNil)))) (lCons (eCall (sp_clashes ns) (lCons (eName "_law_elder_here") (lCons (eName "_law_other") (lCons (eName "_law_one") lNil)))) lNil)))) (sSeq (sIf (tOr (tNot (tBool (eCall spIsi (lCons (eName "_law_found") (lCons (eVal (.ty "list")) lNil))))) (tOr (tBool (eBin opNe0 (eCall (spLen ns) (lCons (eName "_law_found") lNil)) (eCall (spLen ns) (lCons (eName "_law_due_here") lNil)))) tF)) (sSeq (sRet (eVal (.bool false)))
 sNil) sNil)
 (sSeq (sFor (.name "_law_clash") (iOf ns (eName "_law_found")) (sSeq (sIf (tOr (tNot (tBool (eCall spIsi (lCons (eName "_law_clash") (lCons (eVal (.ty "tuple")) lNil))))) (tOr (tBool (eBin opGt (eCall (spLen ns) (lCons (eComp [] (.name "_law_path") (iOf ns (eName "_law_clash")) (tNot (tBool (eCall spIsi (lCons (eName "_law_path") (lCons (eVal (.ty "str")) lNil))))) (eName "_law_path")) lNil)) (eVal (.int 0)))) tF)) (sSeq (sRet (eVal (.bool false)))
 sNil) sNil)
 (sSeq (sIf (tOr (tBool (eBin opNotInL (eCall (spLen ns) (lCons (eName "_law_clash") lNil)) (eList (lCons (eVal (.int 1)) (lCons (eVal (.int 2)) lNil))))) (tOr (tNot (tBool (eCall (sp__law_both_changed ns) (lCons (eName "_law_clash") (lCons (eName "_law_elder_here") (lCons (eName "_law_one") (lCons (eName "_law_other") lNil))))))) tF)) (sSeq (sRet (eVal (.bool false)))
 sNil) sNil)
 sNil)))
 (sSeq (sIf (tBool (eBin opNe (eName "_law_found") (eName "_law_due_here"))) (sSeq (sRet (eVal (.bool false)))
 sNil) sNil)
 (sSeq (sExpr (eMeth tyList spClear (eName "_law_found") lNil))
 sNil)))))
noncomputable def T_law_7 (ns : List Int) : ST :=
 (sRet (eAnd (eBin opEqD (eTup (lCons (eName "_law_elder_here") (lCons (eName "_law_one") (lCons (eName "_law_other") lNil)))) (eName "_law_kept")) (eBin opEqD (eCall (sp_clashes ns) (lCons (eName "_law_elder_here") (lCons (eName "_law_one") (lCons (eName "_law_other") lNil)))) (eName "_law_due_here"))))
noncomputable def T_law (ns : List Int) : ST := (sSeq (T_law_1 ns) (sSeq (T_law_2 ns) (sSeq (T_law_3 ns) (sSeq (T_law_4 ns) (sSeq (T_law_5 ns) (sSeq (T_law_6 ns) (sSeq (T_law_7 ns) sNil)))))))
theorem b_law {C : Cx} (G : Gl C Hd.vw) (hz : C.held = none)  (h__law_elder : FnAt C 4 "_law_elder" (sp__law_elder C.ns)) (h__law_side : FnAt C 4 "_law_side" (sp__law_side C.ns)) (h__law_due : FnAt C 1 "_law_due" (sp__law_due C.ns)) (h_clashes : FnAt C 4 "clashes" (sp_clashes C.ns)) (h__law_both_changed : FnAt C 0 "_law_both_changed" (sp__law_both_changed C.ns)) : HS C (scopeAt Hd.vw 18) 5 (bodyAt Hd.vw 18) (T_law C.ns) :=
 (HS.cons (HS1.set (.inl rfl) (HE.callAt G h__law_elder (by decide) rfl rfl (HL.cons (HE.name rfl rfl) HL.nil rfl) rfl) (fun _ _ => rfl))
 (HS.cons (HS1.set (.inl rfl) (HE.callAt G h__law_side (by decide) rfl rfl (HL.cons (HE.name rfl rfl) (HL.cons (HE.name rfl rfl) (HL.cons HE.int HL.nil rfl) rfl) rfl) rfl) (fun _ _ => rfl))
 (HS.cons (HS1.set (.inl rfl) (HE.callAt G h__law_side (by decide) rfl rfl (HL.cons (HE.name rfl rfl) (HL.cons (HE.name rfl rfl) (HL.cons HE.int HL.nil rfl) rfl) rfl) rfl) (fun _ _ => rfl))
 (HS.cons (HS1.set (.inl rfl) (HE.tup (HL.cons (HE.dictC G rfl (HL.cons (HE.name rfl rfl) HL.nil rfl) rfl) (HL.cons (HE.dictC G rfl (HL.cons (HE.name rfl rfl) HL.nil rfl) rfl) (HL.cons (HE.dictC G rfl (HL.cons (HE.name rfl rfl) HL.nil rfl) rfl) HL.nil rfl) rfl) rfl)) (fun _ _ => rfl))
 (HS.cons (HS1.set (.inl rfl) (HE.callAt G h__law_due (by decide) rfl rfl (HL.cons (HE.name rfl rfl) (HL.cons (HE.name rfl rfl) (HL.cons (HE.name rfl rfl) HL.nil rfl) rfl) rfl) rfl) (fun _ _ => rfl))
 (HS.cons (HS1.for (HT.name rfl) (HI.of G.ok hz (HE.list (HL.cons (HE.callAt G h_clashes (by decide) rfl rfl (HL.cons (HE.name rfl rfl) (HL.cons (HE.name rfl rfl) (HL.cons (HE.name rfl rfl) HL.nil rfl) rfl) rfl) rfl) (HL.cons (HE.callAt G h_clashes (by decide) rfl rfl (HL.cons (HE.name rfl rfl) (HL.cons (HE.name rfl rfl) (HL.cons (HE.name rfl rfl) HL.nil rfl) rfl) rfl) rfl) HL.nil rfl) rfl))) (HS.cons (HS1.ite (HB.boolOp (HBs.or (HB.not (HB.val (HE.isi G rfl (HL.cons (HE.name rfl rfl) (HL.cons (HE.gList G rfl) HL.nil rfl) rfl) rfl) (fun _ _ => rfl))) (HBs.or (HB.cmp ok_ne0 (HE.len G rfl (HL.cons (HE.name rfl rfl) HL.nil rfl) rfl) (HE.len G rfl (HL.cons (HE.name rfl rfl) HL.nil rfl) rfl) rfl) HBs.orNil))) (HS.cons (HS1.ret HE.bool)
 HS.nil) HS.nil)
 (HS.cons (HS1.for (HT.name rfl) (HI.of G.ok hz (HE.name rfl rfl)) (HS.cons (HS1.ite (HB.boolOp (HBs.or (HB.not (HB.val (HE.isi G rfl (HL.cons (HE.name rfl rfl) (HL.cons (HE.gTuple G rfl) HL.nil rfl) rfl) rfl) (fun _ _ => rfl))) (HBs.or (HB.cmp ok_gt (HE.len G rfl (HL.cons (HE.comp (CompOk.of rfl) (HI.of G.ok hz (HE.name rfl rfl)) (HT.name rfl) (HTs.one (HB.not (HB.val (HE.isi G rfl (HL.cons (HE.name rfl rfl) (HL.cons (HE.gStr G rfl) HL.nil rfl) rfl) rfl) (fun _ _ => rfl)))) (HE.name rfl rfl) (fun _ _ => rfl)) HL.nil rfl) rfl) HE.int rfl) HBs.orNil))) (HS.cons (HS1.ret HE.bool)
 HS.nil) HS.nil)
 (HS.cons (HS1.ite (HB.boolOp (HBs.or (HB.cmp ok_notInL (HE.len G rfl (HL.cons (HE.name rfl rfl) HL.nil rfl) rfl) (HE.list (HL.cons HE.int (HL.cons HE.int HL.nil rfl) rfl)) rfl) (HBs.or (HB.not (HB.val (HE.callAt G h__law_both_changed (by decide) rfl rfl (HL.cons (HE.name rfl rfl) (HL.cons (HE.name rfl rfl) (HL.cons (HE.name rfl rfl) (HL.cons (HE.name rfl rfl) HL.nil rfl) rfl) rfl) rfl) rfl) (fun _ _ => rfl))) HBs.orNil))) (HS.cons (HS1.ret HE.bool)
 HS.nil) HS.nil)
 HS.nil)) (fun _ _ => rfl))
 (HS.cons (HS1.ite (HB.cmp (ok_neD G.ok) (HE.name rfl rfl) (HE.name rfl rfl) rfl) (HS.cons (HS1.ret HE.bool)
 HS.nil) HS.nil)
 (HS.cons (HS1.expr (HE.clear (HE.name rfl rfl) HL.nil rfl (fun _ => rfl) rfl (by decide)) (fun _ _ => rfl))
 HS.nil)))) (fun _ _ => rfl))
 (HS.cons (HS1.ret (HE.boolOp (HVs.and (HE.cmp (ok_eqD G.ok) (HE.tup (HL.cons (HE.name rfl rfl) (HL.cons (HE.name rfl rfl) (HL.cons (HE.name rfl rfl) HL.nil rfl) rfl) rfl)) (HE.name rfl rfl) rfl) (HVs.one (HE.cmp (ok_eqD G.ok) (HE.callAt G h_clashes (by decide) rfl rfl (HL.cons (HE.name rfl rfl) (HL.cons (HE.name rfl rfl) (HL.cons (HE.name rfl rfl) HL.nil rfl) rfl) rfl) rfl) (HE.name rfl rfl) rfl)))))
 HS.nil)))))))
theorem f_law {C : Cx} (G : Gl C Hd.vw) (hz : C.held = none)  (h__law_elder : FnAt C 4 "_law_elder" (sp__law_elder C.ns)) (h__law_side : FnAt C 4 "_law_side" (sp__law_side C.ns)) (h__law_due : FnAt C 1 "_law_due" (sp__law_due C.ns)) (h_clashes : FnAt C 4 "clashes" (sp_clashes C.ns)) (h__law_both_changed : FnAt C 0 "_law_both_changed" (sp__law_both_changed C.ns)) (hspec : ∀ vs σ Q, sp_law C.ns vs σ Q → vs.length = 1 ∧ T_law C.ns (bindM ["_law_script"] vs none') σ (fin Q)) : FnAt C 5 "law" (sp_law C.ns) :=
 FnAt.mk (xs := ["_law_script"]) G 18 18 rfl rfl rfl rfl rfl (fun ws pm code doc h => by
  obtain ⟨w0, rfl⟩ := len1 h
  rfl) rfl (b_law G hz  h__law_elder h__law_side h__law_due h_clashes h__law_both_changed) hspec
end Mine
end
noncomputable section
set_option maxRecDepth 10000
namespace Mine
open PySem PySem.W PyProof.Rows PySem.Calls
section
variable {ns : List Int} {σ : View} {Q : V → View → Prop}
@[simp] theorem sp_cell {k : Int} : sp__law_cell_at ns [.script, .int k] σ Q = (0 ≤ k ∧ Q (.int (cell ns k)) σ) := propext ⟨fun ⟨_, e, h, q⟩ => by cases e; exact ⟨h, q⟩, fun h => ⟨_, rfl, h.1, h.2⟩⟩
@[simp] theorem sp_sign {k : Int} : sp__law_sign_by ns [.int k] σ Q = Q (.str (signBy k)) σ := propext ⟨fun ⟨_, e, q⟩ => by cases e; exact q, fun h => ⟨_, rfl, h⟩⟩
@[simp] theorem sp_name {c n : Int} : sp__law_name_by ns [.int c, .int n] σ Q = (∀ (x : Str) σ', Grow σ σ' → NT x → x.length ≤ 12 → Q (.str x) σ') := propext ⟨fun ⟨_, _, e, q⟩ => by cases e; exact q, fun h => ⟨_, _, rfl, h⟩⟩
@[simp] theorem sp_pathby {c n : Int} : sp__law_path_by ns [.int c, .int n] σ Q = (∀ (x : Str) σ', Grow σ σ' → NT x → x.length ≤ 200 → Q (.str x) σ') := propext ⟨fun ⟨_, _, e, q⟩ => by cases e; exact q, fun h => ⟨_, _, rfl, h⟩⟩
@[simp] theorem sp_line {c n : Int} : sp__law_line_by ns [.int c, .int n] σ Q = (∀ (x : Str) σ', Grow σ σ' → Q (.str x) σ') := propext ⟨fun ⟨_, _, e, q⟩ => by cases e; exact q, fun h => ⟨_, _, rfl, h⟩⟩
end
theorem s_cell (ns : List Int) : ∀ vs σ Q, sp__law_cell_at ns vs σ Q → vs.length = 2 ∧ T__law_cell_at ns (bindM ["_law_script", "_law_k"] vs none') σ (fin Q) := by
 rintro vs σ Q ⟨k, rfl, hk, q⟩
 refine ⟨rfl, ?_⟩
 simp [T__law_cell_at, T__law_cell_at_1, T__law_cell_at_2, seq_eq]
 split
 ·rename_i h; exact cell_item hk h q
 ·rename_i h; rw [cell_out hk h] at q; exact q
theorem item_mod {x : Str} {k m : Int} {ns : List Int} {σ : View} {Q : V → View → Prop} (hm : (x.length : Int) = m) (h0 : 0 < m) (hz : x.length < 16777217) (q : ∀ y : Str, y.length = 1 → Q (.str y) σ) : opItem ns (.str x) (.int (k % m)) σ Q := by
 have a1 := Int.emod_nonneg k (b := m) (by exact Int.ne_of_gt h0)
 have a2 := Int.emod_lt_of_pos k h0
 generalize k % m = r at a1 a2 ⊢
 have hr : r.toNat < (cl x).length := by rw [← cl_len]; omega
 exact item_str hz a1 (List.getElem?_eq_getElem hr) (q _ rfl)
noncomputable def code (k : Int) : Nat := (cl ALS).getD (k % 65).toNat 0
theorem als_len : (cl ALS).length = 65 := by decide +kernel
theorem s_sign (ns : List Int) : ∀ vs σ Q, sp__law_sign_by ns vs σ Q → vs.length = 1 ∧ T__law_sign_by ns (bindM ["_law_k"] vs none') σ (fin Q) := by
 rintro vs σ Q ⟨k, rfl, q⟩
 refine ⟨rfl, ?_⟩
 have h0 : 0 ≤ k % 65 := Int.emod_nonneg _ (by decide)
 have h1 : k % 65 < 65 := Int.emod_lt_of_pos _ (by decide)
 simp [T__law_sign_by, T__law_sign_by_1, seq_eq]
 refine item_str (by decide +kernel) h0 (c := (cl ALS).getD (k % 65).toNat 0) ?_ q
 show (cl ALS)[(k % 65).toNat]? = _
 rw [List.getD_eq_getElem?_getD, List.getElem?_eq_getElem (by rw [als_len]; omega)]
 rfl
theorem len_append (x y : Str) : (x ++ y).length = x.length + y.length := by rw [cl_len, cl_append, List.length_append, ← cl_len, ← cl_len]
theorem e_len : (Str.ofString "").length = 0 := by decide +kernel
noncomputable def noPair (x y : Nat) : Bool := !(x == 116 && y == 111) && !(x == 111 && y == 112) && !(x == 112 && y == 115)
theorem code_pairs : ((List.range 65).all fun r => noPair ((cl ALS).getD r 0) ((cl ALS).getD ((r + 7) % 65) 0)) = true := by decide +kernel
theorem code_step (k : Int) : noPair (code k) (code (k + 7)) = true := by
 have h0 : 0 ≤ k % 65 := Int.emod_nonneg _ (by decide)
 have h1 : k % 65 < 65 := Int.emod_lt_of_pos _ (by decide)
 have e : ((k + 7) % 65).toNat = ((k % 65).toNat + 7) % 65 := by omega
 have := List.all_eq_true.mp code_pairs (k % 65).toNat (List.mem_range.mpr (by omega))
 unfold code
 rw [e]; exact this
noncomputable def StepL (L : List Nat) : Prop := ∀ (i : Nat) x y, L[i]? = some x → L[i + 1]? = some y → noPair x y = true
theorem tops_get {l : List Nat} (h : l.take 4 = TOPS) : l[0]? = some 116 ∧ l[1]? = some 111 ∧ l[2]? = some 112 ∧ l[3]? = some 115 := by
 have g : ∀ i, i < 4 → l[i]? = TOPS[i]? := fun i hi => by rw [← h, List.getElem?_take_of_lt hi]
 exact ⟨g 0 (by decide), g 1 (by decide), g 2 (by decide), g 3 (by decide)⟩
theorem nt_pre {L : List Nat} (h : StepL L) (b : Nat) : (L.take b).take 4 ≠ TOPS := fun e => by
 obtain ⟨e0, e1, _, _⟩ := tops_get e
 rw [List.getElem?_take] at e0 e1
 split at e0 <;> split at e1 <;> first | cases e0 | cases e1 | skip
 exact absurd (h 0 _ _ e0 e1) (by decide)
theorem nt_ins {L : List Nat} (h : StepL L) (a t b : Nat) (ha : a ≤ L.length) : (L.take a ++ t :: (L.drop a).take b).take 4 ≠ TOPS := fun e => by
 obtain ⟨e0, e1, e2, e3⟩ := tops_get e
 have lt : (L.take a).length = a := by rw [List.length_take]; exact Nat.min_eq_left ha
 have back : ∀ (i x : Nat), (L.take a ++ t :: (L.drop a).take b)[a + 1 + i]? = some x → L[a + i]? = some x := fun i x e => by
  rw [List.getElem?_append_right (by exact Nat.le_of_not_lt fun hg => lin [a, ((List.take a L).length), i] [(1, (.v 1), (.v 0)), (1, (.a (.a (.a (.v 0) (.n 1)) (.v 2)) (.n 1)), (.v 1))] rfl (Nat.le_of_eq lt) hg), lt, show a + 1 + i - a = i + 1 by exact Nat.le_antisymm (Nat.le_of_not_lt fun hg => lin [a, (a + 1 + i - a), i] [(1, (.a (.v 1) (.v 0)), (.a (.a (.v 0) (.n 1)) (.v 2))), (1, (.a (.a (.v 2) (.n 1)) (.n 1)), (.v 1))] rfl (sub_hi (Nat.le_of_not_lt fun hg => lin [a, i] [(1, (.a (.a (.a (.v 0) (.n 1)) (.v 1)) (.n 1)), (.v 0))] rfl hg)) hg) (Nat.le_of_not_lt fun hg => lin [a, (a + 1 + i - a), i] [(1, (.a (.a (.v 0) (.n 1)) (.v 2)), (.a (.v 1) (.v 0))), (1, (.a (.v 1) (.n 1)), (.a (.v 2) (.n 1)))] rfl (sub_lo (a + 1 + i) (a)) hg), List.getElem?_cons_succ, List.getElem?_take] at e
  split at e
  ·rw [List.getElem?_drop] at e; exact e
  ·cases e
 have front : ∀ (i x : Nat), i < a → (L.take a ++ t :: (L.drop a).take b)[i]? = some x → L[i]? = some x := fun i x hi e => by
  rw [List.getElem?_append_left (by exact Nat.le_trans hi (Nat.le_of_eq lt.symm)), List.getElem?_take_of_lt hi] at e; exact e
 match a, back, front with
 | 0, back, _ => exact absurd (h 0 _ _ (back 0 _ e1) (back 1 _ e2)) (by decide)
 | 1, back, _ => exact absurd (h 1 _ _ (back 0 _ e2) (back 1 _ e3)) (by decide)
 | a + 2, _, front => exact absurd (h 0 _ _ (front 0 _ (by exact Nat.succ_pos _) e0) (front 1 _ (by exact Nat.le_add_left _ _) e1)) (by decide)
theorem join_codes : ∀ (ks : List Int), cl (Str.join (Str.ofString "") (ks.map signBy)) = ks.map code
 | [] => by decide +kernel
 | [k] => rfl
 | k :: k' :: ks => by
  have ih := join_codes (k' :: ks)
  have e : Str.join (Str.ofString "") ((k :: k' :: ks).map signBy) = signBy k ++ Str.ofString "" ++ Str.join (Str.ofString "") ((k' :: ks).map signBy) := rfl
  have e0 : cl (Str.ofString "") = [] := by decide +kernel
  rw [e, cl_append, cl_append, e0, ih]; rfl
theorem cut_map {α β : Type} (f : α → β) (l : List α) (lo hi : Option Int) : pyCut (l.map f) lo hi = (pyCut l lo hi).map f := by
 unfold pyCut; rw [List.length_map, List.map_take, List.map_drop]
theorem sign_len (k : Int) : (signBy k).length = 1 := rfl
theorem sum_signs : ∀ (ks : List Int), ((ks.map signBy).map (·.length)).sum = ks.length
 | [] => rfl
 | k :: ks => by rw [List.map_cons, List.map_cons, List.sum_cons, sum_signs ks, sign_len]; exact Nat.add_comm _ _
theorem cut_join {ns : List Int} {σ : View} {a : Addr} {ks : List Int} {lo hi : Option Int} {Q : V → View → Prop} (ha : σ a = some (.list ((ks.map signBy).map .str))) (hl : ks.length ≤ 1000)
  (q : ∀ (x : Str) σ', Grow σ σ' → cl x = (pyCut ks lo hi).map code → Q (.str x) σ') : opCut ns lo hi (.ref a) σ fun v σ' => spJoin [.str (Str.ofString ""), v] σ' Q := by
 refine cut_list ha fun b hb => ?_
 rw [cut_map, cut_map]
 have h2 := cut_len ks lo hi
 refine join_list (ys := (pyCut ks lo hi).map signBy) (upd_same _ _ _) (by rw [e_len, sum_signs]; simp; exact Nat.le_trans (Nat.le_trans h2 hl) (by decide)) ?_
 exact q _ _ (Grow.refl.upd hb) (join_codes _)
theorem cut_both {α : Type} (l : List α) {a b : Int} (h0 : 0 ≤ a) (h1 : a ≤ b) (h2 : b ≤ l.length) : pyCut l (some a) (some b) = (l.drop a.toNat).take (b - a).toNat := by
 unfold pyCut clip
 simp only [Option.elim]
 obtain ⟨m, rfl⟩ := Int.eq_ofNat_of_zero_le h0
 obtain ⟨k, rfl⟩ := Int.eq_ofNat_of_zero_le (Int.le_trans h0 h1)
 have h1' : m ≤ k := Int.ofNat_le.mp h1
 have h2' : k ≤ l.length := Int.ofNat_le.mp h2
 have e : ((k : Int) - (m : Int)).toNat = k - m := by rw [← Int.ofNat_sub h1']; rfl
 rw [clip_nat h0, clip_nat (Int.natCast_nonneg _), Int.toNat_natCast, Int.toNat_natCast, Nat.min_eq_left h2', Nat.min_eq_left (Nat.le_trans h1' h2'), e]
end Mine
end
noncomputable section
set_option maxRecDepth 10000
namespace Mine
open PySem PySem.W PyProof.Rows PySem.Calls
theorem list_of_get {α : Type} {ys : List α} {f : Nat → α} (h : ∀ (i : Nat) y, ys[i]? = some y → y = f i) : ys = (List.range ys.length).map f := by
 refine List.ext_getElem? fun i => ?_
 rw [List.getElem?_map]
 cases e : ys[i]? with
 | none =>
  rw [List.getElem?_eq_none_iff] at e
  rw [List.getElem?_eq_none (by rw [List.length_range]; exact e)]; rfl
 | some y =>
  have hi := (List.getElem?_eq_some_iff.mp e).1
  rw [List.getElem?_range hi, h i y e]; rfl
theorem step_codes {B : Int} (n : Nat) : StepL (((List.range n).map fun i : Nat => B + 7 * (i : Int)).map code) := fun i x y hx hy => by
 rw [List.map_map, List.getElem?_map] at hx hy
 obtain ⟨a, ha, rfl⟩ := Option.map_eq_some_iff.mp hx
 obtain ⟨b, hb, rfl⟩ := Option.map_eq_some_iff.mp hy
 have ha' : i < n := by have := (List.getElem?_eq_some_iff.mp ha).1; rwa [List.length_range] at this
 have hb' : i + 1 < n := by have := (List.getElem?_eq_some_iff.mp hb).1; rwa [List.length_range] at this
 rw [List.getElem?_range ha'] at ha
 rw [List.getElem?_range hb'] at hb
 cases ha; cases hb
 show noPair (code (B + 7 * (i : Int))) (code (B + 7 * ((i + 1 : Nat) : Int))) = true
 rw [show B + 7 * ((i + 1 : Nat) : Int) = B + 7 * (i : Int) + 7 by omega]
 exact code_step _
theorem name_len {A sz : Int} {p r : Nat} (h0 : 0 ≤ A) (h1 : A < sz) (h2 : sz ≤ 12) (hp : p ≤ A.toNat) (hr : r ≤ (sz - 1 - A).toNat) : p + 1 + r ≤ 12 := by omega
theorem s_name (ns : List Int) : ∀ vs σ Q, sp__law_name_by ns vs σ Q → vs.length = 2 ∧ T__law_name_by ns (bindM ["_law_k", "_law_shift"] vs none') σ (fin Q) := by
 rintro vs σ Q ⟨kk, sh, rfl, q⟩
 refine ⟨rfl, ?_⟩
 unfold T__law_name_by
 rw [seq_eq]
 simp [T__law_name_by_1]
 have done : ∀ (m : Loc) (σ' : View) (x : Str), Grow σ σ' → m "_law_name" = some (.str x) → NT x → x.length ≤ 12 → sSeq (T__law_name_by_9 ns) (sSeq (T__law_name_by_10 ns) sNil) m σ' (fin Q) := by
  intro m σ' x g hm hi l2
  rw [seq_eq]
  simp [T__law_name_by_9, T__law_name_by_10, seq_eq, hm]
  have e0 : NT (Str.ofString "0x") := by unfold NT; decide +kernel
  have e1 : (Str.ofString "0x").length ≤ 12 := by decide +kernel
  by_cases n1 : x = Str.ofString "."
  ·simpa [n1] using q _ _ g e0 e1
  by_cases n2 : x = Str.ofString ".."
  ·simpa [n1, n2] using q _ _ g e0 e1
  simpa [n1, n2] using q _ _ g hi l2
 have rest : ∀ (m : Loc) (sz : Int), 1 ≤ sz → sz ≤ 12 → m "_law_k" = some (.int kk) → m "_law_shift" = some (.int sh) → m "_law_size" = some (.int sz) →
   sSeq (T__law_name_by_3 ns) (sSeq (T__law_name_by_4 ns) (sSeq (T__law_name_by_5 ns) (sSeq (T__law_name_by_6 ns) (sSeq (T__law_name_by_7 ns) (sSeq (T__law_name_by_8 ns) (sSeq (T__law_name_by_9 ns) (sSeq (T__law_name_by_10 ns) sNil))))))) m σ (fin Q) := by
  intro m sz z1 z2 hk hs hz
  rw [seq_eq]
  simp [T__law_name_by_3, hs]
  generalize sh / 5 % 4 = wy
  rw [seq_eq]
  simp [T__law_name_by_4]
  refine compL_all (fun σ' => σ' = σ) (fun i y => y = .str (signBy (sh / 195 + kk * (if wy = 0 then 1 else 0) + 7 * (i : Int)))) (fun _ _ => trivial) _ [] 0 _ _ (by simp [range_len]) ?_ rfl ?_
  ·rintro i v hv σ' Q' rfl nx
   obtain ⟨hi, rfl⟩ := range_get hv
   refine ⟨_, rfl, ?_⟩
   simp [hk, hs]
   refine ⟨.inl (by unfold Short; decide), ⟨.inr (by unfold Short; split <;> decide), ?_⟩⟩
   refine nx _ _ rfl ?_
   rw [Nat.zero_add, Int.add_right_comm]
  ·rintro ys σ' rfl hl hys a ha
   have hy := list_of_get fun i y e => by simpa using hys i y e
   rw [hl, range_len] at hy
   generalize sh / 195 + kk * (if wy = 0 then 1 else 0) = B at hy
   obtain ⟨ks, hks⟩ : ∃ ks, ks = (List.range 12).map fun i : Nat => B + 7 * (i : Int) := ⟨_, rfl⟩
   have hL : StepL (ks.map code) := by rw [hks]; exact step_codes 12
   have hkl : ks.length = 12 := by rw [hks]; simp
   have hy2 : ys = (ks.map signBy).map .str := by rw [hy, hks, List.map_map, List.map_map]; rfl
   clear hy hks hys hl
   subst hy2
   rw [List.nil_append]
   have xa := upd_same σ' a (.list ((ks.map signBy).map .str))
   have g0 : Grow σ' (upd σ' a (.list ((ks.map signBy).map .str))) := Grow.refl.upd ha
   generalize (upd σ' a (.list ((ks.map signBy).map .str))) = σ₁ at xa g0 ⊢
   rw [seq_eq]
   have c1 := Int.emod_nonneg (sh / 20) (b := sz) (by exact Int.ne_of_gt z1)
   have c2 := Int.emod_lt_of_pos (sh / 20) (b := sz) (by exact z1)
   simp [T__law_name_by_5, hs, hz]
   refine ⟨by exact z1, .inr (by unfold Short; split <;> decide), ?_⟩
   obtain ⟨at', hat, d1, d2⟩ : ∃ at', sh / 20 % sz * (if wy = 1 then 1 else 0) = at' ∧ 0 ≤ at' ∧ at' < sz := by
    refine ⟨_, rfl, ?_, ?_⟩
    ·split <;> omega
    ·split <;> omega
   rw [hat]
   rw [seq_eq]
   simp [T__law_name_by_6, hs, hk]
   intro b hb
   have hab : a ≠ b := by rintro rfl; rw [xa] at hb; cases hb
   have xa2 : upd σ₁ b (.list [.int 1, .int 26]) a = some (.list ((ks.map signBy).map .str)) := by rw [upd_ne hab]; exact xa
   have g1 := g0.upd (o := .list [.int 1, .int 26]) hb
   have xb := upd_same σ₁ b (.list [.int 1, .int 26])
   generalize (upd σ₁ b (.list [.int 1, .int 26])) = σ₂ at xa2 g1 xb ⊢
   have hk12 : ks.length ≤ 1000 := by rw [hkl]; decide
   have go : ∀ k : Int, sSeq (T__law_name_by_7 ns) (sSeq (T__law_name_by_8 ns) (sSeq (T__law_name_by_9 ns) (sSeq (T__law_name_by_10 ns) sNil)))
     (put (put (put (put m "_law_way" (.int wy)) "_law_rest" (.ref a)) "_law_at" (.int at')) "_law_told" (.str (signBy k))) σ₂ (fin Q) := by
    intro k
    rw [seq_eq]
    simp [T__law_name_by_7]
    refine cut_join xa2 hk12 fun x1 σ₃ g3 l1 => ?_
    rw [cut_take _ d1, List.map_take] at l1
    have n1 : x1.length ≤ at'.toNat := by rw [cl_len, l1, List.length_take]; exact Nat.min_le_left ..
    simp [hz]
    refine ⟨by rw [sign_len]; exact Nat.le_trans (name_len d1 d2 z2 n1 (Nat.zero_le _)) (by decide), ?_⟩
    refine cut_join (g3 _ _ xa2) hk12 fun x2 σ₄ g4 l2 => ?_
    rw [cut_both _ d1 (by omega) (by omega), List.map_take, List.map_drop] at l2
    have n2 : x2.length ≤ (sz - 1 - at').toNat := by rw [cl_len, l2, List.length_take]; exact Nat.min_le_left ..
    have k2 := name_len d1 d2 z2 n1 n2
    have tl2 : (x1 ++ signBy k).length = x1.length + 1 := by rw [len_append, sign_len]
    simp
    refine ⟨by rw [tl2]; exact Nat.le_trans k2 (by decide), ?_⟩
    have g5 := (g1.trans g3).trans g4
    have xa4 := g4 _ _ (g3 _ _ xa2)
    rw [seq_eq]
    simp [T__law_name_by_8, seq_eq]
    split
    ·simp [hs, hk]
     refine cut_join xa4 hk12 fun x3 σ₅ g6 l3 => ?_
     have f1 := Int.emod_nonneg (sh / 65 + kk) (b := 12) (by decide)
     rw [cut_take _ (Int.add_nonneg (by decide) f1), List.map_take] at l3
     refine done _ _ x3 (g5.trans g6) (by simp) (by unfold NT; rw [l3]; exact nt_pre hL _) ?_
     rw [cl_len, l3, List.length_take, List.length_map, hkl]
     exact Nat.min_le_right ..
    ·refine done _ _ (x1 ++ signBy k ++ x2) g5 (by simp) ?_ (by rw [len_append, tl2]; exact k2)
     unfold NT
     rw [cl_append, cl_append, l1, l2, List.append_assoc]
     exact nt_ins hL _ _ _ (by rw [List.length_map, hkl]; omega)
   by_cases w3 : wy = 3
   ·simp [w3]
    refine item_list (v := .int 26) xb (by decide) rfl ?_
    simp
    refine ⟨.inr (by unfold Short; decide), ?_⟩
    have := go (sh + kk * 26)
    simpa [w3] using this
   ·simp [w3]
    refine item_list (v := .int 1) xb (by decide) rfl ?_
    simp
    refine ⟨.inr (by unfold Short; decide), ?_⟩
    have := go (sh + kk)
    simpa [w3] using this
 rw [seq_eq]
 simp [T__law_name_by_2]
 have b1 := Int.emod_nonneg (sh / 195) (b := 12) (by decide)
 have b2 := Int.emod_lt_of_pos (sh / 195) (b := 12) (by decide)
 split
 ·simp [seq_eq]
  generalize sh / 195 % 12 = r at b1 b2 ⊢
  exact rest _ (1 + r) (by omega) (by omega) (by simp) (by simp) (by simp)
 ·exact rest _ 1 (by decide) (by decide) (by simp) (by simp) (by simp)
end Mine
end
noncomputable section
set_option maxRecDepth 10000
namespace Mine
open PySem PySem.W PyProof.Rows PySem.Calls
theorem Grow.over {σ σ' : View} {b : Addr} {o : AObj} (g : Grow σ σ') (hb : σ b = Option.none) : Grow σ (Mine.upd σ' b o) := fun c o' e => by
 rw [upd_ne (by rintro rfl; rw [hb] at e; cases e)]; exact g c o' e
noncomputable def Nm (x : Str) : Prop := NT x ∧ x.length ≤ 12
theorem nt_slash {l r : List Nat} (h : l.take 4 ≠ TOPS) : (l ++ 47 :: r).take 4 ≠ TOPS := fun e => by
 obtain ⟨e0, e1, e2, e3⟩ := tops_get e
 by_cases h4 : 4 ≤ l.length
 ·rw [List.take_append_of_le_length h4] at e; exact h e
 ·have z : (l ++ 47 :: r)[l.length]? = some 47 := by rw [List.getElem?_append_right (Nat.le_refl _), Nat.sub_self]; rfl
  have : l.length = 0 ∨ l.length = 1 ∨ l.length = 2 ∨ l.length = 3 := by omega
  rcases this with k | k | k | k <;> rw [k] at z
  ·rw [e0] at z; cases z
  ·rw [e1] at z; cases z
  ·rw [e2] at z; cases z
  ·rw [e3] at z; cases z
theorem sl_cl : cl (Str.ofString "/") = [47] := by decide +kernel
theorem nt_join : ∀ {xs : List Str}, xs ≠ [] → (∀ x ∈ xs, Nm x) → NT (Str.join (Str.ofString "/") xs)
 | [x], _, h => (h x (.head _)).1
 | x :: y :: r, _, h => by
  have e : Str.join (Str.ofString "/") (x :: y :: r) = x ++ Str.ofString "/" ++ Str.join (Str.ofString "/") (y :: r) := rfl
  unfold NT
  rw [e, cl_append, cl_append, sl_cl, List.append_assoc]
  exact nt_slash (h x (.head _)).1
theorem sum_le {n : Nat} : ∀ (l : List Str), (∀ y ∈ l, y.length ≤ n) → (l.map (·.length)).sum ≤ l.length * n
 | [], _ => by simp
 | y :: r, h => by
  have h1 := h y (.head _)
  have h2 := sum_le r fun z hz => h z (.tail _ hz)
  rw [List.map_cons, List.sum_cons, List.length_cons, Nat.succ_mul, Nat.add_comm]
  exact Nat.add_le_add h2 h1
theorem strs_all {P : Str → Prop} : ∀ (ys : List V), (∀ (i : Nat) y, ys[i]? = some y → ∃ x, P x ∧ y = .str x) → ∃ xs : List Str, ys = xs.map .str ∧ ∀ x ∈ xs, P x
 | [], _ => ⟨[], rfl, by simp⟩
 | y :: r, h => by
  obtain ⟨x, hx, rfl⟩ := h 0 y rfl
  obtain ⟨xs, rfl, hxs⟩ := strs_all r fun i z e => h (i + 1) z (by simpa using e)
  exact ⟨x :: xs, rfl, by intro z hz; rcases List.mem_cons.mp hz with rfl | hz; exact hx; exact hxs z hz⟩
theorem parts_loop {ns : List Int} {m₀ : Loc} {σ σ₀ : View} {a : Addr} {c sh : Int} {xs₀ : List Str} {N : Nat} {Q : Fl → Loc → View → Prop} (hN : N ≤ 3) (mc : m₀ "_law_cell" = some (.int c)) (ms : m₀ "_law_shift" = some (.int sh)) (mp : m₀ "_law_parts" = some (.ref a))
  (ha : σ a = Option.none) (g : Grow σ σ₀) (xa : σ₀ a = some (.list (xs₀.map .str))) (hx : ∀ x ∈ xs₀, Nm x) (hl : xs₀.length ≤ 5)
  (h : ∀ m σ' (xs : List Str), Grow σ σ' → σ' a = some (.list (xs.map .str)) → (∀ x ∈ xs, Nm x) → xs.length = xs₀.length + N → (∀ y, y ≠ "_law_j" → m y = m₀ y) → Q .next m σ') :
  forL (.name "_law_j") (fun _ => True) (sSeq (sExpr (eMeth tyList spAppend (eName "_law_parts") (lCons (eCall (sp__law_name_by ns) (lCons (eBin opMod (eBin opDiv (eBin opDiv (eName "_law_cell") (eVal (.int 5))) (eBin (opItem ns) (eList (lCons (eVal (.int 1)) (lCons (eVal (.int 3)) (lCons (eVal (.int 9)) lNil)))) (eName "_law_j"))) (eVal (.int 3))) (lCons (eName "_law_shift") lNil))) lNil))) sNil) (rangeL 0 N) m₀ σ₀ Q := by
 refine forL_inv (fun i m σ' => Grow σ σ' ∧ (∃ xs : List Str, σ' a = some (.list (xs.map .str)) ∧ (∀ x ∈ xs, Nm x) ∧ xs.length = xs₀.length + i) ∧ ∀ y, y ≠ "_law_j" → m y = m₀ y) (fun _ _ _ => False) (fun _ _ _ _ => trivial) _ ?_ ?_ (fun _ _ _ h => h.elim) _ _ ⟨g, ⟨xs₀, xa, hx, rfl⟩, fun _ _ => rfl⟩
 ·rintro i v m σ' Q' hv ⟨g1, ⟨xs, x1, x2, x3⟩, ho⟩ n1 n2 n3
  obtain ⟨hi, rfl⟩ := range_get hv
  refine ⟨_, rfl, ?_⟩
  have e1 := (ho _ (by decide)).trans mc
  have e2 := (ho _ (by decide)).trans ms
  have e3 := (ho _ (by decide)).trans mp
  have fin : ∀ σ₁ : View, Grow σ' σ₁ → ∀ (x : Str) σ₂, Grow σ₁ σ₂ → NT x → x.length ≤ 12 → spAppend [.ref a, .str x] σ₂ fun _ σ₃ => Q' .next (put m "_law_j" (.int i)) σ₃ := by
   intro σ₁ g2 x σ₂ g3 hn hl2
   have x4 := g3 _ _ (g2 _ _ x1)
   refine append_list x4 (by simp; exact Nat.lt_of_not_le fun hg => lin [N, (xs₀.length), (xs.length), i] [(1, (.v 0), (.n 3)), (1, (.v 1), (.n 5)), (1, (.v 2), (.a (.v 1) (.v 3))), (1, (.a (.v 3) (.n 1)), (.v 0)), (1, (.n 16777216), (.v 2))] rfl hN hl (Nat.le_of_eq x3) hi hg) (n1 _ _ ⟨((g1.trans g2).trans g3).over ha, ⟨xs ++ [x], by simp, ?_, by simp; exact congrArg (· + 1) x3⟩, fun y hy => by simp [hy]; exact ho y hy⟩)
   intro y hy
   rcases List.mem_append.mp hy with hy | hy
   ·exact x2 y hy
   ·rw [List.mem_singleton.mp hy]; exact ⟨hn, hl2⟩
  simp [seq_eq, e3, tyList_ref x1, e1]
  intro b hb
  have hj3 : i = 0 ∨ i = 1 ∨ i = 2 := by omega
  rcases hj3 with rfl | rfl | rfl
  ·refine item_list (v := .int 1) (upd_same _ _ _) (by decide) rfl ?_
   simp [e2]
   exact fin _ (Grow.refl.upd hb)
  ·refine item_list (v := .int 3) (upd_same _ _ _) (by decide) rfl ?_
   simp [e2]
   exact fin _ (Grow.refl.upd hb)
  ·refine item_list (v := .int 9) (upd_same _ _ _) (by decide) rfl ?_
   simp [e2]
   exact fin _ (Grow.refl.upd hb)
 ·rintro m σ' ⟨g1, ⟨xs, x1, x2, x3⟩, ho⟩
  rw [range_len] at x3
  exact h m σ' xs g1 x1 x2 x3 ho
theorem s_pathby (ns : List Int) : ∀ vs σ Q, sp__law_path_by ns vs σ Q → vs.length = 2 ∧ T__law_path_by ns (bindM ["_law_cell", "_law_shift"] vs none') σ (fin Q) := by
 rintro vs σ Q ⟨c, sh, rfl, q⟩
 refine ⟨rfl, ?_⟩
 unfold T__law_path_by
 have jn : ∀ (m : Loc) (σ' : View) (a : Addr) (xs : List Str), m "_law_parts" = some (.ref a) → Grow σ σ' → σ' a = some (.list (xs.map .str)) → xs ≠ [] → xs.length ≤ 8 → (∀ x ∈ xs, Nm x) → sSeq (T__law_path_by_5 ns) sNil m σ' (fin Q) := by
  intro m σ' a xs hm g ha h0 h7 hx
  have hs := sum_le xs fun y hy => (hx y hy).2
  have hj := join_len_le xs
  unfold joinLen at hj
  rw [seq_eq]
  simp [T__law_path_by_5, hm]
  refine join_list ha (by rw [sl_len]; omega) ?_
  exact q _ _ g (nt_join h0 hx) (by omega)
 have mid : ∀ (m : Loc) (σ' : View) (a : Addr) (xs : List Str), m "_law_cell" = some (.int c) → m "_law_shift" = some (.int sh) → m "_law_parts" = some (.ref a) → σ a = Option.none → Grow σ σ' → σ' a = some (.list (xs.map .str)) → xs.length ≤ 5 → (∀ x ∈ xs, Nm x) →
   sSeq (T__law_path_by_3 ns) (sSeq (T__law_path_by_4 ns) (sSeq (T__law_path_by_5 ns) sNil)) m σ' (fin Q) := by
  intro m σ' a xs mc ms mp ha g xa hl hx
  have go : ∀ (N : Nat) (σ₁ : View), 1 ≤ N → N ≤ 3 → Grow σ' σ₁ → forL (.name "_law_j") (fun _ => True) (sSeq (sExpr (eMeth tyList spAppend (eName "_law_parts") (lCons (eCall (sp__law_name_by ns) (lCons (eBin opMod (eBin opDiv (eBin opDiv (eName "_law_cell") (eVal (.int 5))) (eBin (opItem ns) (eList (lCons (eVal (.int 1)) (lCons (eVal (.int 3)) (lCons (eVal (.int 9)) lNil)))) (eName "_law_j"))) (eVal (.int 3))) (lCons (eName "_law_shift") lNil))) lNil))) sNil) (rangeL 0 N) m σ₁ (kont (sSeq (T__law_path_by_4 ns) (sSeq (T__law_path_by_5 ns) sNil)) (fin Q)) := by
   intro N σ₁ h1 h3 g1
   refine parts_loop h3 mc ms mp ha (g.trans g1) (g1 _ _ xa) hx hl fun m₂ σ₂ zs g2 xz hz lz ho => ?_
   have hne : zs ≠ [] := by rintro rfl; simp at lz; exact lin [(xs.length), N] [(1, (.n 1), (.v 1)), (1, (.a (.v 0) (.v 1)), (.n 0))] rfl h1 (Nat.le_of_eq (Eq.symm lz))
   have y1 := (ho _ (by decide)).trans mc
   have y2 := (ho _ (by decide)).trans ms
   have y3 := (ho _ (by decide)).trans mp
   rw [kont_next, seq_eq]
   simp [T__law_path_by_4, y1, y2]
   split
   ·split
    ·rw [seq_eq]
     simp [len_list xz, y1, y3]
     have hpos : 0 < zs.length := List.length_pos_iff.mpr hne
     have k1 := Int.emod_nonneg (c / 13) (b := (zs.length : Int)) (by omega)
     refine ⟨hpos, cut_list xz fun e he => ?_⟩
     rw [cut_take _ (Int.add_nonneg (by decide) k1), ← List.map_take]
     exact jn _ _ e _ (by simp) (g2.upd he) (upd_same _ _ _) (by intro e; have := congrArg List.length e; rw [List.length_take, List.length_nil] at this; omega) (by rw [List.length_take]; omega) (fun x h => hz x (List.mem_of_mem_take h))
    ·exact jn _ _ a _ y3 g2 xz hne (by exact Nat.le_of_not_lt fun hg => lin [(xs.length), N, (zs.length)] [(1, (.v 0), (.n 5)), (1, (.v 1), (.n 3)), (1, (.v 2), (.a (.v 0) (.v 1))), (1, (.a (.n 8) (.n 1)), (.v 2))] rfl hl h3 (Nat.le_of_eq lz) hg) hz
   ·exact jn _ _ a _ y3 g2 xz hne (by exact Nat.le_of_not_lt fun hg => lin [(xs.length), N, (zs.length)] [(1, (.v 0), (.n 5)), (1, (.v 1), (.n 3)), (1, (.v 2), (.a (.v 0) (.v 1))), (1, (.a (.n 8) (.n 1)), (.v 2))] rfl hl h3 (Nat.le_of_eq lz) hg) hz
  rw [seq_eq]
  have m1 := Int.emod_nonneg c (b := 5) (by decide)
  have m2 := Int.emod_lt_of_pos c (b := 5) (by decide)
  simp [T__law_path_by_3, mc]
  intro b hb
  generalize c % 5 = r at m1 m2 ⊢
  have hr : r = 0 ∨ r = 1 ∨ r = 2 ∨ r = 3 ∨ r = 4 := by omega
  rcases hr with rfl | rfl | rfl | rfl | rfl
  ·exact item_list (v := .int 1) (upd_same _ _ _) (by decide) rfl (by simpa using go 1 _ (by decide) (by decide) (Grow.refl.upd hb))
  ·exact item_list (v := .int 1) (upd_same _ _ _) (by decide) rfl (by simpa using go 1 _ (by decide) (by decide) (Grow.refl.upd hb))
  ·exact item_list (v := .int 2) (upd_same _ _ _) (by decide) rfl (by simpa using go 2 _ (by decide) (by decide) (Grow.refl.upd hb))
  ·exact item_list (v := .int 2) (upd_same _ _ _) (by decide) rfl (by simpa using go 2 _ (by decide) (by decide) (Grow.refl.upd hb))
  ·exact item_list (v := .int 3) (upd_same _ _ _) (by decide) rfl (by simpa using go 3 _ (by decide) (by decide) (Grow.refl.upd hb))
 rw [seq_eq]
 simp [T__law_path_by_1]
 intro a ha
 rw [seq_eq]
 simp [T__law_path_by_2]
 split
 ·rw [seq_eq]
  have f1 := Int.emod_nonneg (sh / 7) (b := 5) (by decide)
  have f2 := Int.emod_lt_of_pos (sh / 7) (b := 5) (by decide)
  simp
  refine ⟨⟨by omega, by omega⟩, ?_⟩
  refine compL_all (fun σ' => Grow σ σ' ) (fun _ y => ∃ x, Nm x ∧ y = .str x) (fun _ _ => trivial) _ [] 0 _ _ (by simp [range_len]; omega) ?_ (Grow.refl.upd ha) ?_
  ·rintro i v hv σ' Q' g nx
   obtain ⟨hi, rfl⟩ := range_get hv
   refine ⟨_, rfl, ?_⟩
   simp
   intro x σ'' g2 h1 h2
   exact nx _ _ (g.trans g2) ⟨x, ⟨h1, h2⟩, rfl⟩
  ·rintro ys σ' g hl hys b hb
   obtain ⟨xs, rfl, hx⟩ := strs_all ys fun i y e => by simpa using hys i y e
   rw [List.length_map, range_len] at hl
   rw [List.nil_append]
   exact mid _ _ b xs (by simp) (by simp) (by simp) (g.none hb) (g.upd hb) (upd_same _ _ _) (by omega) hx
 ·exact mid _ _ a [] (by simp) (by simp) (by simp) ha (Grow.refl.upd ha) (upd_same _ _ _) (by simp) (by simp)
theorem sum_e : ∀ (l : List Str), (∀ y ∈ l, y.length = 1) → (l.map (·.length)).sum = l.length
 | [], _ => rfl
 | y :: r, h => by simp [sum_e r fun z hz => h z (.tail _ hz), h y (.head _)]; exact Nat.add_comm _ _
theorem s_line (ns : List Int) : ∀ vs σ Q, sp__law_line_by ns vs σ Q → vs.length = 2 ∧ T__law_line_by ns (bindM ["_law_k", "_law_shift"] vs none') σ (fin Q) := by
 rintro vs σ Q ⟨kk, sh, rfl, q⟩
 refine ⟨rfl, ?_⟩
 unfold T__law_line_by
 rw [seq_eq]
 simp [T__law_line_by_1]
 rw [seq_eq]
 simp [T__law_line_by_2]
 refine ⟨by decide +kernel, ?_⟩
 have last : ∀ (m : Loc) (n : Int), 0 ≤ n → n ≤ 700 → m "_law_size" = some (.int n) → m "_law_k" = some (.int kk) → m "_law_shift" = some (.int sh) →
   m "_law_some" = some (.str (Str.ofString " !\"#$&'()*+,-./0123456789:;<=>?@ABCDEFGHIJKLMNOPQRSTUVWXYZ[\\]^_`" ++ Str.ofString "abcdefghijklmnopqrstuvwxyz{|}~\n\t")) → sSeq (T__law_line_by_5 ns) sNil m σ (fin Q) := by
  intro m n l1 l2 hz hk hs ho
  rw [seq_eq]
  simp [T__law_line_by_5, hz]
  refine ⟨⟨Int.le_trans (by decide) l1, Int.lt_of_le_of_lt l2 (by decide)⟩, ?_⟩
  refine compL_all (fun s => s = σ) (fun _ y => ∃ x : Str, x.length = 1 ∧ y = .str x) (fun _ _ => trivial) _ [] 0 _ _ (by simp [range_len]; exact Int.le_trans l2 (by decide)) ?_ rfl ?_
  ·rintro i v hv s Q' rfl nx
   obtain ⟨hi, rfl⟩ := range_get hv
   refine ⟨_, rfl, ?_⟩
   simp [ho, hs, hk]
   refine ⟨.inl (by unfold Short; decide), ?_⟩
   exact item_mod (by decide +kernel) (by decide) (by decide +kernel) fun y hy => nx _ _ rfl ⟨y, hy, rfl⟩
  ·rintro ys s rfl hl hys b hb
   obtain ⟨xs, rfl, hx⟩ := strs_all ys fun i y e => by simpa using hys i y e
   rw [List.length_map, range_len] at hl
   rw [List.nil_append]
   refine join_list (ys := xs) (upd_same _ _ _) (by rw [e_len, sum_e xs hx]; omega) ?_
   exact q _ _ (Grow.refl.upd hb)
 have m1 := Int.emod_nonneg kk (b := 4) (by decide)
 have m2 := Int.emod_lt_of_pos kk (b := 4) (by decide)
 have b1 := Int.emod_nonneg sh (b := 60) (by decide)
 have b2 := Int.emod_lt_of_pos sh (b := 60) (by decide)
 have b3 := Int.emod_nonneg (sh / 240) (b := 600) (by decide)
 have b4 := Int.emod_lt_of_pos (sh / 240) (b := 600) (by decide)
 rw [seq_eq]
 simp [T__law_line_by_3]
 rw [seq_eq]
 simp [T__law_line_by_4]
 split
 ·rw [seq_eq]
  simp
  rw [seq_eq]
  simp
  split
  ·rw [seq_eq]
   simp
   exact last _ (3 + sh / 240 % 600) (by exact Int.add_nonneg (by decide) b3) (by omega) (by simp) (by simp) (by simp) (by simp)
  ·exact last _ (3 + sh % 60) (by exact Int.add_nonneg (by decide) b1) (by omega) (by simp) (by simp) (by simp) (by simp)
 ·exact last _ (kk % 4) m1 (by omega) (by simp) (by simp) (by simp) (by simp)
end Mine
end
noncomputable section
set_option maxRecDepth 10000
namespace Mine
open PySem PySem.W PyProof.Rows PySem.Calls
theorem clr_comm (x y : Str) : clr x y = clr y x := by unfold clr; rw [Bool.or_comm]
theorem clr_true {x y : Str} (h1 : ¬ (cl x ++ [47]) <+: cl y) (h2 : ¬ (cl y ++ [47]) <+: cl x) : clr x y = true := by
 have e1 : Txt.startswith y (x ++ Str.ofString "/") = false := by
  rw [← Bool.not_eq_true, starts_iff, cl_append, sl_cl]; exact h1
 have e2 : Txt.startswith x (y ++ Str.ofString "/") = false := by
  rw [← Bool.not_eq_true, starts_iff, cl_append, sl_cl]; exact h2
 unfold clr
 rw [e1, e2]; rfl
theorem clr_self (x : Str) : clr x x = true := by
 have h : ¬ (cl x ++ [47]) <+: cl x := fun e => by have := e.length_le; simp at this; exact False.elim (lin [(x.cps.size)] [(1, (.a (.v 0) (.n 1)), (.v 0))] rfl this)
 exact clr_true h h
theorem top_facts : ∀ j : Nat, j < 170 → (cl (topK j)).take 4 = TOPS ∧ (cl (topK j)).count 47 = 1 ∧ (topK j).length ≤ 14 := by decide +kernel
theorem clr_top {j : Nat} (hj : j < 170) {y : Str} (h : NT y ∨ ∃ i, i < 170 ∧ y = topK i) : clr (topK j) y = true := by
 obtain ⟨f1, f2, _⟩ := top_facts j hj
 rcases h with h | ⟨i, hi, rfl⟩
 ·refine clr_true (fun ⟨t, e⟩ => h ?_) (fun ⟨t, e⟩ => ?_)
  ·rw [← e, List.append_assoc, List.take_append_of_le_length, f1]
   have := congrArg List.length f1
   rw [List.length_take] at this
   have h4 : TOPS.length = 4 := rfl
   omega
  ·rw [List.append_assoc] at e
   have := nt_slash (l := cl y) (r := t) h
   rw [show cl y ++ 47 :: t = cl (topK j) from e] at this
   exact this f1
 ·obtain ⟨_, g2, _⟩ := top_facts i hi
  have no : ∀ {a b : List Nat}, a.count 47 = 1 → b.count 47 = 1 → ¬ (a ++ [47]) <+: b := fun {a b} h1 h2 e => by
   have := e.sublist.count_le 47
   rw [List.count_append, h1, h2] at this
   exact absurd this (by decide)
  exact clr_true (no f2 g2) (no g2 f2)
theorem Tr.mono {n n' : Nat} {kvs : List (Str × V)} (h : Tr n kvs) (hn : n ≤ n') : Tr n' kvs := ⟨Nat.le_trans h.len hn, h.key, h.val, h.nodup⟩
theorem Tr.out {n : Nat} {kvs : List (Str × V)} (h : Tr n kvs) (x : Str) : Tr n (vout kvs x) :=
 ⟨Nat.le_trans (vout_len kvs x) h.len, fun q hq => h.key q (vout_mem hq), fun q hq => h.val q (vout_mem hq), vout_nodup h.nodup⟩
theorem Tr.put {n : Nat} {kvs : List (Str × V)} (h : Tr n kvs) {x y : Str} (hx : x.length ≤ 300) : Tr (n + 1) (vstored kvs x (.str y)) :=
 ⟨Nat.le_trans (vstored_len kvs x _) (Nat.succ_le_succ h.len), fun q hq => (vstored_mem hq).elim (fun e => by rw [e]; exact hx) (h.key q), fun q hq => (vstored_mem hq).elim (fun e => by rw [e]; exact ⟨y, rfl⟩) (h.val q), vstored_nodup h.nodup⟩
theorem Fre.mono {n n' : Nat} {kvs : List (Str × V)} (h : Fre n kvs) (hn : n ≤ n') : Fre n' kvs := ⟨h.tr.mono hn, h.fr, h.nt⟩
theorem out_keys {kvs : List (Str × V)} {x z : Str} (h : z ∈ keysOf (vout kvs x)) : z ∈ keysOf kvs := by
 obtain ⟨q, hq, rfl⟩ := List.mem_map.mp h
 exact List.mem_map_of_mem (vout_mem hq)
theorem Fre.out {n : Nat} {kvs : List (Str × V)} (h : Fre n kvs) (x : Str) : Fre n (vout kvs x) := ⟨h.tr.out x, fun a ha b hb => h.fr a (out_keys ha) b (out_keys hb), fun a ha => h.nt a (out_keys ha)⟩
theorem Fre.put {n : Nat} {kvs : List (Str × V)} (h : Fre n kvs) {x y : Str} (hx : x.length ≤ 300) (hc : ∀ z ∈ keysOf kvs, clr x z = true) (hn : NT x ∨ ∃ j, j < 170 ∧ x = topK j) : Fre (n + 1) (vstored kvs x (.str y)) := by
 have mem : ∀ z, z ∈ keysOf (vstored kvs x (.str y)) → z = x ∨ z ∈ keysOf kvs := fun z hz => (vstored_keys kvs x _ z).mp hz
 refine ⟨h.tr.put hx, fun a ha b hb => ?_, fun a ha => ?_⟩
 ·rcases mem a ha with ea | ha'
  ·rcases mem b hb with eb | hb'
   ·rw [ea, eb]; exact clr_self _
   ·rw [ea]; exact hc b hb'
  ·rcases mem b hb with eb | hb'
   ·rw [eb, clr_comm]; exact hc a ha'
   ·exact h.fr a ha' b hb'
 ·rcases mem a ha with ea | ha'
  ·rw [ea]; exact hn
  ·exact h.nt a ha'
theorem Fre.same {n : Nat} {kvs : List (Str × V)} (h : Fre n kvs) {x y : Str} (hx : x ∈ keysOf kvs) : Fre n (vstored kvs x (.str y)) := by
 have mem : ∀ z, z ∈ keysOf (vstored kvs x (.str y)) → z ∈ keysOf kvs := fun z hz => ((vstored_keys kvs x _ z).mp hz).elim (fun e => e ▸ hx) id
 obtain ⟨q, hq, rfl⟩ := List.mem_map.mp hx
 have any : (kvs.any fun kv => kv.1 = q.1) = true := List.any_eq_true.mpr ⟨q, hq, by simp⟩
 have t := h.tr.put (y := y) (h.tr.key q hq)
 refine ⟨⟨?_, t.key, t.val, t.nodup⟩, fun a ha b hb => h.fr a (mem a ha) b (mem b hb), fun a ha => h.nt a (mem a ha)⟩
 unfold vstored
 rw [if_pos any, List.length_map]; exact h.tr.len
theorem Fre.nil : Fre 0 [] := ⟨⟨Nat.le_refl _, by simp, by simp, List.nodup_nil⟩, by simp [keysOf], by simp [keysOf]⟩
section
variable {ns : List Int} {σ : View} {Q : V → View → Prop}
theorem sp_free {a : Addr} {x : Str} {kvs : List (Str × V)} {ep : Nat} (h : σ a = some (.dict kvs ep)) (hk : ∀ q ∈ kvs, q.1.length ≤ 300) (hx : x.length ≤ 1000) (q : Q (.bool (isFree (keysOf kvs) x)) σ) : sp__law_is_free ns [.ref a, .str x] σ Q := ⟨a, kvs, ep, x, rfl, h, hk, hx, q⟩
theorem sp_grown {a : Addr} {c s : Int} {kvs : List (Str × V)} {ep n : Nat} (h : σ a = some (.dict kvs ep)) (ht : Fre n kvs) (hn : n ≤ 900) (q : ∀ b kvs' ep' σ', Grow σ σ' → σ b = Option.none → σ' b = some (.dict kvs' ep') → Fre (n + 1) kvs' → Q (.ref b) σ') :
  sp__law_grown ns [.ref a, .int c, .int s] σ Q := ⟨a, kvs, ep, c, s, n, rfl, h, ht, hn, q⟩
end
theorem key_at {kvs : List (Str × V)} {i : Nat} {v : V} (h : (kvs.map fun q => V.str q.1)[i]? = some v) : ∃ y, (keysOf kvs)[i]? = some y ∧ v = .str y := by
 rw [List.getElem?_map] at h
 obtain ⟨q, hq, rfl⟩ := Option.map_eq_some_iff.mp h
 exact ⟨q.1, by unfold keysOf; rw [List.getElem?_map, hq]; rfl, rfl⟩
theorem s_free (ns : List Int) : ∀ vs σ Q, sp__law_is_free ns vs σ Q → vs.length = 2 ∧ T__law_is_free ns (bindM ["_law_tree", "_law_path"] vs none') σ (fin Q) := by
 rintro vs σ Q ⟨a, kvs, ep, x, rfl, ha, hk, hx, q⟩
 refine ⟨rfl, ?_⟩
 unfold T__law_is_free
 rw [seq_eq]
 simp [T__law_is_free_1, iter_dict ha]
 refine forL_inv (fun i m σ' => σ' = σ ∧ m "_law_path" = some (.str x) ∧ ((keysOf kvs).take i).all (fun y => clr x y) = true) (fun u m σ' => σ' = σ ∧ u = .bool false ∧ isFree (keysOf kvs) x = false)
  (fun i m σ' h => by rw [h.1]; exact ha) _ ?_ ?_ ?_ _ _ ⟨rfl, by simp, by simp⟩
 ·rintro i v m σ' Q' hv ⟨rfl, hm, h⟩ n1 n2 n3
  obtain ⟨y, hy, rfl⟩ := key_at hv
  have hyl : y.length ≤ 300 := by
   have := List.mem_of_getElem? hy
   obtain ⟨p, hp, rfl⟩ := List.mem_map.mp this
   exact hk p hp
  refine ⟨_, rfl, ?_⟩
  simp [seq_eq, hm]
  refine ⟨by rw [sl_len]; exact Nat.lt_of_le_of_lt hx (by decide), ?_⟩
  have bad : clr x y = false → isFree (keysOf kvs) x = false := fun e => by
   unfold isFree
   rw [List.all_eq_false]
   exact ⟨y, List.mem_of_getElem? hy, by rw [e]; decide⟩
  split
  ·rename_i e
   exact n3 _ _ _ ⟨rfl, rfl, bad (by unfold clr; rw [e]; rfl)⟩
  ·rename_i e
   refine ⟨by rw [sl_len]; exact Nat.lt_of_le_of_lt hyl (by decide), ?_⟩
   split
   ·rename_i e2
    exact n3 _ _ _ ⟨rfl, rfl, bad (by unfold clr; rw [e2, Bool.or_true]; rfl)⟩
   ·rename_i e2
    refine n1 _ _ ⟨rfl, by simp [hm], ?_⟩
    rw [List.take_add_one, hy, List.all_append, h]
    simp [clr, e, e2]
 ·rintro m σ' ⟨rfl, hm, h⟩
  rw [List.length_map] at h
  have : (keysOf kvs).take kvs.length = keysOf kvs := List.take_of_length_le (by simp [keysOf])
  rw [this] at h
  have e : isFree (keysOf kvs) x = true := h
  rw [e] at q
  simpa [seq_eq, T__law_is_free_2] using q
 ·rintro u m σ' ⟨rfl, rfl, h⟩
  rw [h] at q
  simpa using q
end Mine
end
noncomputable section
set_option maxRecDepth 10000
namespace Mine
open PySem PySem.W PyProof.Rows PySem.Calls
theorem tops_len : ∀ j : Nat, j < 200 → (Str.ofString "tops" ++ Str.ofString ((j : Int).repr)).length ≤ 12 := by decide +kernel
theorem x_len : (Str.ofString "/x").length = 2 := by decide +kernel
theorem top_ok {j : Nat} (hj : j < 200) : (j : Int).natAbs.log2 < 1920 ∧ (Str.ofString "tops").length + (Str.ofString ((j : Int).repr)).length ≤ 16777216 ∧ (Str.ofString "tops" ++ Str.ofString ((j : Int).repr)).length + (Str.ofString "/x").length ≤ 16777216 ∧ (topK j).length ≤ 300 := by
 have h1 := tops_len j hj
 have h2 := len_append (Str.ofString "tops") (Str.ofString ((j : Int).repr))
 have h3 := len_append (Str.ofString "tops" ++ Str.ofString ((j : Int).repr)) (Str.ofString "/x")
 have h4 := x_len
 have h5 : j.log2 ≤ j := Nat.log2_le_self j
 refine ⟨by rw [Int.natAbs_natCast]; omega, by omega, by omega, ?_⟩
 unfold topK
 omega
theorem s_grown (ns : List Int) : ∀ vs σ Q, sp__law_grown ns vs σ Q → vs.length = 3 ∧ T__law_grown ns (bindM ["_law_tree", "_law_cell", "_law_shift"] vs none') σ (fin Q) := by
 rintro vs σ Q ⟨a, kvs, ep, c, sh, n, rfl, ha, ht, hn, q⟩
 refine ⟨rfl, ?_⟩
 have len := ht.tr.len
 unfold T__law_grown
 have rest : ∀ (m : Loc) (σ₁ : View) (x : Str), Grow σ σ₁ → m "_law_tree" = some (.ref a) → m "_law_path" = some (.str x) → m "_law_cell" = some (.int c) → m "_law_shift" = some (.int sh) → x.length ≤ 300 → (c % 11 ≠ 4 → NT x ∨ x ∈ keysOf kvs) →
   sSeq (T__law_grown_4 ns) (sSeq (T__law_grown_5 ns) (sSeq (T__law_grown_6 ns) sNil)) m σ₁ (fin Q) := by
  intro m σ₁ x g1 mt mp mc ms hx hN
  rw [seq_eq]
  simp [T__law_grown_4, mt]
  refine dictc_dict (g1 _ _ ha) fun b eb hb1 => ?_
  have hb : σ b = Option.none := g1.none hb1
  have xb := upd_same σ₁ b (.dict kvs eb)
  have g2 : Grow σ (upd σ₁ b (.dict kvs eb)) := g1.upd hb1
  generalize (upd σ₁ b (.dict kvs eb)) = σ₂ at xb g2 ⊢
  have fin1 : ∀ (m : Loc) (σ₃ : View) kvs' ep', Grow σ σ₃ → m "_law_made" = some (.ref b) → σ₃ b = some (.dict kvs' ep') → Fre (n + 1) kvs' → sSeq (T__law_grown_6 ns) sNil m σ₃ (fin Q) := by
   intro m σ₃ kvs' ep' g3 hm hd ht'
   rw [seq_eq]
   simp [T__law_grown_6, hm]
   exact q b kvs' ep' σ₃ g3 hb hd ht'
  show sSeq _ _ _ _ _
  rw [seq_eq]
  simp [T__law_grown_5, mp, mc]
  have put1 : (x ∈ keysOf kvs ∨ (NT x ∧ isFree (keysOf kvs) x = true)) → (sSeq (sSetItem setD (eCall (sp__law_line_by ns) (lCons (eBin opDiv (eName "_law_cell") (eVal (.int 405))) (lCons (eName "_law_shift") lNil))) (eName "_law_made") (eName "_law_path"))
    sNil) (put m "_law_made" (.ref b)) σ₂ (kont sNil (kont (sSeq (T__law_grown_6 ns) sNil) (fin Q))) := by
   intro hc
   rw [seq_eq]
   simp [mc, ms, mp]
   intro y σ₃ g3
   refine set_dict (g3 _ _ xb) (by omega) fun ep' => ?_
   refine fin1 _ _ _ _ ((g2.trans g3).over hb) (by simp) (upd_same _ _ _) ?_
   rcases hc with hc | ⟨h1, h2⟩
   ·exact (ht.same hc).mono (Nat.le_succ _)
   ·exact ht.put hx (fun z hz => List.all_eq_true.mp h2 z hz) (.inl h1)
  have second : (sSeq (sIf (tOr (tBool (eBin opInD (eName "_law_path") (eName "_law_made"))) (tOr (tAnd (tBool (eBin opNe0 (eBin opMod (eName "_law_cell") (eVal (.int 11))) (eVal (.int 4)))) (tAnd (tBool (eCall (sp__law_is_free ns) (lCons (eName "_law_made") (lCons (eName "_law_path") lNil)))) tT)) tF)) (sSeq (sSetItem setD (eCall (sp__law_line_by ns) (lCons (eBin opDiv (eName "_law_cell") (eVal (.int 405))) (lCons (eName "_law_shift") lNil))) (eName "_law_made") (eName "_law_path"))
    sNil) sNil) sNil) (put m "_law_made" (.ref b)) σ₂ (kont (sSeq (T__law_grown_6 ns) sNil) (fin Q)) := by
   rw [seq_eq]
   simp [mp, mc]
   refine in_dict xb ?_
   rw [vget_isSome]
   by_cases hin : x ∈ keysOf kvs
   ·have h' : x ∈ kvs.map (·.1) := hin
    simp only [h', decide_true, isB_bool, if_true]
    exact put1 (.inl hin)
   ·have h' : x ∉ kvs.map (·.1) := hin
    simp only [h', decide_false, isB_bool, Bool.false_eq_true, if_false]
    by_cases h4 : c % 11 = 4
    ·simp [h4]
     exact fin1 _ _ _ _ g2 (by simp) xb (ht.mono (Nat.le_succ _))
    ·simp [h4]
     refine sp_free xb ht.tr.key (by omega) ?_
     cases hf : isFree (keysOf kvs) x with
     | true => simpa using put1 (.inr ⟨(hN h4).elim id fun h => absurd h hin, hf⟩)
     | false => simpa using fin1 _ _ _ _ g2 (by simp) xb (ht.mono (Nat.le_succ _))
  refine in_dict xb ?_
  rw [vget_isSome]
  by_cases hin : x ∈ keysOf kvs
  ·have h' : x ∈ kvs.map (·.1) := hin
   simp only [h', decide_true, isB_bool, if_true]
   split
   ·rw [seq_eq]
    simp [mp, tyDict_ref xb]
    obtain ⟨v, hv, _⟩ := vget_mem h'
    refine pop_dict xb hv fun ep' => ?_
    exact fin1 _ _ _ _ (g2.over hb) (by simp) (upd_same _ _ _) ((ht.out x).mono (Nat.le_succ _))
   ·exact second
  ·have h' : x ∉ kvs.map (·.1) := hin
   simp only [h', decide_false, isB_bool, Bool.false_eq_true, if_false]
   exact second
 have third : ∀ (m : Loc) (σ₁ : View) (x : Str), Grow σ σ₁ → m "_law_tree" = some (.ref a) → m "_law_path" = some (.str x) → m "_law_cell" = some (.int c) → m "_law_shift" = some (.int sh) → x.length ≤ 300 → (c % 11 ≠ 4 → NT x ∨ x ∈ keysOf kvs) →
   sSeq (T__law_grown_3 ns) (sSeq (T__law_grown_4 ns) (sSeq (T__law_grown_5 ns) (sSeq (T__law_grown_6 ns) sNil))) m σ₁ (fin Q) := by
  intro m σ₁ x g1 mt mp mc ms hx hN
  have xa := g1 _ _ ha
  rw [seq_eq]
  simp [T__law_grown_3, mc]
  split
  ·simp [mt, len_dict xa]
   split
   ·rename_i hpos
    split
    ·rw [seq_eq]
     simp [mt, listc_dict xa, mc]
     intro d hd
     have had : a ≠ d := by rintro rfl; rw [xa] at hd; cases hd
     have xa3 : upd σ₁ d (.list (kvs.map fun q => V.str q.1)) a = some (.dict kvs ep) := by rw [upd_ne had]; exact xa
     simp [len_dict xa3]
     have k1 := Int.emod_nonneg (c / 3) (b := (kvs.length : Int)) (by omega)
     have k2 := Int.emod_lt_of_pos (c / 3) (b := (kvs.length : Int)) (by omega)
     refine ⟨by omega, ?_⟩
     have hlt : (c / 3 % (kvs.length : Int)).toNat < kvs.length := by omega
     refine item_list (v := .str (kvs[(c / 3 % (kvs.length : Int)).toNat]).1) (upd_same _ _ _) k1 (by simp [hlt]) ?_
     exact rest _ _ _ (g1.upd hd) (by simp [mt]) (by simp) (by simp [mc]) (by simp [ms]) (ht.tr.key _ (List.getElem_mem hlt)) fun _ => .inr (List.mem_map_of_mem (List.getElem_mem hlt))
    ·exact rest m σ₁ x g1 mt mp mc ms hx hN
   ·exact rest m σ₁ x g1 mt mp mc ms hx hN
  ·exact rest m σ₁ x g1 mt mp mc ms hx hN
 rw [seq_eq]
 simp [T__law_grown_1]
 intro x σ₁ g1 hx1 hx2
 rw [seq_eq]
 simp [T__law_grown_2]
 by_cases h4 : c % 11 = 4
 ·simp only [h4, decide_true, if_true]
  rw [seq_eq]
  simp
  intro d hd
  have xd := upd_same σ₁ d (.list [.int 40, .int 170])
  have g3 : Grow σ (upd σ₁ d (.list [.int 40, .int 170])) := g1.upd hd
  generalize (upd σ₁ d (.list [.int 40, .int 170])) = σ₃ at xd g3 ⊢
  have m1 := Int.emod_nonneg (c / 440) (b := 2) (by decide)
  have m2 := Int.emod_lt_of_pos (c / 440) (b := 2) (by decide)
  have go : ∀ r : Int, 0 < r → r ≤ 170 → ∃ j : Nat, c / 11 % r = j ∧ j < 200 := by
   intro r r1 r2
   have k1 := Int.emod_nonneg (c / 11) (b := r) (by omega)
   have k2 := Int.emod_lt_of_pos (c / 11) r1
   exact ⟨(c / 11 % r).toNat, by omega, by omega⟩
  generalize c / 440 % 2 = r at m1 m2 ⊢
  have hr : r = 0 ∨ r = 1 := by omega
  rcases hr with rfl | rfl
  ·refine item_list (v := .int 40) xd (by decide) rfl ?_
   obtain ⟨j, hj, hj2⟩ := go 40 (by decide) (by decide)
   obtain ⟨b1, b2, b3, b4⟩ := top_ok hj2
   simp [hj]
   exact ⟨by simpa using b1, b2, b3, third _ _ (topK j) g3 (by simp) (by simp [topK]) (by simp) (by simp) b4 fun e => absurd h4 e⟩
  ·refine item_list (v := .int 170) xd (by decide) rfl ?_
   obtain ⟨j, hj, hj2⟩ := go 170 (by decide) (by decide)
   obtain ⟨b1, b2, b3, b4⟩ := top_ok hj2
   simp [hj]
   exact ⟨by simpa using b1, b2, b3, third _ _ (topK j) g3 (by simp) (by simp [topK]) (by simp) (by simp) b4 fun e => absurd h4 e⟩
 ·simp only [h4, decide_false, Bool.false_eq_true, if_false]
  exact third _ _ x g1 (by simp) (by simp) (by simp) (by simp) (by omega) fun _ => .inl hx1
end Mine
end
noncomputable section
set_option maxRecDepth 10000
namespace Mine
open PySem PySem.W PyProof.Rows PySem.Calls
theorem grow_loop {ns : List Int} {X : String} {E : ET} {m₀ : Loc} {σ₀ : View} {sh : Int} {n₀ N : Nat} {b : Addr} {kvs : List (Str × V)} {ep : Nat} {Q : Fl → Loc → View → Prop} (x1 : X ≠ "_law_k") (x2 : X ≠ "_law_script") (x3 : X ≠ "_law_shift") (hsc : m₀ "_law_script" = some .script) (hsh : m₀ "_law_shift" = some (.int sh))
  (hE : ∀ (i : Nat) m σ' (Q : V → View → Prop), m "_law_k" = some (.int i) → (∀ y, y ≠ X → y ≠ "_law_k" → m y = m₀ y) → (∀ j : Int, 0 ≤ j → Q (.int j) σ') → E m σ' Q)
  (hm : m₀ X = some (.ref b)) (hb : σ₀ b = some (.dict kvs ep)) (ht : Fre n₀ kvs) (hN : n₀ + N ≤ 900)
  (h : ∀ m σ' b' kvs' ep', m X = some (.ref b') → σ' b' = some (.dict kvs' ep') → Fre (n₀ + N) kvs' → Grow σ₀ σ' → (b' = b ∨ σ₀ b' = Option.none) → (∀ y, y ≠ X → y ≠ "_law_k" → m y = m₀ y) → Q .next m σ') :
  forL (.name "_law_k") (fun _ => True) (sSeq (sSet X (eCall (sp__law_grown ns) (lCons (eName X) (lCons (eCall (sp__law_cell_at ns) (lCons (eName "_law_script") (lCons E lNil))) (lCons (eName "_law_shift") lNil))))) sNil) (rangeL 0 N) m₀ σ₀ Q := by
 refine forL_inv (fun i m σ' => ∃ b' kvs' ep', m X = some (.ref b') ∧ σ' b' = some (.dict kvs' ep') ∧ Fre (n₀ + i) kvs' ∧ Grow σ₀ σ' ∧ (b' = b ∨ σ₀ b' = Option.none) ∧ ∀ y, y ≠ X → y ≠ "_law_k" → m y = m₀ y) (fun _ _ _ => False) (fun _ _ _ _ => trivial) _ ?_ ?_ (fun _ _ _ h => h.elim) _ _ ⟨b, kvs, ep, hm, hb, ht, Grow.refl, .inl rfl, fun _ _ _ => rfl⟩
 ·rintro i v m σ' Q' hv ⟨b', kvs', ep', h1, h2, h3, h4, h6, h5⟩ n1 n2 n3
  obtain ⟨hi, rfl⟩ := range_get hv
  refine ⟨_, rfl, ?_⟩
  have e1 : m "_law_script" = some .script := by rw [h5 _ x2.symm (by decide)]; exact hsc
  have e2 : m "_law_shift" = some (.int sh) := by rw [h5 _ x3.symm (by decide)]; exact hsh
  simp [seq_eq, x1, h1, e1]
  refine hE i _ _ _ (by simp) (fun y hy hk => by simp [hk]; exact h5 y hy hk) fun j hj => ?_
  simp [hj, e2]
  refine sp_grown h2 h3 (by omega) fun b2 k2 ep2 σ₂ g hn hd ht2 => ?_
  exact n1 _ _ ⟨b2, k2, ep2, by simp, hd, ht2, h4.trans g, .inr (h4.none hn), fun y hy hk => by simp [hy, hk]; exact h5 y hy hk⟩
 ·rintro m σ' ⟨b', kvs', ep', h1, h2, h3, h4, h6, h5⟩
  rw [range_len] at h3
  exact h m σ' b' kvs' ep' h1 h2 h3 h4 h6 h5
theorem tops_loop {ns : List Int} {m₀ : Loc} {σ₀ : View} {sh : Int} {n₀ N : Nat} {b : Addr} {kvs : List (Str × V)} {ep : Nat} {Q : Fl → Loc → View → Prop} (hsh : m₀ "_law_shift" = some (.int sh)) (hm : m₀ "_law_elder_here" = some (.ref b)) (hb : σ₀ b = some (.dict kvs ep)) (ht : Fre n₀ kvs) (hN : n₀ + N ≤ 900) (hN2 : N ≤ 170)
  (h : ∀ m σ' kvs' ep', m "_law_elder_here" = some (.ref b) → σ' b = some (.dict kvs' ep') → Fre (n₀ + N) kvs' → (∀ c o, c ≠ b → σ₀ c = some o → σ' c = some o) → Q .next m σ') :
  forL (.name "_law_j") (fun _ => True) (sSeq (sIf (tBool (eBin opNotInD (eBin opAdd (eVal (.str (Str.ofString "tops"))) (eCall spStr (lCons (eName "_law_j") lNil))) (eName "_law_elder_here"))) (sSeq (sSetItem setD (eCall (sp__law_line_by ns) (lCons (eBin opMod (eName "_law_j") (eVal (.int 3))) (lCons (eName "_law_shift") lNil))) (eName "_law_elder_here") (eBin opAdd (eBin opAdd (eVal (.str (Str.ofString "tops"))) (eCall spStr (lCons (eName "_law_j") lNil))) (eVal (.str (Str.ofString "/x")))))
 sNil) sNil)
 sNil) (rangeL 0 N) m₀ σ₀ Q := by
 refine forL_inv (fun i m σ' => ∃ kvs' ep', σ' b = some (.dict kvs' ep') ∧ Fre (n₀ + i) kvs' ∧ (∀ c o, c ≠ b → σ₀ c = some o → σ' c = some o) ∧ ∀ y, y ≠ "_law_j" → m y = m₀ y) (fun _ _ _ => False) (fun _ _ _ _ => trivial) _ ?_ ?_ (fun _ _ _ h => h.elim) _ _ ⟨kvs, ep, hb, ht, fun _ _ _ e => e, fun _ _ => rfl⟩
 ·rintro i v m σ' Q' hv ⟨kvs', ep', h2, h3, h4, h5⟩ n1 n2 n3
  obtain ⟨hi, rfl⟩ := range_get hv
  refine ⟨_, rfl, ?_⟩
  have e1 : m "_law_elder_here" = some (.ref b) := by rw [h5 _ (by decide)]; exact hm
  have e2 : m "_law_shift" = some (.int sh) := by rw [h5 _ (by decide)]; exact hsh
  obtain ⟨b1, b2, b3, b4⟩ := top_ok (j := i) (by omega)
  have len := h3.tr.len
  simp [seq_eq, e1]
  refine ⟨by simpa using b1, b2, notin_dict h2 ?_⟩
  try simp
  split
  ·simp [e2, e1]
   intro y σ₂ g
   refine ⟨by simpa using b1, b2, b3, ?_⟩
   refine set_dict (g _ _ h2) (by omega) fun ep2 => ?_
   refine n1 _ _ ⟨_, ep2, upd_same _ _ _, h3.put b4 (fun z hz => clr_top (by omega) (h3.nt z hz)) (.inr ⟨i, by omega, rfl⟩), fun c o hc e => by rw [upd_ne hc]; exact g _ _ (h4 c o hc e), fun y hy => by simp [hy]; exact h5 y hy⟩
  ·exact n1 _ _ ⟨kvs', ep', h2, h3.mono (by omega), h4, fun y hy => by simp [hy]; exact h5 y hy⟩
 ·rintro m σ' ⟨kvs', ep', h2, h3, h4, h5⟩
  rw [range_len] at h3
  exact h m σ' kvs' ep' (by rw [h5 _ (by decide)]; exact hm) h2 h3 h4
theorem s_elder (ns : List Int) : ∀ vs σ Q, sp__law_elder ns vs σ Q → vs.length = 1 ∧ T__law_elder ns (bindM ["_law_script"] vs none') σ (fin Q) := by
 rintro vs σ Q ⟨z, rfl, rfl, q⟩
 refine ⟨rfl, ?_⟩
 unfold T__law_elder
 rw [seq_eq]
 simp [T__law_elder_1]
 generalize cell ns 0 = sh
 rw [seq_eq]
 simp [T__law_elder_2]
 generalize cell ns 1 = c
 rw [seq_eq]
 simp [T__law_elder_3]
 intro a ea ha
 have xa := upd_same σ a (.dict [] ea)
 have g0 : Grow σ (upd σ a (.dict [] ea)) := Grow.refl.upd ha
 generalize (upd σ a (.dict [] ea)) = σ₁ at xa g0 ⊢
 have rest : ∀ (m : Loc) (σ₂ : View) b kvs ep, Grow σ σ₂ → σ b = Option.none → m "_law_elder_here" = some (.ref b) → σ₂ b = some (.dict kvs ep) → Fre 6 kvs → m "_law_cell" = some (.int c) → m "_law_shift" = some (.int sh) →
   sSeq (T__law_elder_5 ns) (sSeq (T__law_elder_6 ns) (sSeq (T__law_elder_7 ns) sNil)) m σ₂ (fin Q) := by
  intro m σ₂ b kvs ep g2 hb mb xb hF mc ms
  rw [seq_eq]
  simp [T__law_elder_5, mc]
  intro d ed hd
  have g3 : Grow σ₂ (upd σ₂ d (.idict (litV [(1, 40), (9, 40), (6, 170)]) ed)) := Grow.refl.upd hd
  have xd := upd_same σ₂ d (.idict (litV [(1, 40), (9, 40), (6, 170)]) ed)
  generalize (upd σ₂ d (.idict (litV [(1, 40), (9, 40), (6, 170)]) ed)) = σ₃ at g3 xd ⊢
  refine ⟨⟨_, _, xd⟩, [(1, 40), (9, 40), (6, 170)], ed, xd, ?_⟩
  obtain ⟨N, hN, h170⟩ : ∃ N : Nat, litAt [(1, 40), (9, 40), (6, 170)] (c / 7 % 16) 0 = N ∧ N ≤ 170 := by
   generalize c / 7 % 16 = k
   unfold litAt
   simp only [List.find?_cons]
   by_cases k1 : k = 1
   ·subst k1; exact ⟨40, rfl, by decide⟩
   by_cases k9 : k = 9
   ·subst k9; exact ⟨40, rfl, by decide⟩
   by_cases k6 : k = 6
   ·subst k6; exact ⟨170, rfl, by decide⟩
   have e1 : ¬ (1 : Int) = k := fun e => k1 e.symm
   have e9 : ¬ (9 : Int) = k := fun e => k9 e.symm
   have e6 : ¬ (6 : Int) = k := fun e => k6 e.symm
   simp only [e1, e9, e6, decide_false, List.find?_nil]
   exact ⟨0, rfl, by decide⟩
  rw [hN]
  rw [seq_eq]
  simp [T__law_elder_6]
  refine ⟨by omega, ?_⟩
  refine tops_loop (sh := sh) (n₀ := 6) (by simp [ms]) (by simp [mb]) (g3 _ _ xb) hF (by omega) h170 fun m₃ σ₄ kvs' ep' y1 y2 y3 y4 => ?_
  rw [kont_next, seq_eq]
  simp [T__law_elder_7, y1]
  refine q b kvs' ep' σ₄ (fun e o he => ?_) hb y2 (y3.mono (by omega))
  have hne : e ≠ b := by rintro rfl; rw [hb] at he; cases he
  exact y4 e o hne (g3 _ _ (g2 _ _ he))
 show sSeq _ _ _ _ _
 rw [seq_eq]
 have c1 := Int.emod_nonneg c (b := 7) (by decide)
 have c2 := Int.emod_lt_of_pos c (b := 7) (by decide)
 simp [T__law_elder_4]
 split
 ·rw [seq_eq]
  simp
  refine ⟨⟨by omega, by omega⟩, ?_⟩
  refine grow_loop (sh := sh) (n₀ := 0) (by decide) (by decide) (by decide) (by simp) (by simp) (fun i m σ' Q hk ho hq => by simp [hk]; exact hq _ (by omega)) (by simp) xa Fre.nil (by omega) fun m₂ σ₂ b kvs ep mb xb tb g1 hfr ho => ?_
  have hbn : σ b = Option.none := hfr.elim (fun e => by rw [e]; exact ha) fun e => g0.none e
  rw [kont_next]
  exact rest m₂ σ₂ b kvs ep (g0.trans g1) hbn mb xb (tb.mono (by omega)) (by rw [ho _ (by decide) (by decide)]; simp) (by rw [ho _ (by decide) (by decide)]; simp)
 ·exact rest _ σ₁ a [] ea g0 ha (by simp) xa (Fre.nil.mono (by decide)) (by simp) (by simp)
end Mine
end
noncomputable section
set_option maxRecDepth 10000
namespace Mine
open PySem PySem.W PyProof.Rows PySem.Calls
theorem mod_short {x k : Int} (hk : k = 8) (h : x = 0 ∨ x = 1) : Short k ∨ Short x := by
 rcases h with rfl | rfl
 ·exact .inr (by unfold Short; decide)
 ·exact .inr (by unfold Short; decide)
theorem s_side (ns : List Int) : ∀ vs σ Q, sp__law_side ns vs σ Q → vs.length = 3 ∧ T__law_side ns (bindM ["_law_script", "_law_elder_here", "_law_which"] vs none') σ (fin Q) := by
 rintro vs σ Q ⟨a, kvs, ep, w, rfl, ha, hF, hw, q⟩
 refine ⟨rfl, ?_⟩
 unfold T__law_side
 rw [seq_eq]
 simp [T__law_side_1]
 generalize cell ns 0 = sh
 rw [seq_eq]
 simp [T__law_side_2]
 refine dictc_dict ha fun b eb hb => ?_
 have xb := upd_same σ b (.dict kvs eb)
 have g0 : Grow σ (upd σ b (.dict kvs eb)) := Grow.refl.upd hb
 generalize (upd σ b (.dict kvs eb)) = σ₁ at xb g0 ⊢
 show sSeq _ _ _ _ _
 rw [seq_eq]
 have hw0 : 0 ≤ w := by rcases hw with rfl | rfl <;> decide
 have c1 := Int.emod_nonneg (cell ns (2 + w)) (b := 9) (by decide)
 have c2 := Int.emod_lt_of_pos (cell ns (2 + w)) (b := 9) (by decide)
 simp [T__law_side_3]
 refine ⟨by omega, ⟨by omega, by omega⟩, ?_⟩
 refine grow_loop (sh := sh) (n₀ := 180) (by decide) (by decide) (by decide) (by simp) (by simp) (fun i m σ' Q hk ho hq => by
  simp [hk, ho "_law_which" (by decide) (by decide)]
  exact ⟨mod_short rfl hw, hq _ (by omega)⟩) (by simp) xb hF (by omega) fun m₂ σ₂ d kd ed md xd tb g1 hfr ho => ?_
 have hdn : σ d = Option.none := hfr.elim (fun e => by rw [e]; exact hb) fun e => g0.none e
 have g2 := g0.trans g1
 have td : Fre 200 kd := tb.mono (by omega)
 have s1 : m₂ "_law_script" = some .script := by rw [ho _ (by decide) (by decide)]; simp
 have s2 : m₂ "_law_which" = some (.int w) := by rw [ho _ (by decide) (by decide)]; simp
 rw [kont_next, seq_eq]
 simp [T__law_side_4, s1]
 have last : ∀ (m : Loc) (σ₃ : View) kvs' ep', Grow σ σ₃ → m "_law_made" = some (.ref d) → σ₃ d = some (.dict kvs' ep') → Fre 200 kvs' → sSeq (T__law_side_5 ns) sNil m σ₃ (fin Q) := by
  intro m σ₃ kvs' ep' g3 hm hd ht'
  rw [seq_eq]
  simp [T__law_side_5, hm]
  exact q d kvs' ep' σ₃ g3 hdn hd ht'
 split
 ·rw [seq_eq]
  have d1 := Int.emod_nonneg (cell ns 2 / 9) (b := 150) (by decide)
  have d2 := Int.emod_lt_of_pos (cell ns 2 / 9) (b := 150) (by decide)
  simp
  refine forL_inv (fun i m σ' => ∃ kvs' ep', Grow σ σ' ∧ σ' d = some (.dict kvs' ep') ∧ Fre 200 kvs' ∧ m "_law_made" = some (.ref d) ∧ m "_law_which" = some (.int w) ∧ m "_law_script" = some .script) (fun _ _ _ => False) (fun _ _ _ _ => trivial) _ ?_ ?_ (fun _ _ _ h => h.elim) _ _ ⟨kd, ed, g2, xd, td, md, s2, s1⟩
  ·rintro i v m σ' Q' hv ⟨kvs', ep', y1, y2, y3, y4, y5, y6⟩ n1 n2 n3
   obtain ⟨hi, rfl⟩ := range_get hv
   refine ⟨_, rfl, ?_⟩
   rw [seq_eq]
   simp [y6]
   obtain ⟨j, hj, hj2⟩ : ∃ j : Nat, (i : Int) + cell ns 2 / 9 % 150 = j ∧ j < 200 := ⟨i + (cell ns 2 / 9 % 150).toNat, by omega, by omega⟩
   obtain ⟨b1, b2, b3, b4⟩ := top_ok hj2
   rw [hj]
   refine ⟨by simpa using b1, b2, b3, ?_⟩
   rw [seq_eq]
   simp [y4]
   refine in_dict y2 ?_
   rw [vget_isSome]
   by_cases hin : topK j ∈ keysOf kvs'
   ·have h' : (Str.ofString "tops" ++ Str.ofString ((j : Int).repr) ++ Str.ofString "/x") ∈ kvs'.map (·.1) := hin
    simp only [h', decide_true, isB_bool, if_true]
    rw [seq_eq]
    have e1 := Int.emod_nonneg (i : Int) (b := 2) (by decide)
    have e2 := Int.emod_lt_of_pos (i : Int) (b := 2) (by decide)
    simp
    obtain ⟨r, hr, hr2⟩ : ∃ r : Nat, (i : Int) % 2 = r ∧ r < 200 := ⟨((i : Int) % 2).toNat, by omega, by omega⟩
    obtain ⟨f1, f2, _, _⟩ := top_ok hr2
    rw [hr]
    have ol : (Str.ofString "other").length = 5 := by decide +kernel
    have tl := tops_len r hr2
    rw [len_append] at tl
    refine ⟨by simpa using f1, by omega, ?_⟩
    intro l hl
    have hld : d ≠ l := by rintro rfl; rw [y2] at hl; cases hl
    have put1 : ∀ (x : Str) (o : AObj), setD (.ref d) (.str (topK j)) (.str x) (upd σ' l o) fun σ₄ => Q' .next (put (put m "_law_j" (.int i)) "_law_path" (.str (topK j))) σ₄ := by
     intro x o
     have len := y3.tr.len
     refine set_dict (by rw [upd_ne hld]; exact y2) (by omega) fun ep2 => ?_
     exact n1 _ _ ⟨_, ep2, (y1.upd hl).over hdn, upd_same _ _ _, y3.same hin, by simp [y4], by simp [y5], by simp [y6]⟩
    rcases hw with rfl | rfl
    ·simp [y5]
     refine item_list (v := .str (Str.ofString "one")) (upd_same _ _ _) (by decide) rfl ?_
     simp [y4]
     exact put1 _ _
    ·simp [y5]
     refine item_list (v := .str (Str.ofString "other" ++ Str.ofString ((r : Int).repr))) (upd_same _ _ _) (by decide) rfl ?_
     simp [y4]
     exact put1 _ _
   ·have h' : (Str.ofString "tops" ++ Str.ofString ((j : Int).repr) ++ Str.ofString "/x") ∉ kvs'.map (·.1) := hin
    simp only [h', decide_false, isB_bool, Bool.false_eq_true, if_false]
    exact n1 _ _ ⟨kvs', ep', y1, y2, y3, by simp [y4], by simp [y5], by simp [y6]⟩
  ·rintro m σ' ⟨kvs', ep', y1, y2, y3, y4, y5, y6⟩
   rw [kont_next]
   exact last m σ' kvs' ep' y1 y4 y2 y3
 ·exact last _ _ kd ed g2 md xd td
end Mine
end
noncomputable section
set_option maxRecDepth 10000
namespace Mine
open PySem PySem.W PyProof.Rows PySem.Calls
section
variable {σ : View} {Q : V → View → Prop}
@[simp] theorem eq_toV {a b : Option Str} : opEq0 (toV a) (toV b) σ Q = Q (.bool (decide (a = b))) σ := by
 cases a <;> cases b <;> simp [toV]
@[simp] theorem ne_toV {a b : Option Str} : opNe0 (toV a) (toV b) σ Q = Q (.bool (!decide (a = b))) σ := by
 cases a <;> cases b <;> simp [toV]
theorem Tr.get {n : Nat} {kvs : List (Str × V)} (t : Tr n kvs) (x : Str) : (vget kvs x).getD .none = toV (gS kvs x) := by
 unfold gS
 by_cases h : x ∈ kvs.map (·.1)
 ·obtain ⟨v, h1, h2⟩ := vget_mem h
  obtain ⟨y, hy⟩ := t.val _ h2
  simp at hy
  subst hy
  rw [h1]; rfl
 ·have := vget_isSome kvs x
  rw [decide_eq_false h] at this
  rw [Option.isSome_eq_false_iff, Option.isNone_iff_eq_none] at this
  rw [this]; rfl
theorem get_tr {a : Addr} {n : Nat} {kvs : List (Str × V)} {ep : Nat} {x : Str} (h : σ a = some (.dict kvs ep)) (t : Tr n kvs) (q : Q (toV (gS kvs x)) σ) : tyDict (.ref a) σ ∧ spGet [.ref a, .str x] σ Q :=
 ⟨by rw [tyDict_ref h]; trivial, get_dict h (by rw [t.get]; exact q)⟩
end
theorem path_loop {m₀ : Loc} {σ₀ : View} {a t : Addr} {fk kvs : List (Str × V)} {ef ep : Nat} {Q : Fl → Loc → View → Prop} (ha : σ₀ a = some (.dict fk ef)) (ht : σ₀ t = some (.dict kvs ep)) (hat : a ≠ t) (hm : m₀ "found" = some (.ref a)) (hn : (fk.map (·.1)).Nodup) (hz : fk.length + kvs.length ≤ 100000)
  (h : ∀ m σ' fk' ef', σ' a = some (.dict fk' ef') → (fk'.map (·.1)).Nodup → fk'.length ≤ fk.length + kvs.length → (∀ z, z ∈ fk'.map (·.1) ↔ z ∈ fk.map (·.1) ∨ z ∈ keysOf kvs) → (∀ c, c ≠ a → σ' c = σ₀ c) → (∀ y, y ≠ "path" → m y = m₀ y) → Q .next m σ') :
  forL (.name "path") (fun σ => σ t = some (.dict kvs ep)) (sSeq (sSetItem setD (eVal (.bool true)) (eName "found") (eName "path")) sNil) (kvs.map fun q => .str q.1) m₀ σ₀ Q := by
 refine forL_inv (fun i m σ' => ∃ fk' ef', σ' a = some (.dict fk' ef') ∧ (fk'.map (·.1)).Nodup ∧ fk'.length ≤ fk.length + i ∧ (∀ z, z ∈ fk'.map (·.1) ↔ z ∈ fk.map (·.1) ∨ z ∈ (keysOf kvs).take i) ∧ (∀ c, c ≠ a → σ' c = σ₀ c) ∧ (∀ y, y ≠ "path" → m y = m₀ y)) (fun _ _ _ => False)
  (fun i m σ' ⟨fk', ef', _, _, _, _, h5, _⟩ => by rw [h5 t hat.symm]; exact ht) _ ?_ ?_ (fun _ _ _ h => h.elim) _ _ ⟨fk, ef, ha, hn, by omega, by simp, fun _ _ => rfl, fun _ _ => rfl⟩
 ·rintro i v m σ' Q' hv ⟨fk', ef', h1, h2, h3, h4, h5, h6⟩ n1 n2 n3
  obtain ⟨y, hy, rfl⟩ := key_at hv
  have hi : i < kvs.length := by
   have := (List.getElem?_eq_some_iff.mp hv).1
   simpa using this
  refine ⟨_, rfl, ?_⟩
  simp [seq_eq, h6 _ (show "found" ≠ "path" by decide), hm]
  refine set_dict h1 (by omega) fun ep2 => ?_
  refine n1 _ _ ⟨_, ep2, upd_same _ _ _, vstored_nodup h2, ?_, fun z => ?_, fun c hc => by rw [upd_ne hc]; exact h5 c hc, fun y hy => by simp [hy]; exact h6 y hy⟩
  ·have := vstored_len fk' y (.bool true); omega
  ·rw [vstored_keys, h4, List.take_add_one, hy]
   try simp
   constructor
   ·rintro (h | h | h)
    ·exact .inr (.inr h)
    ·exact .inl h
    ·exact .inr (.inl h)
   ·rintro (h | h | h)
    ·exact .inr (.inl h)
    ·exact .inr (.inr h)
    ·exact .inl h
 ·rintro m σ' ⟨fk', ef', h1, h2, h3, h4, h5, h6⟩
  rw [List.length_map] at h3 h4
  have : (keysOf kvs).take kvs.length = keysOf kvs := List.take_of_length_le (by simp [keysOf])
  rw [this] at h4
  exact h m σ' fk' ef' h1 h2 h3 h4 h5 h6
theorem s_all (ns : List Int) : ∀ vs σ Q, sp_all_paths ns vs σ Q → vs.length = 3 ∧ T_all_paths ns (bindM ["elder", "one", "other"] vs none') σ (fin Q) := by
 rintro vs σ Q ⟨a, b, c, ka, kb, kc, e1, e2, e3, rfl, ⟨xa, xb, xc, ta, tb, tc⟩, q⟩
 refine ⟨rfl, ?_⟩
 have la := ta.len
 have lb := tb.len
 have lc := tc.len
 unfold T_all_paths
 rw [seq_eq]
 simp [T_all_paths_1]
 intro f ef hf
 have fa : a ≠ f := by rintro rfl; rw [xa] at hf; cases hf
 have fb : b ≠ f := by rintro rfl; rw [xb] at hf; cases hf
 have fc : c ≠ f := by rintro rfl; rw [xc] at hf; cases hf
 show sSeq _ _ _ _ _
 rw [seq_eq]
 simp [T_all_paths_2]
 intro l hl
 have fl : l ≠ f := by rintro rfl; simp [Mine.upd] at hl
 rw [iter_list (upd_same _ _ _)]
 have al : a ≠ l := by rintro rfl; simp [Mine.upd, fa, xa] at hl
 have bl : b ≠ l := by rintro rfl; simp [Mine.upd, fb, xb] at hl
 have cl' : c ≠ l := by rintro rfl; simp [Mine.upd, fc, xc] at hl
 have hln : σ l = Option.none := by rw [upd_ne fl] at hl; exact hl
 generalize hσ : upd (upd σ f (.dict [] ef)) l (.list [.ref a, .ref b, .ref c]) = σ₁
 have s1 : ∀ d, d ≠ f → d ≠ l → σ₁ d = σ d := fun d h1 h2 => by rw [← hσ, upd_ne h2, upd_ne h1]
 have s2 : σ₁ f = some (.dict [] ef) := by rw [← hσ, upd_ne fl.symm, upd_same]
 have s3 : σ₁ l = some (.list [.ref a, .ref b, .ref c]) := by rw [← hσ, upd_same]
 refine forL_inv (fun i m σ' => ∃ fk ef, σ' f = some (.dict fk ef) ∧ (fk.map (·.1)).Nodup ∧ fk.length ≤ 1000 * i ∧ (∀ z, z ∈ fk.map (·.1) ↔ ∃ ks ∈ [keysOf ka, keysOf kb, keysOf kc].take i, z ∈ ks) ∧ (∀ c, c ≠ f → σ' c = σ₁ c) ∧ m "found" = some (.ref f)) (fun _ _ _ => False)
  (fun i m σ' ⟨fk', ef', _, _, _, _, h5, _⟩ => by rw [h5 l fl]; exact s3) _ ?_ ?_ (fun _ _ _ h => h.elim) _ _ ⟨[], ef, s2, List.nodup_nil, by simp, by simp, fun _ _ => rfl, by simp⟩
 ·rintro i v m σ' Q' hv ⟨fk, ef', h1, h2, h3, h4, h5, h6⟩ n1 n2 n3
  refine ⟨_, rfl, ?_⟩
  have go : ∀ d kvs ep, [keysOf ka, keysOf kb, keysOf kc][i]? = some (keysOf kvs) → d ≠ f → d ≠ l → σ d = some (.dict kvs ep) → Tr 1000 kvs → v = .ref d → i < 3 → (sSeq (sFor (.name "path") (iOf ns (eName "tree")) (sSeq (sSetItem setD (eVal (.bool true)) (eName "found") (eName "path")) sNil)) sNil) (put m "tree" v) σ' Q' := by
   rintro d kvs ep hk hdf hdl hd ht rfl hi
   have hd' : σ' d = some (.dict kvs ep) := by rw [h5 d hdf, s1 d hdf hdl]; exact hd
   have lk := ht.len
   simp [seq_eq, iter_dict hd']
   refine path_loop h1 hd' hdf.symm (by simp [h6]) h2 (by omega) fun m₂ σ₂ fk2 ef2 g1 g2 g3 g4 g5 g6 => ?_
   try simp
   refine n1 _ _ ⟨fk2, ef2, g1, g2, by omega, fun z => ?_, fun c hc => by rw [g5 c hc]; exact h5 c hc, by rw [g6 _ (by decide)]; simp [h6]⟩
   rw [g4, h4, List.take_add_one, hk]
   simp [or_and_right, exists_or]
  match i, hv with
  | 0, hv => simp at hv; exact go a ka e1 rfl fa al xa ta hv.symm (by decide)
  | 1, hv => simp at hv; exact go b kb e2 rfl fb bl xb tb hv.symm (by decide)
  | 2, hv => simp at hv; exact go c kc e3 rfl fc cl' xc tc hv.symm (by decide)
  | n + 3, hv => simp at hv
 ·rintro m σ' ⟨fk, ef', h1, h2, h3, h4, h5, h6⟩
  rw [kont_next, seq_eq]
  simp [T_all_paths_3, h6, h1]
  intro r hr
  have e : srt (fk.map (·.1)) = allK ka kb kc := srt_same h2 (uniq_nodup _) fun z => by
   rw [h4, uniq_mem]; simp [or_assoc]
  have hrf : r ≠ f := by rintro rfl; rw [h1] at hr; cases hr
  have hrn : σ r = Option.none := by
   by_cases hrl : r = l
   ·rw [hrl]; exact hln
   ·rw [← s1 r hrf hrl, ← h5 r hrf]; exact hr
  have hfn : ∀ d o, σ d = some o → d ≠ f := fun d o e => by rintro rfl; rw [hf] at e; cases e
  refine q r _ (fun d o hd => ?_) hrn ?_
  ·have d1 := hfn d o hd
   have d2 : d ≠ l := by rintro rfl; rw [hln] at hd; cases hd
   have d3 : d ≠ r := by rintro rfl; rw [hrn] at hd; cases hd
   rw [upd_ne d3, h5 d d1, s1 d d1 d2]; exact hd
  ·rw [upd_same]
   rw [← e]
theorem sp_all {ns : List Int} {σ : View} {Q : V → View → Prop} {a b c : Addr} {ka kb kc : List (Str × V)} {e1 e2 e3 : Nat} (xa : σ a = some (.dict ka e1)) (xb : σ b = some (.dict kb e2)) (xc : σ c = some (.dict kc e3)) (ta : Tr 1000 ka) (tb : Tr 1000 kb) (tc : Tr 1000 kc) (q : newG ((allK ka kb kc).map .str) σ Q) : sp_all_paths ns [.ref a, .ref b, .ref c] σ Q :=
 ⟨a, b, c, ka, kb, kc, e1, e2, e3, rfl, ⟨xa, xb, xc, ta, tb, tc⟩, q⟩
theorem all_len {ka kb kc : List (Str × V)} (ta : Tr 1000 ka) (tb : Tr 1000 kb) (tc : Tr 1000 kc) : (allK ka kb kc).length ≤ 3000 := by
 have la := ta.len
 have lb := tb.len
 have lc := tc.len
 unfold allK
 rw [srt_len]
 have := uniq_len (keysOf ka ++ keysOf kb ++ keysOf kc)
 simp [keysOf] at this ⊢
 omega
theorem fm_take {α : Type} {β : Type} (f : α → Option β) (l : List α) {i : Nat} {y : α} (h : l[i]? = some y) : (l.take (i + 1)).filterMap f = (l.take i).filterMap f ++ (f y).toList := by
 rw [List.take_add_one, h, List.filterMap_append]
 simp only [Option.toList_some, List.filterMap_cons, List.filterMap_nil]
 cases f y <;> rfl
theorem fm_len {α : Type} {β : Type} (f : α → Option β) (l : List α) (i : Nat) : ((l.take i).filterMap f).length ≤ l.length := by
 have h1 := List.length_filterMap_le f (l.take i)
 have h2 := List.length_take_le' i l
 omega
theorem vstr_at {ks : List Str} {i : Nat} {v : V} (h : (ks.map V.str)[i]? = some v) : ∃ y, ks[i]? = some y ∧ v = .str y := by
 rw [List.getElem?_map] at h
 obtain ⟨q, hq, rfl⟩ := Option.map_eq_some_iff.mp h
 exact ⟨q, hq, rfl⟩
theorem s_marks (ns : List Int) : ∀ vs σ Q, sp_marks ns vs σ Q → vs.length = 3 ∧ T_marks ns (bindM ["elder", "one", "other"] vs none') σ (fin Q) := by
 rintro vs σ Q ⟨a, b, c, ka, kb, kc, e1, e2, e3, rfl, ⟨xa, xb, xc, ta, tb, tc⟩, q⟩
 refine ⟨rfl, ?_⟩
 unfold T_marks
 rw [seq_eq]
 simp [T_marks_1]
 intro t ht
 rw [seq_eq]
 have g0 : Grow σ (upd σ t (.list [])) := Grow.refl.upd ht
 have xt := upd_same σ t (.list [])
 generalize (upd σ t (.list [])) = σ₁ at g0 xt ⊢
 simp [T_marks_2]
 refine sp_all (g0 _ _ xa) (g0 _ _ xb) (g0 _ _ xc) ta tb tc fun l σ₂ g2 hl xl => ?_
 rw [iter_list xl]
 have lt : l ≠ t := by rintro rfl; rw [xt] at hl; cases hl
 have xt2 := g2 _ _ xt
 have g02 := g0.trans g2
 have hk := all_len ta tb tc
 refine forL_inv (fun i m σ' => (∀ d, d ≠ t → σ' d = σ₂ d) ∧ σ' t = some (.list (((allK ka kb kc).take i).filterMap fun x => (markOf (gS ka x) (gS kb x) (gS kc x)).map fun u => V.tup [.str x, .str u])) ∧ m "told" = some (.ref t) ∧ m "elder" = some (.ref a) ∧ m "one" = some (.ref b) ∧ m "other" = some (.ref c)) (fun _ _ _ => False)
  (fun i m σ' h => by rw [h.1 l lt]; exact xl) _ ?_ ?_ (fun _ _ _ h => h.elim) _ _ ⟨fun _ _ => rfl, by simpa using xt2, by simp, by simp, by simp, by simp⟩
 ·rintro i v m σ' Q' hv ⟨h1, h2, h3, h4, h5, h6⟩ n1 n2 n3
  obtain ⟨y, hy, rfl⟩ := vstr_at hv
  refine ⟨_, rfl, ?_⟩
  have na : a ≠ t := by rintro rfl; rw [xa] at ht; cases ht
  have nb : b ≠ t := by rintro rfl; rw [xb] at ht; cases ht
  have nc : c ≠ t := by rintro rfl; rw [xc] at ht; cases ht
  have ya : σ' a = some (.dict ka e1) := by rw [h1 a na]; exact g02 _ _ xa
  have yb : σ' b = some (.dict kb e2) := by rw [h1 b nb]; exact g02 _ _ xb
  have yc : σ' c = some (.dict kc e3) := by rw [h1 c nc]; exact g02 _ _ xc
  have hll := fm_len (fun x => (markOf (gS ka x) (gS kb x) (gS kc x)).map fun u => V.tup [.str x, .str u]) (allK ka kb kc) i
  have skip : ∀ (m' : Loc), markOf (gS ka y) (gS kb y) (gS kc y) = Option.none → m' "told" = some (.ref t) → m' "elder" = some (.ref a) → m' "one" = some (.ref b) → m' "other" = some (.ref c) → Q' .next m' σ' := by
   intro m' hu z1 z2 z3 z4
   refine n1 _ _ ⟨h1, ?_, z1, z2, z3, z4⟩
   rw [fm_take _ _ hy, hu, h2]; simp
  have put1 : ∀ (m' : Loc) (u : Str), markOf (gS ka y) (gS kb y) (gS kc y) = some u → m' "told" = some (.ref t) → m' "elder" = some (.ref a) → m' "one" = some (.ref b) → m' "other" = some (.ref c) → spAppend [.ref t, .tup [.str y, .str u]] σ' fun x σ'' => Q' .next m' σ'' := by
   intro m' u hu z1 z2 z3 z4
   refine append_list h2 (by omega) (n1 _ _ ⟨fun d hd => by rw [upd_ne hd]; exact h1 d hd, ?_, z1, z2, z3, z4⟩)
   rw [upd_same, fm_take _ _ hy, hu]; rfl
  simp only [seq_eq, sSet_eq, eMeth_eq, eName_eq, lCons_eq, lNil_eq]
  simp [h4]
  refine get_tr ya ta ?_
  simp [seq_eq, h5]
  refine get_tr yb tb ?_
  simp [seq_eq, h6]
  refine get_tr yc tc ?_
  simp [seq_eq, h3, tyList_ref h2]
  generalize gS ka y = w at put1 skip ⊢
  generalize gS kb y = mi at put1 skip ⊢
  generalize gS kc y = th at put1 skip ⊢
  unfold markOf at put1 skip
  split
  ·rename_i k1
   rw [if_pos k1] at put1 skip
   split
   ·rename_i k2
    rw [if_pos k2] at skip
    exact skip _ rfl (by simp [h3]) (by simp [h4]) (by simp [h5]) (by simp [h6])
   ·rename_i k2
    rw [if_neg k2] at put1
    exact put1 _ _ rfl (by simp [h3]) (by simp [h4]) (by simp [h5]) (by simp [h6])
  ·rename_i k1
   rw [if_neg k1] at put1
   split
   ·rename_i k2
    rw [if_pos k2] at put1
    exact put1 _ _ rfl (by simp [h3]) (by simp [h4]) (by simp [h5]) (by simp [h6])
   ·rename_i k2
    rw [if_neg k2] at put1
    split
    ·rename_i k3
     rw [if_pos k3] at put1
     exact put1 _ _ rfl (by simp [h3]) (by simp [h4]) (by simp [h5]) (by simp [h6])
    ·rename_i k3
     rw [if_neg k3] at put1
     exact put1 _ _ rfl (by simp [h3]) (by simp [h4]) (by simp [h5]) (by simp [h6])
 ·rintro m σ' ⟨h1, h2, h3, h4, h5, h6⟩
  rw [List.length_map, List.take_length] at h2
  rw [kont_next, seq_eq]
  simp [T_marks_3, h3]
  have hg : Grow σ σ' := fun d o e => by
   have : d ≠ t := by rintro rfl; rw [ht] at e; cases e
   rw [h1 d this]; exact g02 d o e
  exact q t σ' hg ht h2
theorem parts_sum {x : Str} (n : Nat) : (((Txt.split x (Str.ofString "/")).take n).map (·.length)).sum + ((Txt.split x (Str.ofString "/")).take n).length ≤ x.length + 1 := by
 have h := PyProof.Rows.split_weight x (Str.ofString "/") (by rw [sl_len]; decide)
 have key : ∀ (l : List Str) (n : Nat), ((l.take n).map (·.length)).sum + (l.take n).length ≤ (l.map (·.length)).sum + l.length := by
  intro l
  induction l with
  | nil => intro n; simp
  | cons y r ih => intro n; cases n with
   | zero => simp
   | succ n => have := ih n; simp at this ⊢; omega
 exact Nat.le_trans (key _ n) h
theorem s_above (ns : List Int) : ∀ vs σ Q, sp_above ns vs σ Q → vs.length = 1 ∧ T_above ns (bindM ["path"] vs none') σ (fin Q) := by
 rintro vs σ Q ⟨x, rfl, hx, q⟩
 refine ⟨rfl, ?_⟩
 have hsz := PyProof.Rows.split_le x (Str.ofString "/")
 simp [T_above, T_above_1, T_above_2, seq_eq, sl_len]
 refine ⟨by omega, fun a ha => ?_⟩
 have hp : ∀ σ', Grow (upd σ a (.list ((Txt.split x (Str.ofString "/")).map .str))) σ' → σ' a = some (.list ((Txt.split x (Str.ofString "/")).map .str)) := fun σ' g => g _ _ (upd_same _ _ _)
 simp [len_list (upd_same σ a _)]
 refine ⟨by omega, ?_⟩
 refine compL_map (Grow (upd σ a (.list ((Txt.split x (Str.ofString "/")).map .str)))) (fun _ _ => trivial) _ ((aboveL x).map .str) [] _ _ (by simp [aboveL, range_len]) (by simp [range_len]; omega) ?_ Grow.refl ?_
 ·intro i v y hv hy σ' Q' g n
  obtain ⟨hi, rfl⟩ := range_get hv
  refine ⟨_, rfl, ?_⟩
  simp
  refine cut_list (hp _ g) fun b hb => ?_
  rw [cut_take _ (by omega), show (1 + (i : Int)).toNat = i + 1 by omega, ← List.map_take]
  have hsum := parts_sum (x := x) (i + 1)
  refine join_list (ys := (Txt.split x (Str.ofString "/")).take (i + 1)) (upd_same _ _ _) (by rw [sl_len]; omega) ?_
  have : y = .str (Str.join (Str.ofString "/") ((Txt.split x (Str.ofString "/")).take (i + 1))) := by
   simp [aboveL, hi] at hy
   exact hy.symm
  rw [← this]
  exact n _ (g.upd hb)
 ·intro σ' g b hb
  simp
  refine q b _ ?_ ?_ (upd_same _ _ _)
  ·exact (Grow.upd Grow.refl ha |>.trans g).upd hb
  ·exact (Grow.upd Grow.refl ha |>.trans g).none hb
noncomputable def upF (x : Str) : V → Option V
 | .int i => if (cl x)[i.toNat]? = some 47 then some (.str ⟨((cl x).take i.toNat).toArray⟩) else Option.none
 | _ => Option.none
theorem s_uppers (ns : List Int) : ∀ vs σ Q, sp__law_uppers ns vs σ Q → vs.length = 1 ∧ T__law_uppers ns (bindM ["_law_path"] vs none') σ (fin Q) := by
 rintro vs σ Q ⟨x, rfl, hx, q⟩
 refine ⟨rfl, ?_⟩
 have hc := cl_len x
 simp [T__law_uppers, T__law_uppers_1, seq_eq]
 refine ⟨by omega, by omega, ?_⟩
 have e : (rangeL 0 x.length).filterMap (upF x) = (upps x).map V.str := by
  unfold upps rangeL
  rw [List.filterMap_map, List.map_filterMap, hc]
  refine congrArg (List.filterMap · _) (funext fun i => ?_)
  simp [upF]
 refine compL_filter (fun s => s = σ) (fun _ _ => trivial) (upF x) _ _ _ _ (by simp [range_len]; omega) ?_ rfl ?_
 ·rintro v hv s Q₁ Q₂ rfl n1 n2
  obtain ⟨i, hi, rfl⟩ : ∃ i : Nat, i < x.length ∧ v = .int i := by
   obtain ⟨i, hi⟩ := List.getElem?_of_mem hv
   obtain ⟨h1, h2⟩ := range_get hi
   exact ⟨i, h1, by rw [h2, Int.zero_add]⟩
  refine ⟨_, rfl, ?_⟩
  have hlt : i < (cl x).length := by omega
  simp
  have hget : (cl x)[i]? = some (cl x)[i] := List.getElem?_eq_getElem hlt
  refine item_str (c := (cl x)[i]) (by omega) (by omega) hget ?_
  have sl : Str.ofString "/" = ⟨#[47]⟩ := sl_eq
  have up : upF x (.int (i : Int)) = if (cl x)[i] = 47 then some (.str ⟨((cl x).take i).toArray⟩) else Option.none := by
   show (if (cl x)[i]? = some 47 then _ else _) = _
   rw [hget]
   by_cases h : (cl x)[i] = 47
   ·rw [if_pos (congrArg some h), if_pos h]; rfl
   ·rw [if_neg fun e => h (Option.some.inj e), if_neg h]
  generalize (cl x)[i] = c at up
  simp
  by_cases h : c = 47
  ·rw [if_pos (by rw [sl, h])]
   refine ⟨by omega, ?_⟩
   refine n1 _ _ rfl ?_
   rw [up, if_pos h]
   have : pyCut x.cps.toList Option.none (some (i : Int)) = (cl x).take i := cut_take _ (Int.natCast_nonneg _)
   rw [this]
  ·rw [if_neg (by rw [sl]; intro e; exact h (by simpa using e))]
   exact n2 _ rfl (by rw [up, if_neg h])
 ·rintro s rfl b hb
  rw [List.nil_append, e]
  exact q b _ (Grow.refl.upd hb) hb (upd_same _ _ _)
end Mine
end
noncomputable section
set_option maxRecDepth 10000
namespace Mine
open PySem PySem.W PyProof.Rows PySem.Calls
theorem any_strs (x : Str) : ∀ ys : List Str, anyEq (.str x) (ys.map .str) = some (decide (x ∈ ys))
 | [] => by simp [anyEq]
 | y :: ys => by
  rw [List.map_cons]
  unfold anyEq
  rw [any_strs x ys]
  simp [veq0, eq_comm]
theorem notin_strs {σ : View} {Q : V → View → Prop} {a : Addr} {x : Str} {ys : List Str} (h : σ a = some (.list (ys.map .str))) (q : Q (.bool (!decide (x ∈ ys))) σ) : opNotInL (.str x) (.ref a) σ Q := ⟨_, _, h, any_strs x ys, q⟩
section
variable {ns : List Int} {σ : View} {Q : V → View → Prop} {a b c : Addr} {ka kb kc : List (Str × V)} {e1 e2 e3 : Nat}
theorem D3.grow {n : Nat} {σ' : View} (d : D3 n a b c ka kb kc e1 e2 e3 σ) (g : Grow σ σ') : D3 n a b c ka kb kc e1 e2 e3 σ' := ⟨g _ _ d.xa, g _ _ d.xb, g _ _ d.xc, d.ta, d.tb, d.tc⟩
theorem sp_mk (d : D3 1000 a b c ka kb kc e1 e2 e3 σ) (q : newG (marksL ka kb kc) σ Q) : sp_marks ns [.ref a, .ref b, .ref c] σ Q := ⟨a, b, c, ka, kb, kc, e1, e2, e3, rfl, d, q⟩
theorem sp_cl (d : D3 1000 a b c ka kb kc e1 e2 e3 σ) (q : newG ((clL ka kb kc).map .str) σ Q) : sp_clashing ns [.ref a, .ref b, .ref c] σ Q := ⟨a, b, c, ka, kb, kc, e1, e2, e3, rfl, d, q⟩
theorem sp_st (d : D3 1000 a b c ka kb kc e1 e2 e3 σ) (q : ∀ f ep σ', Grow σ σ' → σ f = Option.none → σ' f = some (.dict (stL ka kb kc) ep) → Q (.ref f) σ') : sp_standing ns [.ref a, .ref b, .ref c] σ Q := ⟨a, b, c, ka, kb, kc, e1, e2, e3, rfl, d, q⟩
theorem sp_cls (d : D3 1000 a b c ka kb kc e1 e2 e3 σ) (q : newG ((clsL ka kb kc).map tupV) σ Q) : sp_clashes ns [.ref a, .ref b, .ref c] σ Q := ⟨a, b, c, ka, kb, kc, e1, e2, e3, rfl, d, q⟩
theorem sp_due (d : D3 1000 a b c ka kb kc e1 e2 e3 σ) (q : newG ((clsL ka kb kc).map tupV) σ Q) : sp__law_due ns [.ref a, .ref b, .ref c] σ Q := ⟨a, b, c, ka, kb, kc, e1, e2, e3, rfl, d, q⟩
theorem sp_abv {x : Str} (h : x.length ≤ 300) (q : newG ((aboveL x).map .str) σ Q) : sp_above ns [.str x] σ Q := ⟨x, rfl, h, q⟩
theorem sp_upp {x : Str} (h : x.length ≤ 300) (q : newG ((upps x).map .str) σ Q) : sp__law_uppers ns [.str x] σ Q := ⟨x, rfl, h, q⟩
end
theorem mark_cl {w m t : Option Str} : markOf w m t = some (Str.ofString "clash") ↔ isCl w m t = true := by
 have n1 : Str.ofString "alike" ≠ Str.ofString "clash" := by decide
 have n2 : Str.ofString "one" ≠ Str.ofString "clash" := by decide
 have n3 : Str.ofString "other" ≠ Str.ofString "clash" := by decide
 unfold markOf isCl
 by_cases h1 : m = t
 ·subst h1
  by_cases h2 : m = w
  ·subst h2; simp
  ·simp [h2, n1]
 ·by_cases h3 : t = w
  ·subst h3; simp [h1, n2]
  ·by_cases h2 : m = w
   ·subst h2; simp [h1, h3, n3]
   ·simp [h1, h2, h3]
theorem map_filter_fm {α β : Type} (f : α → β) (p : α → Bool) : ∀ l : List α, (l.filter p).map f = l.filterMap fun x => if p x then some (f x) else Option.none
 | [] => rfl
 | x :: l => by
  have ih := map_filter_fm f p l
  cases h : p x
  ·rw [List.filter_cons_of_neg (by simp [h]), ih, List.filterMap_cons_none (by simp [h])]
  ·rw [List.filter_cons_of_pos h, List.map_cons, ih, List.filterMap_cons_some (b := f x) (by simp [h])]
noncomputable def clF : V → Option V
 | .tup [.str x, .str u] => if u = Str.ofString "clash" then some (.str x) else Option.none
 | _ => Option.none
theorem clF_tup {x u : Str} : clF (.tup [.str x, .str u]) = if u = Str.ofString "clash" then some (.str x) else Option.none := rfl
theorem clF_marks (a b c : List (Str × V)) : (marksL a b c).filterMap clF = (clL a b c).map V.str := by
 unfold marksL clL
 rw [List.filterMap_filterMap, map_filter_fm]
 refine congrArg (List.filterMap · _) (funext fun x => ?_)
 by_cases h : isCl (gS a x) (gS b x) (gS c x) = true
 ·rw [mark_cl.mpr h, h]
  simp [clF_tup]
 ·cases e : markOf (gS a x) (gS b x) (gS c x) with
  | none => simp [h]
  | some u =>
   have hu : u ≠ Str.ofString "clash" := fun hu => h (mark_cl.mp (by rw [e, hu]))
   simp [clF_tup, hu, h]
theorem mark_pair {a b c : List (Str × V)} {v : V} (h : v ∈ marksL a b c) : ∃ x u, v = .tup [.str x, .str u] := by
 obtain ⟨x, _, hx⟩ := List.mem_filterMap.mp h
 obtain ⟨u, _, rfl⟩ := Option.map_eq_some_iff.mp hx
 exact ⟨x, u, rfl⟩
theorem marks_len {ka kb kc : List (Str × V)} (ta : Tr 1000 ka) (tb : Tr 1000 kb) (tc : Tr 1000 kc) : (marksL ka kb kc).length ≤ 3000 :=
 Nat.le_trans (List.length_filterMap_le _ _) (all_len ta tb tc)
theorem s_clashing (ns : List Int) : ∀ vs σ Q, sp_clashing ns vs σ Q → vs.length = 3 ∧ T_clashing ns (bindM ["elder", "one", "other"] vs none') σ (fin Q) := by
 rintro vs σ Q ⟨a, b, c, ka, kb, kc, e1, e2, e3, rfl, d, q⟩
 refine ⟨rfl, ?_⟩
 simp [T_clashing, T_clashing_1, seq_eq]
 refine sp_mk d fun l σ₁ g1 hl xl => ?_
 rw [iter_list xl]
 have ml := marks_len d.ta d.tb d.tc
 refine compL_filter (fun s => s = σ₁) (fun s hs => by rw [hs]; exact xl) clF _ _ _ _ (by simp; exact Nat.le_trans ml (by decide)) ?_ rfl ?_
 ·rintro v hv s Q₁ Q₂ rfl n1 n2
  obtain ⟨x, u, rfl⟩ := mark_pair hv
  refine ⟨_, rfl, ?_⟩
  simp
  by_cases h : u = Str.ofString "clash"
  ·simp [h]
   exact n1 _ _ rfl (by simp [clF_tup, h])
  ·simp [h]
   exact n2 _ rfl (by simp [clF_tup, h])
 ·rintro s rfl r hr
  rw [List.nil_append, clF_marks]
  exact q r _ (g1.upd hr) (g1.none hr) (upd_same _ _ _)
theorem cl_len3 {ka kb kc : List (Str × V)} (ta : Tr 1000 ka) (tb : Tr 1000 kb) (tc : Tr 1000 kc) : (clL ka kb kc).length ≤ 3000 := Nat.le_trans (List.length_filter_le _ _) (all_len ta tb tc)
theorem all_nodup (a b c : List (Str × V)) : (allK a b c).Nodup := srt_nodup (uniq_nodup _)
theorem stored_new {kvs : List (Str × V)} {x : Str} {v : V} (h : x ∉ kvs.map (·.1)) : vstored kvs x v = kvs ++ [(x, v)] := by
 unfold vstored
 rw [if_neg]
 intro e
 obtain ⟨q, h1, h2⟩ := List.any_eq_true.mp e
 exact h (List.mem_map.mpr ⟨q, h1, by simpa using h2⟩)
theorem st_key {a b c : List (Str × V)} {ks : List Str} {x : Str} (h : x ∈ (ks.filterMap fun x => (stand (gS a x) (gS b x) (gS c x)).map fun y => (x, V.str y)).map (·.1)) : x ∈ ks := by
 obtain ⟨q, hq, rfl⟩ := List.mem_map.mp h
 obtain ⟨y, hy, e⟩ := List.mem_filterMap.mp hq
 obtain ⟨z, _, rfl⟩ := Option.map_eq_some_iff.mp e
 exact hy
theorem s_standing (ns : List Int) : ∀ vs σ Q, sp_standing ns vs σ Q → vs.length = 3 ∧ T_standing ns (bindM ["elder", "one", "other"] vs none') σ (fin Q) := by
 rintro vs σ Q ⟨a, b, c, ka, kb, kc, e1, e2, e3, rfl, d, q⟩
 refine ⟨rfl, ?_⟩
 unfold T_standing
 rw [seq_eq]
 simp [T_standing_1]
 refine sp_cl d fun w σ₁ g1 hw xw => ?_
 rw [seq_eq]
 simp [T_standing_2]
 intro f ef hf
 have hfn := g1.none hf
 have g2 : Grow σ₁ (upd σ₁ f (.dict [] ef)) := Grow.refl.upd hf
 have xf := upd_same σ₁ f (.dict [] ef)
 generalize (upd σ₁ f (.dict [] ef)) = σ₂ at g2 xf ⊢
 show sSeq _ _ _ _ _
 rw [seq_eq]
 simp [T_standing_3]
 have d2 := (d.grow g1).grow g2
 refine sp_all d2.xa d2.xb d2.xc d.ta d.tb d.tc fun l σ₃ g3 hl xl => ?_
 rw [iter_list xl]
 have xf3 := g3 _ _ xf
 have hlf : l ≠ f := by rintro rfl; rw [xf] at hl; cases hl
 have hwf : w ≠ f := by rintro rfl; rw [xw] at hf; cases hf
 have xw3 := g3 _ _ (g2 _ _ xw)
 have d3 := d2.grow g3
 have hk := all_len d.ta d.tb d.tc
 have ne : ∀ {z : Addr} {o : AObj}, σ z = some o → z ≠ f := fun {z o} h => by rintro rfl; rw [hfn] at h; cases h
 refine forL_inv (fun i m σ' => (∀ z, z ≠ f → σ' z = σ₃ z) ∧ (∃ ep, σ' f = some (.dict (((allK ka kb kc).take i).filterMap fun x => (stand (gS ka x) (gS kb x) (gS kc x)).map fun y => (x, V.str y)) ep)) ∧ m "away" = some (.ref w) ∧ m "found" = some (.ref f) ∧ m "elder" = some (.ref a) ∧ m "one" = some (.ref b) ∧ m "other" = some (.ref c)) (fun _ _ _ => False)
  (fun i m σ' h => by rw [h.1 l hlf]; exact xl) _ ?_ ?_ (fun _ _ _ h => h.elim) _ _ ⟨fun _ _ => rfl, ⟨ef, by simpa using xf3⟩, by simp, by simp, by simp, by simp, by simp⟩
 ·rintro i v m σ' Q' hv ⟨h1, ⟨ep, h2⟩, mw, mf, me, mo, mt⟩ n1 n2 n3
  obtain ⟨y, hy, rfl⟩ := vstr_at hv
  refine ⟨_, rfl, ?_⟩
  have ya : σ' a = some (.dict ka e1) := by rw [h1 a (ne d.xa)]; exact d3.xa
  have yb : σ' b = some (.dict kb e2) := by rw [h1 b (ne d.xb)]; exact d3.xb
  have yc : σ' c = some (.dict kc e3) := by rw [h1 c (ne d.xc)]; exact d3.xc
  have yw : σ' w = some (.list ((clL ka kb kc).map .str)) := by rw [h1 w hwf]; exact xw3
  have hll := fm_len (fun x => (stand (gS ka x) (gS kb x) (gS kc x)).map fun y => (x, V.str y)) (allK ka kb kc) i
  have hym : y ∈ allK ka kb kc := List.mem_of_getElem? hy
  have hcl : y ∈ clL ka kb kc ↔ isCl (gS ka y) (gS kb y) (gS kc y) = true := by
   unfold clL; rw [List.mem_filter]; exact ⟨fun h => h.2, fun h => ⟨hym, h⟩⟩
  have hnew : y ∉ (((allK ka kb kc).take i).filterMap fun x => (stand (gS ka x) (gS kb x) (gS kc x)).map fun y => (x, V.str y)).map (·.1) := fun e => by
   have h3 := st_key e
   have hnd := all_nodup ka kb kc
   obtain ⟨j, hj⟩ := List.getElem?_of_mem h3
   rw [List.getElem?_take] at hj
   split at hj
   ·rename_i hji
    exact absurd ((List.getElem?_inj (List.getElem?_eq_some_iff.mp hj).1 hnd).mp (hj.trans hy.symm)) (Nat.ne_of_lt hji)
   ·cases hj
  have last : ∀ (m' : Loc) (o : Option Str), m' "text" = some (toV o) → m' "path" = some (.str y) → m' "away" = some (.ref w) → m' "found" = some (.ref f) → m' "elder" = some (.ref a) → m' "one" = some (.ref b) → m' "other" = some (.ref c) → o = (if gS kb y = gS ka y then gS kc y else gS kb y) →
    (sSeq (sIf (tAnd (tBool (eBin opNotInL (eName "path") (eName "away"))) (tAnd (tBool (eBin opIsNot (eName "text") (eVal .none))) tT)) (sSeq (sSetItem setD (eName "text") (eName "found") (eName "path")) sNil) sNil) sNil) m' σ' Q' := by
   intro m' o z1 z2 z3 z4 z5 z6 z7 ho
   have skip : stand (gS ka y) (gS kb y) (gS kc y) = Option.none → Q' .next m' σ' := fun e => by
    refine n1 _ _ ⟨h1, ⟨ep, ?_⟩, z3, z4, z5, z6, z7⟩
    rw [fm_take _ _ hy, e, h2]; simp
   rw [seq_eq]
   simp [z1, z2, z3, z4]
   refine notin_strs yw ?_
   by_cases hc : isCl (gS ka y) (gS kb y) (gS kc y) = true
   ·simp [hcl.mpr hc]
    exact skip (by unfold stand; rw [if_pos hc])
   ·have hc' : y ∉ clL ka kb kc := fun e => hc (hcl.mp e)
    simp [hc']
    cases o with
    | none =>
     simp [toV]
     exact skip (by unfold stand; rw [if_neg hc]; exact ho.symm)
    | some t =>
     simp [toV, seq_eq, z1, z2, z4]
     refine set_dict h2 (by exact Nat.lt_of_le_of_lt (Nat.le_trans hll hk) (by decide)) fun ep2 => ?_
     refine n1 _ _ ⟨fun z hz => by rw [upd_ne hz]; exact h1 z hz, ⟨ep2, ?_⟩, z3, z4, z5, z6, z7⟩
     have hs : stand (gS ka y) (gS kb y) (gS kc y) = some t := by unfold stand; rw [if_neg hc]; exact ho.symm
     rw [upd_same, stored_new hnew, fm_take _ _ hy, hs]; rfl
  rw [seq_eq]
  simp [mo]
  refine get_tr yb d.tb ?_
  rw [seq_eq]
  simp [mo]
  refine get_tr yb d.tb ?_
  simp [me]
  refine get_tr ya d.ta ?_
  by_cases hq : gS kb y = gS ka y
  ·rw [eq_toV, decide_eq_true hq]
   simp only [isB_bool, if_true]
   rw [seq_eq]
   simp [mt]
   refine get_tr yc d.tc ?_
   refine last _ (gS kc y) (by simp) (by simp) (by simp [mw]) (by simp [mf]) (by simp [me]) (by simp [mo]) (by simp [mt]) (by rw [if_pos hq])
  ·simp [hq]
   refine last _ (gS kb y) (by simp) (by simp) (by simp [mw]) (by simp [mf]) (by simp [me]) (by simp [mo]) (by simp [mt]) (by rw [if_neg hq])
 ·rintro m σ' ⟨h1, ⟨ep, h2⟩, mw, mf, me, mo, mt⟩
  rw [List.length_map, List.take_length] at h2
  rw [kont_next, seq_eq]
  simp [T_standing_4, mf]
  refine q f ep σ' (fun z o e => ?_) hfn h2
  rw [h1 z (ne e)]; exact g3 _ _ (g2 _ _ (g1 _ _ e))
end Mine
end
noncomputable section
set_option maxRecDepth 10000
namespace Mine
open PySem PySem.W PyProof.Rows PySem.Calls
theorem all_key {ka kb kc : List (Str × V)} (ta : Tr 1000 ka) (tb : Tr 1000 kb) (tc : Tr 1000 kc) {x : Str} (h : x ∈ allK ka kb kc) : x.length ≤ 300 := by
 unfold allK at h
 rw [srt_mem, uniq_mem, List.mem_append, List.mem_append] at h
 rcases h with (h | h) | h
 ·obtain ⟨q, hq, rfl⟩ := List.mem_map.mp h; exact ta.key q hq
 ·obtain ⟨q, hq, rfl⟩ := List.mem_map.mp h; exact tb.key q hq
 ·obtain ⟨q, hq, rfl⟩ := List.mem_map.mp h; exact tc.key q hq
theorem st_all {a b c : List (Str × V)} {x : Str} (h : x ∈ keysOf (stL a b c)) : x ∈ allK a b c := st_key h
theorem st_len {ka kb kc : List (Str × V)} (ta : Tr 1000 ka) (tb : Tr 1000 kb) (tc : Tr 1000 kc) : (stL ka kb kc).length ≤ 3000 := Nat.le_trans (List.length_filterMap_le _ _) (all_len ta tb tc)
theorem above_len {x : Str} (h : x.length ≤ 300) : (aboveL x).length ≤ 301 := by
 have := PyProof.Rows.split_le x (Str.ofString "/")
 unfold aboveL
 rw [List.length_map, List.length_range]; omega
noncomputable def prs1 (ks : List Str) (x : Str) (us : List Str) : List (List Str) := (us.filter fun u => decide (u ∈ ks)).map fun u => [u, x]
theorem prs1_len (ks : List Str) (x : Str) (us : List Str) : (prs1 ks x us).length ≤ us.length := by
 unfold prs1; rw [List.length_map]; exact List.length_filter_le _ _
theorem prs1_take {ks : List Str} {x : Str} {us : List Str} {j : Nat} {u : Str} (h : us[j]? = some u) : prs1 ks x (us.take (j + 1)) = prs1 ks x (us.take j) ++ if u ∈ ks then [[u, x]] else [] := by
 unfold prs1
 rw [List.take_add_one, h, List.filter_append, List.map_append]
 by_cases hu : u ∈ ks <;> simp [hu]
theorem flat_len {α β : Type} {f : α → List β} {n : Nat} : ∀ (l : List α), (∀ a ∈ l, (f a).length ≤ n) → (l.flatMap f).length ≤ l.length * n
 | [], _ => by simp
 | a :: l, h => by
  have h1 := h a (.head _)
  have h2 := flat_len l fun b hb => h b (.tail _ hb)
  rw [List.flatMap_cons, List.length_append, List.length_cons, Nat.succ_mul, Nat.add_comm]
  exact Nat.add_le_add h2 h1
theorem flat_take {α β : Type} (f : α → List β) {l : List α} {i : Nat} {a : α} (h : l[i]? = some a) : (l.take (i + 1)).flatMap f = (l.take i).flatMap f ++ f a := by
 rw [List.take_add_one, h, List.flatMap_append]
 simp
structure Only (t : Addr) (σ σ' : View) : Prop where
 keep : ∀ z o, z ≠ t → σ z = some o → σ' z = some o
 none : ∀ z, σ' z = Option.none → σ z = Option.none
theorem Only.refl {t : Addr} {σ : View} : Only t σ σ := ⟨fun _ _ _ e => e, fun _ e => e⟩
theorem Only.set {t : Addr} {σ σ' : View} {o : AObj} (h : Only t σ σ') : Only t σ (upd σ' t o) := ⟨fun z o' hz e => by rw [upd_ne hz]; exact h.keep z o' hz e, fun z e => by
 by_cases hz : z = t
 ·rw [hz, upd_same] at e; cases e
 ·rw [upd_ne hz] at e; exact h.none z e⟩
theorem above_loop {m₀ : Loc} {σ₀ : View} {t f l : Addr} {kf : List (Str × V)} {ef : Nat} {xss : List (List Str)} {y : Str} {us : List Str} {Q : Fl → Loc → View → Prop} (ht : t ≠ f) (htl : l ≠ t) (xt : σ₀ t = some (.list (xss.map tupV))) (xf : σ₀ f = some (.dict kf ef)) (xl : σ₀ l = some (.list (us.map .str)))
  (mt : m₀ "told" = some (.ref t)) (mf : m₀ "files" = some (.ref f)) (mp : m₀ "path" = some (.str y)) (hz : xss.length + us.length < 16777216)
  (h : ∀ m σ', Only t σ₀ σ' → σ' t = some (.list ((xss ++ prs1 (keysOf kf) y us).map tupV)) → (∀ z, z ≠ "folder" → m z = m₀ z) → Q .next m σ') :
  forL (.name "folder") (fun σ => σ l = some (.list (us.map .str))) (sSeq (sIf (tBool (eBin opInD (eName "folder") (eName "files"))) (sSeq (sExpr (eMeth tyList spAppend (eName "told") (lCons (eTup (lCons (eName "folder") (lCons (eName "path") lNil))) lNil)))
 sNil) sNil)
 sNil) (us.map .str) m₀ σ₀ Q := by
 refine forL_inv (fun j m σ' => Only t σ₀ σ' ∧ σ' t = some (.list ((xss ++ prs1 (keysOf kf) y (us.take j)).map tupV)) ∧ ∀ z, z ≠ "folder" → m z = m₀ z) (fun _ _ _ => False)
  (fun j m σ' h => h.1.keep _ _ htl xl) _ ?_ ?_ (fun _ _ _ h => h.elim) _ _ ⟨Only.refl, by simpa [prs1] using xt, fun _ _ => rfl⟩
 ·rintro j v m σ' Q' hv ⟨h1, h2, h3⟩ n1 n2 n3
  obtain ⟨u, hu, rfl⟩ := vstr_at hv
  refine ⟨_, rfl, ?_⟩
  have hj : j < us.length := (List.getElem?_eq_some_iff.mp hu).1
  have e1 := (h3 _ (by decide)).trans mt
  have e2 := (h3 _ (by decide)).trans mf
  have e3 := (h3 _ (by decide)).trans mp
  have yf := h1.keep _ _ ht.symm xf
  have pl := prs1_len (keysOf kf) y (us.take j)
  rw [List.length_take] at pl
  rw [seq_eq]
  simp [e2]
  refine in_dict yf ?_
  rw [vget_isSome]
  by_cases hin : u ∈ keysOf kf
  ·have h' : u ∈ kf.map (·.1) := hin
   simp only [h', decide_true, isB_bool, if_true]
   rw [seq_eq]
   simp [e1, e3, tyList_ref h2]
   refine append_list h2 (by simp; exact Nat.lt_of_not_le fun hg => lin [(xss.length), (us.length), j, ((prs1 (keysOf kf) y (List.take j us)).length), (min j us.length)] [(1, (.a (.a (.v 0) (.v 1)) (.n 1)), (.n 16777216)), (1, (.a (.v 2) (.n 1)), (.v 1)), (1, (.v 3), (.v 4)), (1, (.v 4), (.v 2)), (1, (.n 16777216), (.a (.v 0) (.v 3)))] rfl hz hj pl (Nat.min_le_left (j) (us.length)) hg) ?_
   refine n1 _ _ ⟨h1.set, ?_, fun z hz => by simp [hz]; exact h3 z hz⟩
   rw [upd_same, prs1_take hu, if_pos hin]
   simp [tupV]
  ·have h' : u ∉ kf.map (·.1) := hin
   simp only [h', decide_false, isB_bool, Bool.false_eq_true, if_false]
   refine n1 _ _ ⟨h1, ?_, fun z hz => by simp [hz]; exact h3 z hz⟩
   rw [prs1_take hu, if_neg hin, List.append_nil]; exact h2
 ·rintro m σ' ⟨h1, h2, h3⟩
  rw [List.length_map, List.take_length] at h2
  exact h m σ' h1 h2 h3
theorem s_clashes (ns : List Int) : ∀ vs σ Q, sp_clashes ns vs σ Q → vs.length = 3 ∧ T_clashes ns (bindM ["elder", "one", "other"] vs none') σ (fin Q) := by
 rintro vs σ Q ⟨a, b, c, ka, kb, kc, e1, e2, e3, rfl, d, q⟩
 refine ⟨rfl, ?_⟩
 have kl := cl_len3 d.ta d.tb d.tc
 have sl := st_len d.ta d.tb d.tc
 unfold T_clashes
 rw [seq_eq]
 simp [T_clashes_1]
 refine sp_cl d fun l σ₁ g1 hl xl => ?_
 rw [iter_list xl]
 refine compL_map (fun s => s = σ₁) (fun s hs => by rw [hs]; exact xl) _ (((clL ka kb kc).map fun x => [x]).map tupV) [] _ _ (by simp) (by simp; exact Nat.le_trans kl (by decide)) ?_ rfl ?_
 ·rintro i v y hv hy s Q' rfl n
  obtain ⟨x, hx, rfl⟩ := vstr_at hv
  refine ⟨_, rfl, ?_⟩
  simp
  have : y = .tup [.str x] := by
   rw [List.map_map, List.getElem?_map, hx] at hy
   exact (Option.some.inj hy).symm
  rw [← this]
  exact n _ rfl
 ·rintro s rfl t ht
  rw [List.nil_append]
  have htn := g1.none ht
  have g2 := g1.upd (o := .list (((clL ka kb kc).map fun x => [x]).map tupV)) ht
  have xt := upd_same s t (.list (((clL ka kb kc).map fun x => [x]).map tupV))
  generalize (upd s t (.list (((clL ka kb kc).map fun x => [x]).map tupV))) = σ₂ at g2 xt ⊢
  rw [seq_eq]
  simp [T_clashes_2]
  refine sp_st (d.grow g2) fun f ef σ₃ g3 hf xf => ?_
  have xt3 := g3 _ _ xt
  have htf : t ≠ f := by rintro rfl; rw [xt] at hf; cases hf
  rw [seq_eq]
  simp [T_clashes_3, iter_dict xf]
  refine forL_inv (fun i m σ' => Only t σ₃ σ' ∧ σ' t = some (.list (((clL ka kb kc).map (fun x => [x]) ++ ((keysOf (stL ka kb kc)).take i).flatMap fun x => prs1 (keysOf (stL ka kb kc)) x (aboveL x)).map tupV)) ∧ m "told" = some (.ref t) ∧ m "files" = some (.ref f)) (fun _ _ _ => False)
   (fun j m σ' h => h.1.keep _ _ htf.symm xf) _ ?_ ?_ (fun _ _ _ h => h.elim) _ _ ⟨Only.refl, by simpa using xt3, by simp, by simp⟩
  ·rintro i v m σ' Q' hv ⟨h1, h2, mt, mf⟩ n1 n2 n3
   obtain ⟨y, hy, rfl⟩ := key_at hv
   refine ⟨_, rfl, ?_⟩
   have hyk := all_key d.ta d.tb d.tc (st_all (List.mem_of_getElem? hy))
   have hi : i < (stL ka kb kc).length := by have := (List.getElem?_eq_some_iff.mp hy).1; rwa [keysOf, List.length_map] at this
   have yf := h1.keep _ _ htf.symm xf
   have al := above_len hyk
   have fl := flat_len (f := fun x => prs1 (keysOf (stL ka kb kc)) x (aboveL x)) (n := 301) ((keysOf (stL ka kb kc)).take i) fun x hx => Nat.le_trans (prs1_len _ _ _) (above_len (all_key d.ta d.tb d.tc (st_all (List.mem_of_mem_take hx))))
   rw [List.length_take] at fl
   have fl2 : min i (keysOf (stL ka kb kc)).length ≤ 3000 := by exact Nat.le_of_not_lt fun hg => lin [((stL ka kb kc).length), i, (min i (keysOf (stL ka kb kc)).length)] [(1, (.v 0), (.n 3000)), (1, (.a (.v 1) (.n 1)), (.v 0)), (1, (.v 2), (.v 1)), (1, (.a (.n 3000) (.n 1)), (.v 2))] rfl sl hi (Nat.min_le_left (i) ((keysOf (stL ka kb kc)).length)) hg
   rw [seq_eq]
   simp
   refine sp_abv hyk fun r σ₄ g4 hr xr => ?_
   rw [iter_list xr]
   have hrt : r ≠ t := by rintro rfl; rw [h2] at hr; cases hr
   refine above_loop (y := y) (xss := (clL ka kb kc).map (fun x => [x]) ++ ((keysOf (stL ka kb kc)).take i).flatMap fun x => prs1 (keysOf (stL ka kb kc)) x (aboveL x)) htf hrt (g4 _ _ h2) (g4 _ _ yf) xr (by simp [mt]) (by simp [mf]) (by simp) (by rw [List.length_append, List.length_map]; omega) fun m₅ σ₅ o5 x5 ho => ?_
   rw [kont_next]
   simp
   refine n1 _ _ ⟨⟨fun z o hz e => o5.keep z o hz (g4 _ _ (h1.keep z o hz e)), fun z e => h1.none z (g4.none (o5.none z e))⟩, ?_, (ho _ (by decide)).trans (by simp [mt]), (ho _ (by decide)).trans (by simp [mf])⟩
   rw [flat_take _ hy, ← List.append_assoc]; exact x5
  ·rintro m σ' ⟨h1, h2, mt, mf⟩
   have tk : (keysOf (stL ka kb kc)).take ((stL ka kb kc).map fun q => V.str q.1).length = keysOf (stL ka kb kc) := List.take_of_length_le (by simp [keysOf])
   rw [tk] at h2
   rw [kont_next, seq_eq]
   simp [T_clashes_4, mt]
   refine ⟨toldL ka kb kc, h2, ?_, fun r hr => ?_⟩
   ·intro l hl
    rcases List.mem_append.mp hl with h | h
    ·obtain ⟨x, _, rfl⟩ := List.mem_map.mp h; simp
    ·obtain ⟨x, _, h⟩ := List.mem_flatMap.mp h
     obtain ⟨u, _, rfl⟩ := List.mem_map.mp h; simp
   ·refine q r _ (fun z o e => ?_) (g2.none (g3.none (h1.none r hr))) (upd_same _ _ _)
    have hzt : z ≠ t := by rintro rfl; rw [htn] at e; cases e
    have e3 := h1.keep z o hzt (g3 _ _ (g2 _ _ e))
    rw [upd_ne (by rintro rfl; rw [e3] at hr; cases hr)]; exact e3
end Mine
end
noncomputable section
set_option maxRecDepth 10000
namespace Mine
open PySem PySem.W PyProof.Rows PySem.Calls
theorem split_ne (x : Str) : Txt.split x (Str.ofString "/") ≠ [] := by
 have := PyProof.Rows.split_pos x (Str.ofString "/")
 intro e; rw [e] at this; simp at this
theorem split_fr (x : Str) : ∀ y ∈ Txt.split x (Str.ofString "/"), Fr y := by
 intro y hy
 rw [sl_eq] at hy
 exact StrLaws.split_free _ 47 y hy
theorem take_ne (y : Str) (i : Nat) : (Txt.split y (Str.ofString "/")).take (i + 1) ≠ [] := by
 intro e
 have h1 := congrArg List.length e
 have h2 := List.length_pos_iff.mpr (split_ne y)
 rw [List.length_take, List.length_nil] at h1; exact False.elim (Or.elim (min_or (i + 1) ((Txt.split y (Str.ofString "/")).length)) (fun hs0 => lin [(min (i + 1) (Txt.split y (Str.ofString "/")).length), i] [(1, (.v 0), (.n 0)), (1, (.a (.v 1) (.n 1)), (.v 0))] rfl (Nat.le_of_eq h1) hs0) (fun hs0 => lin [(min (i + 1) (Txt.split y (Str.ofString "/")).length), ((Txt.split y (Str.ofString "/")).length)] [(1, (.v 0), (.n 0)), (1, (.a (.n 0) (.n 1)), (.v 1)), (1, (.v 1), (.v 0))] rfl (Nat.le_of_eq h1) h2 hs0))
theorem above_iff (x y : Str) : x ∈ aboveL y ↔ Txt.startswith y (x ++ Str.ofString "/") = true := by
 have e := starts_join (split_fr x) (split_fr y) (split_ne x) (split_ne y)
 rw [StrLaws.join_split, StrLaws.join_split] at e
 rw [e, decide_eq_true_eq]
 have hx0 : 0 < (Txt.split x (Str.ofString "/")).length := List.length_pos_iff.mpr (split_ne x)
 simp only [aboveL, List.mem_map, List.mem_range]
 constructor
 ·rintro ⟨i, hi, e⟩
  have h2 := join_inj (xs := (Txt.split y (Str.ofString "/")).take (i + 1)) (fun z hz => split_fr y z (List.mem_of_mem_take hz)) (split_fr x) (take_ne y i) (split_ne x) (by rw [e, StrLaws.join_split])
  rw [← h2, List.length_take, Nat.min_eq_left (by exact Nat.le_of_not_lt fun hg => Or.elim (sub_or ((Txt.split y (Str.ofString "/")).length) (1)) (fun hs0 => lin [i, ((Txt.split y (Str.ofString "/")).length - 1), ((Txt.split y (Str.ofString "/")).length)] [(1, (.a (.v 0) (.n 1)), (.v 1)), (1, (.a (.v 2) (.n 1)), (.a (.v 0) (.n 1))), (1, (.a (.v 1) (.n 1)), (.v 2))] rfl hi hg (Nat.le_of_eq hs0)) (fun hs0 => lin [i, ((Txt.split y (Str.ofString "/")).length - 1)] [(1, (.a (.v 0) (.n 1)), (.v 1)), (1, (.v 1), (.n 0))] rfl hi (Nat.le_of_eq hs0)))]
  exact ⟨by exact Nat.lt_of_not_le fun hg => Or.elim (sub_or ((Txt.split y (Str.ofString "/")).length) (1)) (fun hs0 => lin [i, ((Txt.split y (Str.ofString "/")).length - 1), ((Txt.split y (Str.ofString "/")).length)] [(1, (.a (.v 0) (.n 1)), (.v 1)), (1, (.v 2), (.a (.v 0) (.n 1))), (1, (.a (.v 1) (.n 1)), (.v 2))] rfl hi hg (Nat.le_of_eq hs0)) (fun hs0 => lin [i, ((Txt.split y (Str.ofString "/")).length - 1)] [(1, (.a (.v 0) (.n 1)), (.v 1)), (1, (.v 1), (.n 0))] rfl hi (Nat.le_of_eq hs0)), rfl⟩
 ·rintro ⟨h1, h2⟩
  refine ⟨(Txt.split x (Str.ofString "/")).length - 1, by exact Nat.lt_of_not_le fun hg => lin [((Txt.split x (Str.ofString "/")).length), ((Txt.split y (Str.ofString "/")).length), ((Txt.split x (Str.ofString "/")).length - 1), ((Txt.split y (Str.ofString "/")).length - 1)] [(1, (.a (.v 0) (.n 1)), (.v 1)), (1, (.a (.v 2) (.n 1)), (.v 0)), (1, (.v 1), (.a (.v 3) (.n 1))), (1, (.v 3), (.v 2))] rfl h1 (sub_hi (Nat.le_of_not_lt fun hg => lin [((Txt.split x (Str.ofString "/")).length)] [(1, (.a (.n 0) (.n 1)), (.v 0)), (1, (.a (.v 0) (.n 1)), (.n 1))] rfl hx0 hg)) (sub_lo ((Txt.split y (Str.ofString "/")).length) (1)) hg, ?_⟩
  rw [Nat.sub_add_cancel hx0, h2, StrLaws.join_split]
theorem above_nodup (y : Str) : (aboveL y).Nodup := by
 unfold aboveL List.Nodup
 rw [List.pairwise_map]
 refine List.pairwise_lt_range.imp_of_mem fun {i j} hi hj hij e => ?_
 rw [List.mem_range] at hi hj
 have h2 := join_inj (fun z hz => split_fr y z (List.mem_of_mem_take hz)) (fun z hz => split_fr y z (List.mem_of_mem_take hz)) (take_ne y i) (take_ne y j) e
 have h3 := congrArg List.length h2
 rw [List.length_take, List.length_take] at h3; exact False.elim (Or.elim (sub_or ((Txt.split y (Str.ofString "/")).length) (1)) (fun hs0 => Or.elim (min_or (j + 1) ((Txt.split y (Str.ofString "/")).length)) (fun hs1 => lin [i, j, (min (i + 1) (Txt.split y (Str.ofString "/")).length), (min (j + 1) (Txt.split y (Str.ofString "/")).length)] [(1, (.a (.v 0) (.n 1)), (.v 1)), (1, (.v 3), (.v 2)), (1, (.v 2), (.a (.v 0) (.n 1))), (1, (.a (.v 1) (.n 1)), (.v 3))] rfl hij (Nat.le_of_eq (Eq.symm h3)) (Nat.min_le_left (i + 1) ((Txt.split y (Str.ofString "/")).length)) hs1) (fun hs1 => lin [i, ((Txt.split y (Str.ofString "/")).length - 1), j, (min (i + 1) (Txt.split y (Str.ofString "/")).length), (min (j + 1) (Txt.split y (Str.ofString "/")).length), ((Txt.split y (Str.ofString "/")).length)] [(1, (.a (.v 2) (.n 1)), (.v 1)), (1, (.a (.v 0) (.n 1)), (.v 2)), (1, (.v 4), (.v 3)), (1, (.v 3), (.a (.v 0) (.n 1))), (1, (.a (.v 1) (.n 1)), (.v 5)), (1, (.v 5), (.v 4))] rfl hj hij (Nat.le_of_eq (Eq.symm h3)) (Nat.min_le_left (i + 1) ((Txt.split y (Str.ofString "/")).length)) (Nat.le_of_eq hs0) hs1)) (fun hs0 => lin [i, ((Txt.split y (Str.ofString "/")).length - 1), j] [(1, (.a (.v 2) (.n 1)), (.v 1)), (1, (.a (.v 0) (.n 1)), (.v 2)), (1, (.v 1), (.n 0))] rfl hj hij (Nat.le_of_eq hs0)))
theorem upps_iff (x y : Str) : x ∈ upps y ↔ Txt.startswith y (x ++ Str.ofString "/") = true := by
 rw [starts_iff, cl_append, sl_cl]
 unfold upps
 simp only [List.mem_filterMap, List.mem_range]
 constructor
 ·rintro ⟨i, hi, e⟩
  split at e
  ·rename_i h
   cases e
   show (cl y).take i ++ [47] <+: cl y
   refine ⟨(cl y).drop (i + 1), ?_⟩
   have h1 : (cl y).take (i + 1) = (cl y).take i ++ [47] := by rw [List.take_add_one, h]; rfl
   rw [← h1, List.take_append_drop]
  ·cases e
 ·rintro ⟨t, e⟩
  have hl : (cl x).length < (cl y).length := by rw [← e]; simp
  refine ⟨(cl x).length, hl, ?_⟩
  have h1 : (cl y)[(cl x).length]? = some 47 := by rw [← e, List.append_assoc, List.getElem?_append_right (Nat.le_refl _), Nat.sub_self]; rfl
  have h2 : (cl y).take (cl x).length = cl x := by rw [← e, List.append_assoc, List.take_left]
  rw [if_pos h1, h2]
theorem upps_nodup (y : Str) : (upps y).Nodup := by
 unfold upps
 refine List.Pairwise.filterMap _ (fun i j hij b hb b' hb' e => ?_) (List.pairwise_lt_range (n := (cl y).length))
 split at hb <;> first | cases hb | skip
 split at hb' <;> first | cases hb' | skip
 rename_i h1 h2
 have hj := (List.getElem?_eq_some_iff.mp h2).1
 have := congrArg (fun s => (cl s).length) e
 simp only [cl] at this
 have h3 : ((cl y).take i).length = ((cl y).take j).length := this
 rw [List.length_take, List.length_take] at h3; exact False.elim (Or.elim (min_or (i) ((cl y).length)) (fun hs0 => Or.elim (min_or (j) ((cl y).length)) (fun hs1 => lin [i, j, (min i (cl y).length), (min j (cl y).length)] [(1, (.a (.v 0) (.n 1)), (.v 1)), (1, (.v 3), (.v 2)), (1, (.v 2), (.v 0)), (1, (.v 1), (.v 3))] rfl hij (Nat.le_of_eq (Eq.symm h3)) (Nat.min_le_left (i) ((cl y).length)) hs1) (fun hs1 => lin [i, j, ((cl y).length), (min i (cl y).length), (min j (cl y).length)] [(1, (.a (.v 0) (.n 1)), (.v 1)), (1, (.a (.v 1) (.n 1)), (.v 2)), (1, (.v 4), (.v 3)), (1, (.v 3), (.v 0)), (1, (.v 2), (.v 4))] rfl hij hj (Nat.le_of_eq (Eq.symm h3)) (Nat.min_le_left (i) ((cl y).length)) hs1)) (fun hs0 => lin [i, j, ((cl y).length), (min i (cl y).length)] [(1, (.a (.v 0) (.n 1)), (.v 1)), (1, (.a (.v 1) (.n 1)), (.v 2)), (1, (.v 3), (.v 0)), (1, (.v 2), (.v 3))] rfl hij hj (Nat.min_le_left (i) ((cl y).length)) hs0))
theorem upps_perm (y : Str) : (upps y).Perm (aboveL y) := perm_of_mem (upps_nodup y) (above_nodup y) fun z => (upps_iff z y).trans (above_iff z y).symm
theorem upps_len {x : Str} (h : x.length ≤ 300) : (upps x).length ≤ 301 := by rw [(upps_perm x).length_eq]; exact above_len h
theorem flat_perm {α β : Type} {f g : α → List β} (h : ∀ a, (f a).Perm (g a)) : ∀ l : List α, (l.flatMap f).Perm (l.flatMap g)
 | [] => .nil
 | a :: l => (h a).append (flat_perm h l)
noncomputable def dueL (ks cs : List Str) : List (List Str) := cs.map (fun x => [x]) ++ ks.flatMap fun x => prs1 ks x (upps x)
theorem due_perm (a b c : List (Str × V)) : (dueL (keysOf (stL a b c)) (clL a b c)).Perm (toldL a b c) :=
 List.Perm.append_left _ (flat_perm (fun x => ((upps_perm x).filter _).map _) _)
theorem due_ne {ks cs l} (hl : l ∈ dueL ks cs) : l ≠ [] := by
 rcases List.mem_append.mp hl with h | h
 ·obtain ⟨x, _, rfl⟩ := List.mem_map.mp h; simp
 ·obtain ⟨x, _, h⟩ := List.mem_flatMap.mp h
  obtain ⟨u, _, rfl⟩ := List.mem_map.mp h; simp
noncomputable def mdF (a b c : List (Str × V)) (x : Str) : Option (Str × V) := (stand (gS a x) (gS b x) (gS c x)).map fun _ => (x, V.bool true)
theorem md_keys (a b c : List (Str × V)) (ks : List Str) : keysOf (ks.filterMap (mdF a b c)) = keysOf (ks.filterMap fun x => (stand (gS a x) (gS b x) (gS c x)).map fun y => (x, V.str y)) := by
 unfold keysOf
 rw [List.map_filterMap, List.map_filterMap]
 refine congrArg (List.filterMap · _) (funext fun x => ?_)
 unfold mdF
 cases stand (gS a x) (gS b x) (gS c x) <;> rfl
theorem all_mem_take {a b c : List (Str × V)} {i : Nat} {y : Str} (hy : (allK a b c)[i]? = some y) : y ∉ (allK a b c).take i := fun h3 => by
 obtain ⟨j, hj⟩ := List.getElem?_of_mem h3
 rw [List.getElem?_take] at hj
 split at hj
 ·rename_i hji
  exact absurd ((List.getElem?_inj (List.getElem?_eq_some_iff.mp hj).1 (all_nodup a b c)).mp (hj.trans hy.symm)) (Nat.ne_of_lt hji)
 ·cases hj
theorem md_mem {a b c : List (Str × V)} {ks : List Str} {x : Str} (h : x ∈ (ks.filterMap (mdF a b c)).map (·.1)) : x ∈ ks := by
 have h' : x ∈ keysOf (ks.filterMap (mdF a b c)) := h
 rw [md_keys] at h'
 exact st_key h'
theorem vNone_toV (o : Option Str) : vNone (toV o) = !o.isSome := by cases o <;> rfl
theorem due_loop1 {m₀ : Loc} {σ₀ : View} {a b c t f l : Addr} {ka kb kc : List (Str × V)} {e1 e2 e3 ef : Nat} {Q : Fl → Loc → View → Prop} (d : D3 1000 a b c ka kb kc e1 e2 e3 σ₀) (htf : t ≠ f) (xt : σ₀ t = some (.list [])) (xf : σ₀ f = some (.dict [] ef)) (xl : σ₀ l = some (.list ((allK ka kb kc).map .str))) (htl : l ≠ t)
  (haf : a ≠ f) (hbf : b ≠ f) (hcf : c ≠ f) (me : m₀ "_law_elder_here" = some (.ref a)) (mo : m₀ "_law_one" = some (.ref b)) (mh : m₀ "_law_other" = some (.ref c)) (mt : m₀ "_law_due_here" = some (.ref t)) (mf : m₀ "_law_made" = some (.ref f))
  (h : ∀ m σ' ep, (∀ z o, z ≠ t → z ≠ f → σ₀ z = some o → σ' z = some o) → (∀ z, σ' z = Option.none → σ₀ z = Option.none) → σ' t = some (.list (((clL ka kb kc).map fun x => [x]).map tupV)) → σ' f = some (.dict ((allK ka kb kc).filterMap (mdF ka kb kc)) ep) → m "_law_due_here" = some (.ref t) → m "_law_made" = some (.ref f) → Q .next m σ') :
  forL (.name "_law_path") (fun σ => σ l = some (.list ((allK ka kb kc).map .str))) (sSeq (sSet "_law_was" (eMeth tyDict spGet (eName "_law_elder_here") (lCons (eName "_law_path") lNil)))
 (sSeq (sSet "_law_left" (eMeth tyDict spGet (eName "_law_one") (lCons (eName "_law_path") lNil)))
 (sSeq (sSet "_law_right" (eMeth tyDict spGet (eName "_law_other") (lCons (eName "_law_path") lNil)))
 (sSeq (sIf (tAnd (tBool (eBin opNe0 (eName "_law_left") (eName "_law_right"))) (tAnd (tBool (eBin opNe0 (eName "_law_left") (eName "_law_was"))) (tAnd (tBool (eBin opNe0 (eName "_law_right") (eName "_law_was"))) tT))) (sSeq (sExpr (eMeth tyList spAppend (eName "_law_due_here") (lCons (eTup (lCons (eName "_law_path") lNil)) lNil)))
 sNil) (sSeq (sIf (tAnd (tBool (eBin opNe0 (eName "_law_left") (eName "_law_was"))) (tAnd (tBool (eBin opIsNot (eName "_law_left") (eVal .none))) tT)) (sSeq (sSetItem setD (eVal (.bool true)) (eName "_law_made") (eName "_law_path"))
 sNil) (sSeq (sIf (tAnd (tBool (eBin opEq0 (eName "_law_left") (eName "_law_was"))) (tAnd (tBool (eBin opIsNot (eName "_law_right") (eVal .none))) tT)) (sSeq (sSetItem setD (eVal (.bool true)) (eName "_law_made") (eName "_law_path"))
 sNil) sNil)
 sNil))
 sNil))
 sNil)))) ((allK ka kb kc).map .str) m₀ σ₀ Q := by
 have hk := all_len d.ta d.tb d.tc
 have nt : ∀ {z : Addr} {kvs : List (Str × V)} {e : Nat}, σ₀ z = some (.dict kvs e) → z ≠ t := fun {z kvs e} hz => by rintro rfl; rw [xt] at hz; cases hz
 have hlf : l ≠ f := by rintro rfl; rw [xf] at xl; cases xl
 refine forL_inv (fun i m σ' => (∀ z o, z ≠ t → z ≠ f → σ₀ z = some o → σ' z = some o) ∧ (∀ z, σ' z = Option.none → σ₀ z = Option.none) ∧ σ' t = some (.list (((((allK ka kb kc).take i).filter fun x => isCl (gS ka x) (gS kb x) (gS kc x)).map fun x => [x]).map tupV)) ∧ (∃ ep, σ' f = some (.dict (((allK ka kb kc).take i).filterMap (mdF ka kb kc)) ep)) ∧
   ∀ z, z ≠ "_law_path" → z ≠ "_law_was" → z ≠ "_law_left" → z ≠ "_law_right" → m z = m₀ z) (fun _ _ _ => False)
  (fun i m σ' h => h.1 l _ htl hlf xl) _ ?_ ?_ (fun _ _ _ h => h.elim) _ _ ⟨fun _ _ _ _ e => e, fun _ e => e, by simpa using xt, ⟨ef, by simpa using xf⟩, fun _ _ _ _ _ => rfl⟩
 ·rintro i v m σ' Q' hv ⟨h1, h0, h2, ⟨ep, h3⟩, h4⟩ n1 n2 n3
  obtain ⟨y, hy, rfl⟩ := vstr_at hv
  refine ⟨_, rfl, ?_⟩
  have ya := h1 a _ (nt d.xa) haf d.xa
  have yb := h1 b _ (nt d.xb) hbf d.xb
  have yc := h1 c _ (nt d.xc) hcf d.xc
  have w1 := (h4 "_law_elder_here" (by decide) (by decide) (by decide) (by decide)).trans me
  have w2 := (h4 "_law_one" (by decide) (by decide) (by decide) (by decide)).trans mo
  have w3 := (h4 "_law_other" (by decide) (by decide) (by decide) (by decide)).trans mh
  have w4 := (h4 "_law_due_here" (by decide) (by decide) (by decide) (by decide)).trans mt
  have w5 := (h4 "_law_made" (by decide) (by decide) (by decide) (by decide)).trans mf
  have hl2 : ((((allK ka kb kc).take i).filter fun x => isCl (gS ka x) (gS kb x) (gS kc x)).map fun x => [x]).length ≤ 3000 := by
   rw [List.length_map]
   exact Nat.le_trans (List.length_filter_le _ _) (Nat.le_trans (List.length_take_le' _ _) hk)
  have hl3 := fm_len (mdF ka kb kc) (allK ka kb kc) i
  have ft : ((allK ka kb kc).take (i + 1)).filter (fun x => isCl (gS ka x) (gS kb x) (gS kc x)) = (((allK ka kb kc).take i).filter fun x => isCl (gS ka x) (gS kb x) (gS kc x)) ++ if isCl (gS ka y) (gS kb y) (gS kc y) then [y] else [] := by
   rw [List.take_add_one, hy, List.filter_append]
   cases hc : isCl (gS ka y) (gS kb y) (gS kc y) <;> simp [hc]
  have fm := fm_take (mdF ka kb kc) (allK ka kb kc) hy
  have hnew : y ∉ (((allK ka kb kc).take i).filterMap (mdF ka kb kc)).map (·.1) := fun e => all_mem_take hy (md_mem e)
  have locs : ∀ z, z ≠ "_law_path" → z ≠ "_law_was" → z ≠ "_law_left" → z ≠ "_law_right" → put (put (put (put m "_law_path" (V.str y)) "_law_was" (toV (gS ka y))) "_law_left" (toV (gS kb y))) "_law_right" (toV (gS kc y)) z = m₀ z := fun z z1 z2 z3 z4 => by simp [z1, z2, z3, z4]; exact h4 z z1 z2 z3 z4
  have skip : isCl (gS ka y) (gS kb y) (gS kc y) = false → stand (gS ka y) (gS kb y) (gS kc y) = Option.none → Q' .next (put (put (put (put m "_law_path" (V.str y)) "_law_was" (toV (gS ka y))) "_law_left" (toV (gS kb y))) "_law_right" (toV (gS kc y))) σ' := fun c1 c2 => by
   refine n1 _ _ ⟨h1, h0, ?_, ⟨ep, ?_⟩, locs⟩
   ·rw [ft, c1]; simpa using h2
   ·rw [fm]; unfold mdF; rw [c2, h3]; simp; rfl
  have add1 : ∀ (o : Str) (K : Fl → Loc → View → Prop), (∀ m σ, Q' .next m σ → K .next m σ) → isCl (gS ka y) (gS kb y) (gS kc y) = false → stand (gS ka y) (gS kb y) (gS kc y) = some o → (sSeq (sSetItem setD (eVal (.bool true)) (eName "_law_made") (eName "_law_path")) sNil) (put (put (put (put m "_law_path" (V.str y)) "_law_was" (toV (gS ka y))) "_law_left" (toV (gS kb y))) "_law_right" (toV (gS kc y))) σ' K := fun o K hK c1 c2 => by
   rw [seq_eq]
   simp [w5]
   refine set_dict h3 (by exact Nat.lt_of_le_of_lt (Nat.le_trans hl3 hk) (by decide)) fun ep2 => ?_
   refine hK _ _ (n1 _ _ ⟨fun z o' z1 z2 e => by rw [upd_ne z2]; exact h1 z o' z1 z2 e, fun z e => ?_, ?_, ⟨ep2, ?_⟩, locs⟩)
   ·by_cases hz : z = f
    ·rw [hz, upd_same] at e; cases e
    ·rw [upd_ne hz] at e; exact h0 z e
   ·rw [upd_ne htf, ft, c1]; simpa using h2
   ·rw [upd_same, stored_new hnew, fm]; unfold mdF; rw [c2]; rfl
  have clash1 : isCl (gS ka y) (gS kb y) (gS kc y) = true → (sSeq (sExpr (eMeth tyList spAppend (eName "_law_due_here") (lCons (eTup (lCons (eName "_law_path") lNil)) lNil))) sNil) (put (put (put (put m "_law_path" (V.str y)) "_law_was" (toV (gS ka y))) "_law_left" (toV (gS kb y))) "_law_right" (toV (gS kc y))) σ' (kont sNil Q') := fun c1 => by
   have c2 : stand (gS ka y) (gS kb y) (gS kc y) = Option.none := by unfold stand; rw [if_pos c1]
   rw [seq_eq]
   simp [w4, tyList_ref h2]
   refine append_list h2 (by rw [List.length_map]; exact Nat.lt_of_le_of_lt hl2 (by decide)) ?_
   refine n1 _ _ ⟨fun z o' z1 z2 e => by rw [upd_ne z1]; exact h1 z o' z1 z2 e, fun z e => ?_, ?_, ⟨ep, ?_⟩, locs⟩
   ·by_cases hz : z = t
    ·rw [hz, upd_same] at e; cases e
    ·rw [upd_ne hz] at e; exact h0 z e
   ·rw [upd_same, ft, c1]; simp [tupV]
   ·rw [upd_ne htf.symm, fm]; unfold mdF; rw [c2, h3]; simp; rfl
  rw [seq_eq]
  simp [w1]
  refine get_tr ya d.ta ?_
  rw [seq_eq]
  simp [w2]
  refine get_tr yb d.tb ?_
  rw [seq_eq]
  simp [w3]
  refine get_tr yc d.tc ?_
  clear locs ft fm
  generalize gS ka y = W at skip add1 clash1 ⊢
  generalize gS kb y = L at skip add1 clash1 ⊢
  generalize gS kc y = R at skip add1 clash1 ⊢
  have els : isCl W L R = false → (sSeq (sIf (tAnd (tBool (eBin opNe0 (eName "_law_left") (eName "_law_was"))) (tAnd (tBool (eBin opIsNot (eName "_law_left") (eVal .none))) tT)) (sSeq (sSetItem setD (eVal (.bool true)) (eName "_law_made") (eName "_law_path"))
    sNil) (sSeq (sIf (tAnd (tBool (eBin opEq0 (eName "_law_left") (eName "_law_was"))) (tAnd (tBool (eBin opIsNot (eName "_law_right") (eVal .none))) tT)) (sSeq (sSetItem setD (eVal (.bool true)) (eName "_law_made") (eName "_law_path"))
    sNil) sNil) sNil)) sNil) (put (put (put (put m "_law_path" (V.str y)) "_law_was" (toV W)) "_law_left" (toV L)) "_law_right" (toV R)) σ' (kont sNil Q') := by
   intro c1
   rw [seq_eq]
   by_cases q1 : L = W
   ·subst q1
    have c2 : stand L L R = R := by unfold stand; rw [c1, if_pos rfl]; rfl
    simp
    rw [seq_eq]
    cases R with
    | none => simpa [vNone_toV] using skip c1 c2
    | some o => simpa [vNone_toV] using add1 o _ (fun m σ h => by simpa using h) c1 c2
   ·have c2 : stand W L R = L := by unfold stand; rw [c1, if_neg q1]; rfl
    cases L with
    | none =>
     simp [q1, vNone_toV]
     rw [seq_eq]
     simpa [q1, vNone_toV] using skip c1 c2
    | some o => simpa [vNone_toV, q1] using add1 o _ (fun m σ h => by simpa using h) c1 c2
  clear skip add1
  rw [seq_eq]
  by_cases q0 : L = R
  ·have c1 : isCl W L R = false := by unfold isCl; simp [q0]
   subst q0
   simpa using els c1
  by_cases q1 : L = W
  ·have c1 : isCl W L R = false := by unfold isCl; simp [q1]
   subst q1
   simpa [q0] using els c1
  by_cases q2 : R = W
  ·have c1 : isCl W L R = false := by unfold isCl; simp [q2]
   subst q2
   simpa [q0] using els c1
  have c1 : isCl W L R = true := by unfold isCl; simp [q0, q1, q2]
  simpa [q0, q1, q2] using clash1 c1
 ·rintro m σ' ⟨h1, h0, h2, ⟨ep, h3⟩, h4⟩
  rw [List.length_map, List.take_length] at h2 h3
  exact h m σ' ep h1 h0 h2 h3 ((h4 _ (by decide) (by decide) (by decide) (by decide)).trans mt) ((h4 _ (by decide) (by decide) (by decide) (by decide)).trans mf)
end Mine
end
noncomputable section
set_option maxRecDepth 10000
namespace Mine
open PySem PySem.W PyProof.Rows PySem.Calls
theorem fresh_ne {σ : View} {a b : Addr} {o : AObj} (h : σ a = some o) (hb : σ b = Option.none) : a ≠ b := by rintro rfl; rw [h] at hb; cases hb
theorem sort_all {m : Loc} {σ : View} {X Y Z : String} {a b c : Addr} {ka kb kc : List (Str × V)} {e1 e2 e3 : Nat} {Q : V → View → Prop} (d : D3 1000 a b c ka kb kc e1 e2 e3 σ) (mx : m X = some (.ref a)) (my : m Y = some (.ref b)) (mz : m Z = some (.ref c))
  (q : ∀ l σ', Grow σ σ' → σ l = Option.none → σ' l = some (.list ((allK ka kb kc).map .str)) → Q (.ref l) σ') :
  eSortSet (eBin opAdd (eBin opAdd (eCall spListD (lCons (eName X) lNil)) (eCall spListD (lCons (eName Y) lNil))) (eCall spListD (lCons (eName Z) lNil))) m σ Q := by
 have la := d.ta.len
 have lb := d.tb.len
 have lc := d.tc.len
 unfold eSortSet
 simp [mx]
 rw [listc_dict d.xa]
 intro p1 hp1
 have g1 : Grow σ (upd σ p1 (.list (ka.map fun q => .str q.1))) := Grow.refl.upd hp1
 have xp1 := upd_same σ p1 (.list (ka.map fun q => .str q.1))
 generalize (upd σ p1 (.list (ka.map fun q => .str q.1))) = σ₁ at g1 xp1 ⊢
 simp [my]
 rw [listc_dict (g1 _ _ d.xb)]
 intro p2 hp2
 have g2 : Grow σ₁ (upd σ₁ p2 (.list (kb.map fun q => .str q.1))) := Grow.refl.upd hp2
 have xp2 := upd_same σ₁ p2 (.list (kb.map fun q => .str q.1))
 generalize (upd σ₁ p2 (.list (kb.map fun q => .str q.1))) = σ₂ at g2 xp2 ⊢
 refine add_list (g2 _ _ xp1) xp2 (by simp; exact Nat.le_of_not_lt fun hg => lin [(ka.length), (kb.length)] [(1, (.v 0), (.n 1000)), (1, (.v 1), (.n 1000)), (1, (.a (.n 16777216) (.n 1)), (.a (.v 0) (.v 1)))] rfl la lb hg) ?_
 intro p3 hp3
 have g3 : Grow σ₂ (upd σ₂ p3 (.list ((ka.map fun q => V.str q.1) ++ kb.map fun q => .str q.1))) := Grow.refl.upd hp3
 have xp3 := upd_same σ₂ p3 (.list ((ka.map fun q => V.str q.1) ++ kb.map fun q => .str q.1))
 generalize (upd σ₂ p3 (.list ((ka.map fun q => V.str q.1) ++ kb.map fun q => .str q.1))) = σ₃ at g3 xp3 ⊢
 simp [mz]
 rw [listc_dict (g3 _ _ (g2 _ _ (g1 _ _ d.xc)))]
 intro p4 hp4
 have g4 : Grow σ₃ (upd σ₃ p4 (.list (kc.map fun q => .str q.1))) := Grow.refl.upd hp4
 have xp4 := upd_same σ₃ p4 (.list (kc.map fun q => .str q.1))
 generalize (upd σ₃ p4 (.list (kc.map fun q => .str q.1))) = σ₄ at g4 xp4 ⊢
 refine add_list (g4 _ _ xp3) xp4 (by simp; exact Nat.le_of_not_lt fun hg => lin [(ka.length), (kb.length), (kc.length)] [(1, (.v 0), (.n 1000)), (1, (.v 1), (.n 1000)), (1, (.v 2), (.n 1000)), (1, (.a (.n 16777216) (.n 1)), (.a (.a (.v 0) (.v 1)) (.v 2)))] rfl la lb lc hg) ?_
 intro p5 hp5
 refine ⟨p5, rfl, keysOf ka ++ keysOf kb ++ keysOf kc, by rw [upd_same]; simp [keysOf]; rfl, by simp [keysOf]; exact Nat.le_of_not_lt fun hg => lin [(ka.length), (kb.length), (kc.length)] [(1, (.v 0), (.n 1000)), (1, (.v 1), (.n 1000)), (1, (.v 2), (.n 1000)), (1, (.a (.n 4000) (.n 1)), (.a (.v 0) (.a (.v 1) (.v 2))))] rfl la lb lc hg, ?_⟩
 generalize hs : upd σ₄ p5 _ = σ₅
 have g5 : Grow σ₄ σ₅ := by rw [← hs]; exact Grow.refl.upd hp5
 intro l hl
 have g6 := (((g1.trans g2).trans g3).trans g4).trans g5
 exact q l _ (g6.upd hl) (g6.none hl) (upd_same _ _ _)
theorem s_due (ns : List Int) : ∀ vs σ Q, sp__law_due ns vs σ Q → vs.length = 3 ∧ T__law_due ns (bindM ["_law_elder_here", "_law_one", "_law_other"] vs none') σ (fin Q) := by
 rintro vs σ Q ⟨a, b, c, ka, kb, kc, e1, e2, e3, rfl, d, q⟩
 refine ⟨rfl, ?_⟩
 have kl := cl_len3 d.ta d.tb d.tc
 have sl := st_len d.ta d.tb d.tc
 unfold T__law_due
 rw [seq_eq]
 simp [T__law_due_1]
 intro t ht
 have g1 : Grow σ (upd σ t (.list [])) := Grow.refl.upd ht
 have xt := upd_same σ t (.list [])
 generalize (upd σ t (.list [])) = σ₁ at g1 xt ⊢
 rw [seq_eq]
 simp [T__law_due_2]
 intro f ef hf
 have hfn := g1.none hf
 have htf := fresh_ne xt hf
 have g2 : Grow σ₁ (upd σ₁ f (.dict [] ef)) := Grow.refl.upd hf
 have xf := upd_same σ₁ f (.dict [] ef)
 generalize (upd σ₁ f (.dict [] ef)) = σ₂ at g2 xf ⊢
 have xt2 := g2 _ _ xt
 have d2 := (d.grow g1).grow g2
 show sSeq _ _ _ _ _
 rw [seq_eq]
 simp [T__law_due_3, -eSortSet_eq]
 refine sort_all d2 (by simp) (by simp) (by simp) fun l σ₃ g3 hl xl => ?_
 rw [iter_list xl]
 have ne : ∀ {z : Addr} {o : AObj}, σ z = some o → z ≠ f := fun {z o} h => fresh_ne h hfn
 refine due_loop1 (d2.grow g3) htf (g3 _ _ xt2) (g3 _ _ xf) xl (by rintro rfl; rw [xt2] at hl; cases hl) (ne d.xa) (ne d.xb) (ne d.xc) (by simp) (by simp) (by simp) (by simp) (by simp) fun m₄ σ₄ ep4 k1 k0 k2 k3 mt mf => ?_
 rw [kont_next, seq_eq]
 simp [T__law_due_4, mf, iter_dict k3]
 have keys : keysOf ((allK ka kb kc).filterMap (mdF ka kb kc)) = keysOf (stL ka kb kc) := md_keys ka kb kc _
 have mlen : ((allK ka kb kc).filterMap (mdF ka kb kc)).length ≤ 3000 := Nat.le_trans (List.length_filterMap_le _ _) (all_len d.ta d.tb d.tc)
 generalize hmd : (allK ka kb kc).filterMap (mdF ka kb kc) = md at k3 keys mlen ⊢
 generalize hks : keysOf (stL ka kb kc) = ks at keys
 have hkey : ∀ y ∈ keysOf md, y.length ≤ 300 := fun y hy => all_key d.ta d.tb d.tc (st_all (by rw [hks, ← keys]; exact hy))
 refine forL_inv (fun i m σ' => Grow σ₄ σ' ∧ (∃ t', m "_law_due_here" = some (.ref t') ∧ σ' t' = some (.list (((clL ka kb kc).map (fun x => [x]) ++ ((keysOf md).take i).flatMap fun x => prs1 (keysOf md) x (upps x)).map tupV))) ∧ m "_law_made" = some (.ref f)) (fun _ _ _ => False)
  (fun j m σ' h => h.1 _ _ k3) _ ?_ ?_ (fun _ _ _ h => h.elim) _ _ ⟨Grow.refl, ⟨t, mt, by simpa using k2⟩, mf⟩
 ·rintro i v m σ' Q' hv ⟨h1, ⟨t', m1, h2⟩, m2⟩ n1 n2 n3
  obtain ⟨y, hy, rfl⟩ := key_at hv
  refine ⟨_, rfl, ?_⟩
  have hym := List.mem_of_getElem? hy
  have hyk := hkey y hym
  have yf := h1 _ _ k3
  have ul := upps_len hyk
  have fl := flat_len (f := fun x => prs1 (keysOf md) x (upps x)) (n := 301) ((keysOf md).take i) fun x hx => Nat.le_trans (prs1_len _ _ _) (upps_len (hkey x (List.mem_of_mem_take hx)))
  rw [List.length_take] at fl
  have fl2 : min i (keysOf md).length ≤ 3000 := by unfold keysOf; rw [List.length_map]; exact Nat.le_of_not_lt fun hg => lin [(md.length), (min i md.length)] [(1, (.v 0), (.n 3000)), (1, (.v 1), (.v 0)), (1, (.a (.n 3000) (.n 1)), (.v 1))] rfl mlen (Nat.min_le_right (i) (md.length)) hg
  rw [seq_eq]
  simp [m1]
  refine sp_upp hyk fun r σ₅ g5 hr xr => ?_
  rw [iter_list xr]
  refine compL_filter (fun s => s = σ₅) (fun s hs => by rw [hs]; exact xr) (fun v => match v with | .str u => if u ∈ keysOf md then some (.tup [.str u, .str y]) else Option.none | _ => Option.none) _ _ _ _ (by simp; exact Nat.le_trans ul (by decide)) ?_ rfl ?_
  ·rintro v hv s Q₁ Q₂ rfl p1 p2
   obtain ⟨u, hu, rfl⟩ := List.mem_map.mp hv
   refine ⟨_, rfl, ?_⟩
   simp [m2]
   refine in_dict (g5 _ _ yf) ?_
   rw [vget_isSome]
   by_cases hin : u ∈ keysOf md
   ·have h' : u ∈ md.map (·.1) := hin
    simp only [h', decide_true, isB_bool, if_true]
    exact p1 _ _ rfl (by simp [hin])
   ·have h' : u ∉ md.map (·.1) := hin
    simp only [h', decide_false, isB_bool, Bool.false_eq_true, if_false]
    exact p2 _ rfl (by simp [hin])
  ·rintro s rfl w hw
   rw [List.nil_append]
   have e : ((upps y).map V.str).filterMap (fun v => match v with | .str u => if u ∈ keysOf md then some (V.tup [.str u, .str y]) else Option.none | _ => Option.none) = (prs1 (keysOf md) y (upps y)).map tupV := by
    unfold prs1
    rw [List.filterMap_map, List.map_map, map_filter_fm]
    refine congrArg (List.filterMap · _) (funext fun u => ?_)
    by_cases hu : u ∈ keysOf md <;> simp [hu, tupV]
   rw [e]
   have pl := prs1_len (keysOf md) y (upps y)
   have htw : t' ≠ w := fresh_ne (g5 _ _ h2) hw
   refine add_list (by rw [upd_ne htw]; exact g5 _ _ h2) (upd_same _ _ _) (by rw [List.length_map, List.length_map, List.length_append, List.length_map]; omega) fun z hz => ?_
   refine n1 _ _ ⟨((h1.trans g5).upd hw).upd hz, ⟨z, by simp, ?_⟩, by simp [m2]⟩
   rw [upd_same, flat_take _ hy, ← List.append_assoc, List.map_append (l₂ := prs1 _ _ _)]
 ·rintro m σ' ⟨h1, ⟨t', m1, h2⟩, m2⟩
  have tk : (keysOf md).take (md.map fun q => V.str q.1).length = keysOf md := List.take_of_length_le (by simp [keysOf])
  rw [tk] at h2
  rw [kont_next, seq_eq]
  simp [T__law_due_5, m1]
  refine ⟨dueL (keysOf md) (clL ka kb kc), h2, fun l hl => due_ne hl, fun r hr => ?_⟩
  have e : tsrt (dueL (keysOf md) (clL ka kb kc)) = clsL ka kb kc := by rw [keys, ← hks]; exact tsrt_congr (due_perm ka kb kc)
  rw [e]
  have hr3 := k0 r (h1.none hr)
  refine q r _ (fun z o ez => ?_) (g1.none (g2.none (g3.none hr3))) (upd_same _ _ _)
  have z1 : z ≠ t := fresh_ne ez ht
  have e3 := h1 _ _ (k1 z o z1 (ne ez) (g3 _ _ (g2 _ _ (g1 _ _ ez))))
  rw [upd_ne (fresh_ne e3 hr)]; exact e3
end Mine
end
noncomputable section
set_option maxRecDepth 10000
namespace Mine
open PySem PySem.W PyProof.Rows PySem.Calls
theorem isCl_turn (w m t : Option Str) : isCl w m t = isCl w t m := by
 unfold isCl
 by_cases h : m = t
 ·subst h; rfl
 ·have h' : ¬ t = m := fun e => h e.symm
  by_cases h2 : m = w <;> by_cases h3 : t = w <;> simp [h, h', h2, h3]
theorem stand_turn (w m t : Option Str) : stand w m t = stand w t m := by
 unfold stand
 rw [isCl_turn w m t]
 cases h : isCl w t m with
 | true => rfl
 | false =>
  simp only [Bool.false_eq_true, if_false]
  by_cases h2 : m = w
  ·by_cases h3 : t = w
   ·rw [if_pos h2, if_pos h3, h2, h3]
   ·rw [if_pos h2, if_neg h3]
  ·by_cases h3 : t = w
   ·rw [if_neg h2, if_pos h3]
   ·rw [if_neg h2, if_neg h3]
    unfold isCl at h
    simp [h2, h3] at h
    exact h.symm
theorem allK_turn (a b c : List (Str × V)) : allK a b c = allK a c b := srt_same (uniq_nodup _) (uniq_nodup _) fun z => by
 rw [uniq_mem, uniq_mem]; simp [or_comm, or_left_comm]
theorem told_turn (a b c : List (Str × V)) : toldL a c b = toldL a b c := by
 have e1 : clL a c b = clL a b c := by
  unfold clL
  rw [allK_turn a c b]
  exact congrArg (List.filter · _) (funext fun x => isCl_turn _ _ _)
 have e2 : stL a c b = stL a b c := by
  unfold stL
  rw [allK_turn a c b]
  exact congrArg (List.filterMap · _) (funext fun x => by rw [stand_turn])
 unfold toldL
 rw [e1, e2]
theorem one_side {W L R : Option Str} {o : Str} (h : stand W L R = some o) (hx : ¬ (L.isSome = true ∧ R.isSome = true)) : W = Option.none ∧ L.isSome ≠ R.isSome := by
 unfold stand isCl at h
 cases L with
 | none => cases R with
  | none => cases W <;> simp at h
  | some r => cases W with
   | none => exact ⟨rfl, by simp⟩
   | some w => by_cases e : r = w <;> simp [e] at h
 | some l => cases R with
  | some r => exact absurd ⟨rfl, rfl⟩ hx
  | none => cases W with
   | none => exact ⟨rfl, by simp⟩
   | some w => by_cases e : l = w <;> simp [e] at h
theorem Tr.some {n : Nat} {kvs : List (Str × V)} (t : Tr n kvs) (x : Str) : (gS kvs x).isSome = decide (x ∈ keysOf kvs) := by
 unfold gS
 by_cases h : x ∈ kvs.map (·.1)
 ·obtain ⟨v, h1, h2⟩ := vget_mem h
  obtain ⟨y, hy⟩ := t.val _ h2
  simp at hy
  subst hy
  rw [h1, decide_eq_true (p := x ∈ keysOf kvs) h]; rfl
 ·have h' : (vget kvs x).isSome = false := by rw [vget_isSome, decide_eq_false h]
  rw [Option.isSome_eq_false_iff, Option.isNone_iff_eq_none] at h'
  rw [h', decide_eq_false (p := x ∈ keysOf kvs) h]; rfl
theorem st_some {a b c : List (Str × V)} {x : Str} (h : x ∈ keysOf (stL a b c)) : ∃ o, stand (gS a x) (gS b x) (gS c x) = some o := by
 obtain ⟨q, hq, rfl⟩ := List.mem_map.mp h
 obtain ⟨y, hy, e⟩ := List.mem_filterMap.mp hq
 obtain ⟨z, hz, rfl⟩ := Option.map_eq_some_iff.mp e
 exact ⟨z, hz⟩
structure Pr (ka kb kc : List (Str × V)) (u x : Str) : Prop where
 u1 : u ∉ keysOf ka
 u2 : (decide (u ∈ keysOf kb) : Bool) ≠ decide (u ∈ keysOf kc)
 x1 : x ∉ keysOf ka
 x2 : (decide (x ∈ keysOf kb) : Bool) ≠ decide (x ∈ keysOf kc)
 d : (decide (u ∈ keysOf kb) : Bool) ≠ decide (x ∈ keysOf kb)
theorem pr_of {ka kb kc : List (Str × V)} (fa : Fre 1000 ka) (fb : Fre 1000 kb) (fc : Fre 1000 kc) {u x : Str} (hu : u ∈ keysOf (stL ka kb kc)) (hx : x ∈ keysOf (stL ka kb kc)) (ha : u ∈ aboveL x) : Pr ka kb kc u x := by
 have nc : clr u x = false := by unfold clr; rw [(above_iff u x).mp ha]; rfl
 have no : ∀ {k : List (Str × V)}, Fre 1000 k → ¬ (u ∈ keysOf k ∧ x ∈ keysOf k) := fun f h => by rw [f.fr u h.1 x h.2] at nc; cases nc
 obtain ⟨o, ho⟩ := st_some hu
 obtain ⟨p, hp⟩ := st_some hx
 have sb := fb.tr.some
 have sc := fc.tr.some
 have sa := fa.tr.some
 have some_of : ∀ {z : Str} {o : Str}, stand (gS ka z) (gS kb z) (gS kc z) = some o → z ∈ keysOf kb ∨ z ∈ keysOf kc := fun {z o} h => by
  unfold stand at h
  split at h
  ·cases h
  ·split at h
   ·exact .inr (of_decide_eq_true (by rw [← sc z, h]; rfl))
   ·exact .inl (of_decide_eq_true (by rw [← sb z, h]; rfl))
 have mu := some_of ho
 have mx := some_of hp
 have nb := no fb
 have nC := no fc
 have u3 : ¬ ((gS kb u).isSome = true ∧ (gS kc u).isSome = true) := by
  rw [sb, sc, decide_eq_true_eq, decide_eq_true_eq]
  exact fun h => mx.elim (fun e => nb ⟨h.1, e⟩) fun e => nC ⟨h.2, e⟩
 have x3 : ¬ ((gS kb x).isSome = true ∧ (gS kc x).isSome = true) := by
  rw [sb, sc, decide_eq_true_eq, decide_eq_true_eq]
  exact fun h => mu.elim (fun e => nb ⟨e, h.1⟩) fun e => nC ⟨e, h.2⟩
 obtain ⟨hu1, hu2⟩ := one_side ho u3
 obtain ⟨hx1, hx2⟩ := one_side hp x3
 rw [sb, sc] at hu2 hx2
 refine ⟨fun h => ?_, hu2, fun h => ?_, hx2, fun e => ?_⟩
 ·have := sa u; rw [hu1, decide_eq_true h] at this; cases this
 ·have := sa x; rw [hx1, decide_eq_true h] at this; cases this
 ·by_cases hub : u ∈ keysOf kb
  ·rw [decide_eq_true hub] at e
   exact nb ⟨hub, of_decide_eq_true e.symm⟩
  ·rw [decide_eq_false hub] at e
   have hxb : x ∉ keysOf kb := of_decide_eq_false e.symm
   exact nC ⟨mu.resolve_left hub, mx.resolve_left hxb⟩
theorem told_cases {ka kb kc : List (Str × V)} {l : List Str} (h : l ∈ toldL ka kb kc) : (∃ x, l = [x] ∧ isCl (gS ka x) (gS kb x) (gS kc x) = true) ∨ ∃ u x, l = [u, x] ∧ u ∈ keysOf (stL ka kb kc) ∧ x ∈ keysOf (stL ka kb kc) ∧ u ∈ aboveL x := by
 rcases List.mem_append.mp h with h | h
 ·obtain ⟨x, hx, rfl⟩ := List.mem_map.mp h
  exact .inl ⟨x, rfl, (List.mem_filter.mp hx).2⟩
 ·obtain ⟨x, hx, h⟩ := List.mem_flatMap.mp h
  obtain ⟨u, hu, rfl⟩ := List.mem_map.mp h
  obtain ⟨h1, h2⟩ := List.mem_filter.mp hu
  exact .inr ⟨u, x, rfl, of_decide_eq_true h2, hx, h1⟩
section
variable {ns : List Int} {σ : View} {Q : V → View → Prop} {v w : V}
theorem item_t1 : opItem ns (.tup [v]) (.int 0) σ Q = Q v σ := by simp [opItem, idx]
theorem item_t20 : opItem ns (.tup [v, w]) (.int 0) σ Q = Q v σ := by simp [opItem, idx]
theorem item_t21 : opItem ns (.tup [v, w]) (.int 1) σ Q = Q w σ := by simp [opItem, idx]
end
theorem s_both (ns : List Int) : ∀ vs σ Q, sp__law_both_changed ns vs σ Q → vs.length = 4 ∧ T__law_both_changed ns (bindM ["_law_clash", "_law_elder_here", "_law_one", "_law_other"] vs none') σ (fin Q) := by
 rintro vs σ Q ⟨l, a, b, c, ka, kb, kc, e1, e2, e3, rfl, d, fa, fb, fc, hl, q⟩
 refine ⟨rfl, ?_⟩
 unfold T__law_both_changed
 rcases told_cases hl with ⟨x, rfl, hc⟩ | ⟨u, x, rfl, hu, hx, hab⟩
 ·rw [seq_eq]
  simp [T__law_both_changed_1, tupV]
  rw [seq_eq]
  simp [item_t1]
  refine get_tr d.xa d.ta ?_
  rw [seq_eq]
  simp [item_t1]
  refine get_tr d.xb d.tb ?_
  rw [seq_eq]
  unfold isCl at hc
  simp at hc
  simp [item_t1, hc]
  refine get_tr d.xc d.tc ?_
  simp [hc]
  refine get_tr d.xc d.tc ?_
  simpa [hc] using q
 ·have P := pr_of fa fb fc hu hx hab
  rw [seq_eq]
  simp [T__law_both_changed_1, tupV]
  rw [seq_eq]
  simp [T__law_both_changed_2, iter_tup]
  refine forL_inv (fun i m σ' => σ' = σ ∧ ∀ z, z ≠ "_law_path" → m z = (put (put (put (put none' "_law_clash" (V.tup [V.str u, V.str x])) "_law_elder_here" (V.ref a)) "_law_one" (V.ref b)) "_law_other" (V.ref c)) z) (fun _ _ _ => False) (fun _ _ _ _ => trivial) _ ?_ ?_ (fun _ _ _ h => h.elim) _ _ ⟨rfl, fun _ _ => rfl⟩
  ·rintro i v m σ' Q' hv ⟨rfl, ho⟩ n1 n2 n3
   obtain ⟨y, rfl, y1, y2⟩ : ∃ y, v = .str y ∧ y ∉ keysOf ka ∧ (decide (y ∈ keysOf kb) : Bool) ≠ decide (y ∈ keysOf kc) := by
    match i, hv with
    | 0, hv => exact ⟨u, (Option.some.inj hv).symm, P.u1, P.u2⟩
    | 1, hv => exact ⟨x, (Option.some.inj hv).symm, P.x1, P.x2⟩
    | i + 2, hv => simp at hv
   refine ⟨_, rfl, ?_⟩
   rw [seq_eq]
   simp [ho]
   refine in_dict d.xa ?_
   rw [vget_isSome]
   have y1' : y ∉ ka.map (·.1) := y1
   simp only [y1', decide_false, isB_bool, Bool.false_eq_true, if_false]
   refine in_dict d.xb ?_
   refine in_dict d.xc ?_
   rw [vget_isSome, vget_isSome]
   have y2' : ¬ ((decide (y ∈ kb.map (·.1)) : Bool) = decide (y ∈ kc.map (·.1))) := y2
   simp [y2']
   exact n1 _ _ ⟨rfl, fun z hz => by rw [put_ne hz]; exact ho z hz⟩
  ·rintro m σ' ⟨rfl, ho⟩
   rw [kont_next, seq_eq]
   simp [T__law_both_changed_3, ho, item_t20, item_t21]
   refine in_dict d.xb ?_
   refine in_dict d.xb ?_
   rw [vget_isSome, vget_isSome]
   have e : (decide (u ∈ kb.map (·.1)) == decide (x ∈ kb.map (·.1))) = false := by
    have := P.d
    unfold keysOf at this
    simpa using this
   simpa [e] using q
end Mine
end
noncomputable section
set_option maxRecDepth 10000
namespace Mine
open PySem PySem.W PyProof.Rows PySem.Calls
theorem tup_flat {n : Nat} (l : List Str) : FlatN (n + 1) (tupV l) := by
 show ∀ v ∈ l.map V.str, FlatN n v
 intro v hv
 obtain ⟨x, _, rfl⟩ := List.mem_map.mp hv
 cases n <;> trivial
section
variable {ns : List Int} {σ : View} {Q : V → View → Prop} {a b c : Addr} {ka kb kc : List (Str × V)} {e1 e2 e3 : Nat}
theorem sp_both {l : List Str} (d : D3 1000 a b c ka kb kc e1 e2 e3 σ) (fa : Fre 1000 ka) (fb : Fre 1000 kb) (fc : Fre 1000 kc) (hl : l ∈ toldL ka kb kc) (q : Q (.bool true) σ) : sp__law_both_changed ns [tupV l, .ref a, .ref b, .ref c] σ Q := ⟨l, a, b, c, ka, kb, kc, e1, e2, e3, rfl, d, fa, fb, fc, hl, q⟩
theorem sp_eld (q : ∀ b kvs' ep' σ', Grow σ σ' → σ b = Option.none → σ' b = some (.dict kvs' ep') → Fre 180 kvs' → Q (.ref b) σ') : sp__law_elder ns [.script] σ Q := ⟨_, rfl, rfl, q⟩
theorem sp_sid {i : Int} (x : σ a = some (.dict ka e1)) (f : Fre 180 ka) (hi : i = 0 ∨ i = 1) (q : ∀ b kvs' ep' σ', Grow σ σ' → σ b = Option.none → σ' b = some (.dict kvs' ep') → Fre 200 kvs' → Q (.ref b) σ') : sp__law_side ns [.script, .ref a, .int i] σ Q := ⟨a, ka, e1, i, rfl, x, f, hi, q⟩
end
theorem found_ok {ns : List Int} {m : Loc} {σ : View} {f w a b c : Addr} {ka kb kc : List (Str × V)} {e1 e2 e3 : Nat} {Q : Fl → Loc → View → Prop} (d : D3 1000 a b c ka kb kc e1 e2 e3 σ) (fa : Fre 1000 ka) (fb : Fre 1000 kb) (fc : Fre 1000 kc)
  (hf : m "_law_found" = some (.ref f)) (hw : m "_law_due_here" = some (.ref w)) (me : m "_law_elder_here" = some (.ref a)) (mo : m "_law_one" = some (.ref b)) (mh : m "_law_other" = some (.ref c)) (xf : σ f = some (.list ((clsL ka kb kc).map tupV))) (xw : σ w = some (.list ((clsL ka kb kc).map tupV)))
  (h : ∀ m' σ', (∀ z o, z ≠ f → σ z = some o → σ' z = some o) → (∀ y, y ≠ "_law_clash" → m' y = m y) → Q .next m' σ') :
  (sSeq (sIf (tOr (tNot (tBool (eCall spIsi (lCons (eName "_law_found") (lCons (eVal (.ty "list")) lNil))))) (tOr (tBool (eBin opNe0 (eCall (spLen ns) (lCons (eName "_law_found") lNil)) (eCall (spLen ns) (lCons (eName "_law_due_here") lNil)))) tF)) (sSeq (sRet (eVal (.bool false)))
 sNil) sNil)
 (sSeq (sFor (.name "_law_clash") (iOf ns (eName "_law_found")) (sSeq (sIf (tOr (tNot (tBool (eCall spIsi (lCons (eName "_law_clash") (lCons (eVal (.ty "tuple")) lNil))))) (tOr (tBool (eBin opGt (eCall (spLen ns) (lCons (eComp [] (.name "_law_path") (iOf ns (eName "_law_clash")) (tNot (tBool (eCall spIsi (lCons (eName "_law_path") (lCons (eVal (.ty "str")) lNil))))) (eName "_law_path")) lNil)) (eVal (.int 0)))) tF)) (sSeq (sRet (eVal (.bool false)))
 sNil) sNil)
 (sSeq (sIf (tOr (tBool (eBin opNotInL (eCall (spLen ns) (lCons (eName "_law_clash") lNil)) (eList (lCons (eVal (.int 1)) (lCons (eVal (.int 2)) lNil))))) (tOr (tNot (tBool (eCall (sp__law_both_changed ns) (lCons (eName "_law_clash") (lCons (eName "_law_elder_here") (lCons (eName "_law_one") (lCons (eName "_law_other") lNil))))))) tF)) (sSeq (sRet (eVal (.bool false)))
 sNil) sNil)
 sNil)))
 (sSeq (sIf (tBool (eBin opNe (eName "_law_found") (eName "_law_due_here"))) (sSeq (sRet (eVal (.bool false)))
 sNil) sNil)
 (sSeq (sExpr (eMeth tyList spClear (eName "_law_found") lNil))
 sNil)))) m σ Q := by
 rw [seq_eq]
 simp [hf, hw, isi_list xf, len_list xf, len_list xw]
 rw [seq_eq]
 simp [hf, iter_list xf]
 refine forL_inv (fun i m' σ' => Grow σ σ' ∧ (∀ y, y ≠ "_law_clash" → m' y = m y)) (fun _ _ _ => False) (fun i m' σ' hh => hh.1 _ _ xf) _ ?_ ?_ (fun _ _ _ h => h.elim) _ _ ⟨Grow.refl, fun _ _ => rfl⟩
 ·rintro i v m' σ' Q' hv ⟨g, ho⟩ n1 n2 n3
  obtain ⟨l, hl, rfl⟩ := List.mem_map.mp (List.mem_of_getElem? hv)
  have hl2 : l ∈ toldL ka kb kc := (tsrt_perm _).mem_iff.mp hl
  refine ⟨_, rfl, ?_⟩
  have u1 := (ho _ (by decide)).trans me
  have u2 := (ho _ (by decide)).trans mo
  have u3 := (ho _ (by decide)).trans mh
  rw [seq_eq]
  have two : ∀ (σ₂ : View), Grow σ' σ₂ → (sSeq (sIf (tOr (tBool (eBin opNotInL (eCall (spLen ns) (lCons (eName "_law_clash") lNil)) (eList (lCons (eVal (.int 1)) (lCons (eVal (.int 2)) lNil))))) (tOr (tNot (tBool (eCall (sp__law_both_changed ns) (lCons (eName "_law_clash") (lCons (eName "_law_elder_here") (lCons (eName "_law_one") (lCons (eName "_law_other") lNil))))))) tF)) (sSeq (sRet (eVal (.bool false)))
    sNil) sNil) sNil) (put m' "_law_clash" (tupV l)) σ₂ Q' := by
   intro σ₂ g2
   rw [seq_eq]
   have llen : l.length = 1 ∨ l.length = 2 := by
    rcases told_cases hl2 with ⟨x, rfl, _⟩ | ⟨u, x, rfl, _⟩
    ·exact .inl rfl
    ·exact .inr rfl
   simp [tupV]
   refine ⟨by exact Nat.le_of_not_lt fun hg => Or.elim llen (fun hs0 => lin [(l.length)] [(1, (.a (.n 16777216) (.n 1)), (.v 0)), (1, (.v 0), (.n 1))] rfl hg (Nat.le_of_eq hs0)) (fun hs0 => lin [(l.length)] [(1, (.a (.n 16777216) (.n 1)), (.v 0)), (1, (.v 0), (.n 2))] rfl hg (Nat.le_of_eq hs0)), fun z hz => ?_⟩
   have g3 := (g.trans g2).upd (o := .list [.int 1, .int 2]) hz
   refine ⟨_, true, upd_same _ _ _, ?_, ?_⟩
   ·rcases llen with e | e <;> rw [e] <;> rfl
   ·simp [u1, u2, u3]
    refine sp_both (d.grow g3) fa fb fc hl2 ?_
    simp
    exact n1 _ _ ⟨g3, fun y hy => by simp [hy]; exact ho y hy⟩
  rcases told_cases hl2 with ⟨x, rfl, _⟩ | ⟨u, x, rfl, _⟩
  ·simp [iter_tup, compL, tupV]
   intro z hz
   rw [len_list (upd_same _ _ _)]
   simp
   exact two _ (Grow.refl.upd hz)
  ·simp [iter_tup, compL, tupV]
   intro z hz
   rw [len_list (upd_same _ _ _)]
   simp
   exact two _ (Grow.refl.upd hz)
 ·rintro m' σ' ⟨g, ho⟩
  rw [kont_next, seq_eq]
  have e1 := (ho _ (by decide)).trans hf
  have e2 := (ho _ (by decide)).trans hw
  simp [e1, e2]
  refine neD_false (dq_list (g _ _ xf) (g _ _ xw) fun v hv => by obtain ⟨l, _, rfl⟩ := List.mem_map.mp hv; exact tup_flat l) ?_
  try simp
  rw [seq_eq]
  simp [e1, tyList_ref (g _ _ xf)]
  refine clear_list (g _ _ xf) ?_
  exact h m' _ (fun z o hz e => by rw [upd_ne hz]; exact g z o e) ho
theorem s_law (ns : List Int) : ∀ vs σ Q, sp_law ns vs σ Q → vs.length = 1 ∧ T_law ns (bindM ["_law_script"] vs none') σ (fin Q) := by
 rintro vs σ Q ⟨rfl, hz, q⟩
 refine ⟨rfl, ?_⟩
 unfold T_law
 rw [seq_eq]
 simp [T_law_1]
 refine sp_eld fun a ka e1 σ₁ g1 _ xa fa => ?_
 rw [seq_eq]
 simp [T_law_2]
 refine sp_sid xa fa (.inl rfl) fun b kb e2 σ₂ g2 _ xb fb => ?_
 rw [seq_eq]
 simp [T_law_3]
 refine sp_sid (g2 _ _ xa) fa (.inr rfl) fun c kc e3 σ₃ g3 _ xc fc => ?_
 have fa' : Fre 1000 ka := fa.mono (by decide)
 have fb' : Fre 1000 kb := fb.mono (by decide)
 have fc' : Fre 1000 kc := fc.mono (by decide)
 have d : D3 1000 a b c ka kb kc e1 e2 e3 σ₃ := ⟨g3 _ _ (g2 _ _ xa), g3 _ _ xb, xc, fa'.tr, fb'.tr, fc'.tr⟩
 clear xa xb xc
 rw [seq_eq]
 simp [T_law_4]
 refine dictc_dict d.xa fun a' e1' ha' => ?_
 have h1 : Grow σ₃ (upd σ₃ a' (.dict ka e1')) := Grow.refl.upd ha'
 have xa' := upd_same σ₃ a' (.dict ka e1')
 generalize (upd σ₃ a' (.dict ka e1')) = σ₄ at h1 xa' ⊢
 try simp
 refine dictc_dict (h1 _ _ d.xb) fun b' e2' hb' => ?_
 have h2 : Grow σ₄ (upd σ₄ b' (.dict kb e2')) := Grow.refl.upd hb'
 have xb' := upd_same σ₄ b' (.dict kb e2')
 generalize (upd σ₄ b' (.dict kb e2')) = σ₅ at h2 xb' ⊢
 try simp
 refine dictc_dict (h2 _ _ (h1 _ _ d.xc)) fun c' e3' hc' => ?_
 have h3 : Grow σ₅ (upd σ₅ c' (.dict kc e3')) := Grow.refl.upd hc'
 have xc' := upd_same σ₅ c' (.dict kc e3')
 generalize (upd σ₅ c' (.dict kc e3')) = σ₆ at h3 xc' ⊢
 have d6 := ((d.grow h1).grow h2).grow h3
 have xa6 := h3 _ _ (h2 _ _ xa')
 have xb6 := h3 _ _ xb'
 try simp
 rw [seq_eq]
 simp [T_law_5]
 refine sp_due d6 fun w σ₇ h4 hw xw => ?_
 have d7 := d6.grow h4
 rw [seq_eq]
 simp [T_law_6]
 refine sp_cls d7 fun f1 σ₈ h5 hf1 xf1 => ?_
 have d8 := d7.grow h5
 try simp
 refine sp_cls (ka := ka) (kb := kc) (kc := kb) ⟨d8.xa, d8.xc, d8.xb, d8.ta, d8.tc, d8.tb⟩ fun f2 σ₉ h6 hf2 xf2 => ?_
 have d9 := d8.grow h6
 have turn : clsL ka kc kb = clsL ka kb kc := by unfold clsL; rw [told_turn]
 rw [turn] at xf2
 try simp
 intro l hl
 rw [iter_list (upd_same _ _ _)]
 have h7 : Grow σ₉ (upd σ₉ l (.list [.ref f1, .ref f2])) := Grow.refl.upd hl
 have xl := upd_same σ₉ l (.list [.ref f1, .ref f2])
 generalize (upd σ₉ l (.list [.ref f1, .ref f2])) = σ₁₀ at h7 xl ⊢
 have d10 := d9.grow h7
 have xf1' := h7 _ _ (h6 _ _ xf1)
 have xf2' := h7 _ _ xf2
 have xw' := h7 _ _ (h6 _ _ (h5 _ _ xw))
 have wf1 : w ≠ f1 := fresh_ne xw hf1
 have wf2 : w ≠ f2 := fresh_ne (h5 _ _ xw) hf2
 have f12 : f1 ≠ f2 := fresh_ne xf1 hf2
 have f1l : f1 ≠ l := fresh_ne (h6 _ _ xf1) hl
 have f2l : f2 ≠ l := fresh_ne xf2 hl
 have n1 : ∀ {z : Addr} {o : AObj}, σ₆ z = some o → z ≠ f1 := fun e => fresh_ne (h4 _ _ e) hf1
 have n2 : ∀ {z : Addr} {o : AObj}, σ₆ z = some o → z ≠ f2 := fun e => fresh_ne (h5 _ _ (h4 _ _ e)) hf2
 have w10 : Grow σ₆ σ₁₀ := ((h4.trans h5).trans h6).trans h7
 refine ⟨xl, _, rfl, ?_⟩
 refine found_ok d10 fa' fb' fc' (by simp) (by simp) (by simp) (by simp) (by simp) xf1' xw' fun m₂ τ s1 o1 => ?_
 have w11 : Grow σ₆ τ := fun z o e => s1 _ _ (n1 e) (w10 _ _ e)
 refine ⟨s1 _ _ f1l.symm xl, _, rfl, ?_⟩
 refine found_ok (d6.grow w11) fa' fb' fc' (by simp) (by simp [o1]) (by simp [o1]) (by simp [o1]) (by simp [o1]) (s1 _ _ f12.symm xf2') (s1 _ _ wf1 xw') fun m₃ υ s2 o2 => ?_
 have w12 : Grow σ₆ υ := fun z o e => s2 _ _ (n2 e) (w11 _ _ e)
 refine ⟨s2 _ _ f2l.symm (s1 _ _ f1l.symm xl), ?_⟩
 have vw := s2 _ _ wf2 (s1 _ _ wf1 xw')
 have dv := d6.grow w12
 rw [kont_next, seq_eq]
 simp [T_law_7, o2, o1]
 have fl : ∀ {kvs : List (Str × V)}, Tr 1000 kvs → ∀ q ∈ kvs, Flat0 q.2 := fun t q hq => by obtain ⟨y, hy⟩ := t.val q hq; rw [hy]; trivial
 refine eqD_true (dq_tup (rowq_cons (dq_dict dv.xa (w12 _ _ xa6) d.ta.nodup (fl d.ta)) (rowq_cons (dq_dict dv.xb (w12 _ _ xb6) d.tb.nodup (fl d.tb)) (rowq_cons (dq_dict dv.xc (w12 _ _ xc') d.tc.nodup (fl d.tc)) rfl)))) ?_
 try simp
 refine sp_cls dv fun f3 φ h8 hf3 xf3 => ?_
 refine eqD_true (dq_list xf3 (h8 _ _ vw) fun v hv => by obtain ⟨l, _, rfl⟩ := List.mem_map.mp hv; exact tup_flat l) ?_
 try simp
 exact q _
end Mine
end
noncomputable section
namespace Mine
open PySem PySem.W PyProof.Rows PySem.Calls
theorem law_at {C : Cx} (G : Gl C Hd.vw) (hz : C.held = none) : FnAt C 5 "law" (sp_law C.ns) := by
 have h1 := f__law_cell_at G hz (s_cell C.ns)
 have h2 := f__law_sign_by G hz (s_sign C.ns)
 have h3 := f__law_name_by G hz h2 (s_name C.ns)
 have h4 := f__law_path_by G hz h3 (s_pathby C.ns)
 have h5 := f__law_line_by G hz (s_line C.ns)
 have h6 := f__law_is_free G hz (s_free C.ns)
 have h7 := f__law_grown G hz h4 h6 h5 (s_grown C.ns)
 have h8 := f__law_elder G hz h1 h7 h5 (s_elder C.ns)
 have h9 := f__law_side G hz h1 h7 (s_side C.ns)
 have h10 := f_all_paths G hz (s_all C.ns)
 have h11 := f_marks G hz h10 (s_marks C.ns)
 have h12 := f_clashing G hz h11 (s_clashing C.ns)
 have h13 := f_standing G hz h12 h10 (s_standing C.ns)
 have h14 := f_above G hz (s_above C.ns)
 have h15 := f_clashes G hz h12 h13 h14 (s_clashes C.ns)
 have h16 := f__law_uppers G hz (s_uppers C.ns)
 have h17 := f__law_due G hz h16 (s_due C.ns)
 have h18 := f__law_both_changed G hz (s_both C.ns)
 exact f_law G hz h8 h9 h17 h15 h18 (s_law C.ns)
theorem hf_x : (["len", "range", "min", "max", "isinstance", "bool", "str", "int", "list", "dict", "set", "sorted", "tuple", "sum", "type"].all fun x : String => !(startupNames ++ (looseW Hd.vw []) ++ (recsOf Hd.vw).map (·.name) ++ (litsOf Hd.vw).map (·.1) ++ (clssOf Hd.vw (looseW Hd.vw [])).map (·.name)).contains (Str.ofString x)) = true := by decide +kernel
theorem hi_x : importsNone Hd.vw = true := by decide +kernel
end Mine
open PySem PySem.W PyProof.Rows PySem.Calls
set_option maxRecDepth 100000
set_option maxHeartbeats 8000000
theorem PySem.Challenge.cw_uf050007_07_holds : PySem.Challenge.rw_uf050007_07.Holds :=
 Mine.Hd.hd (by rfl) (by rfl) (by rfl) (by
 intro w s₀ s₁ mg mb G Y fa o pm cd doc dV kV ho hd hcd hD hmg hg args vals as hpre hlay hrd hwl hlo
 have KX := kIn_of Y
 have X := (Ground.X G).1
 have V := (Ground.X G).2
 refine Ground.open G ?_
 intro T B D TE TW
 try (refine guard_noD D (by decide +kernel) ?_; clear D)
 obtain ⟨_, _, M⟩ := bmod_of_top T
 wrow_args hpre hlay hrd hwl hlo
 all_goals first | refine callC_kw (enter_call ?_) | refine enter_call ?_ | refine callC_kw (enter_callW ?_) | refine enter_callW ?_ | w_how
 rename_i ns _ _ _ _ _ _ _ aS vs _ hL _ _ _ hI _ hn _
 have O : Mine.Cx.Ok ⟨PySem.Challenge.rw_uf050007_07.row.prog, w, s₁, aS, ns, mg, mb, none⟩ := Mine.Cx.ok_of rfl T Mine.hi_x hL hI hn
 have GG := Mine.Gl.of T O Mine.hf_x
 obtain ⟨a, o', fd', e1, e2, e3, S⟩ := Mine.law_at GG rfl
 have ea : a = fa := by
  have := e1.symm.trans hmg
  cases this; rfl
 subst ea
 exact Mine.law_ends rfl S (by decide) hg (raisesW_false (by wrow_none_raised)) (by wrow_post))
end
