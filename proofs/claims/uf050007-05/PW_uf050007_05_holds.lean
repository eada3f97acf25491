import PyProof.Rows.All
import Wide.All
import OpenK.AllK
import Wide.FinOn
import PyProof.Walks
import PyProof.WalksMore
import PyProof.Cells
import PyProof.DictWalks
import PyProof.StrBlock
import PyProof.CompFree
import PyProof.StrCalls2
import PyProof.DefCall
import PyProof.MakeMany
import PyProof.CallType
import PyProof.Ns1
import PyProof.LetGo
import PyProof.PureInt
import PyProof.StrOps
import PyProof.Rows.RuleB_mod
import PyProof.Rows.RuleB_floordiv
import PyProof.Rows.RuleB_mul
import PyProof.Rows.RuleB_pow
import PyProof.Rows.RuleC_bool
import PyProof.Rows.EqNone
import PyProof.Rows.StrRules
import PyProof.Rows.IntBool
import PyProof.Raises
import PyProof.ForRange
import PyProof.RangeFor
import PyProof.StrWalks
import PyProof.IsiPairs
import PyProof.IsiHeapPairs
import PyProof.WalkInts
import PyProof.SliceMore
import PyProof.SliceStr2
import PyProof.EqAt
import PyProof.ListIndexNeg
import PyProof.StrCalls3
import PyProof.Rows.Tup
import PyProof.Rows.Lst
import PyProof.Rows.SeqMore
import PyProof.StrOps2
import PyProof.DictTruth
import PyProof.EqKinds
import PyProof.StrCalls
import PyProof.CallStr
import PyProof.Conv_int_bool
import PyProof.FactsAll.list
import PyProof.StrLawsOcc
import PyProof.FitsReplace
import PyProof.StrLawsTight
import PyProof.StrBlock2
import KE.KDictList
import KE.KItemsList
import KE.KDictOf
import PyProof.DictRoads
import PyProof.Rows.SortRuns
import PyProof.Rows.SortKey
import PyProof.Rows.SortShell
import PyProof.Rows.SortStr
import PyProof.Rows.SetFrom
import KE.KDictSum
import KE.KEqDict
import PyProof.RaisesMany
import PyProof.StationsW
import PyProof.Rows.OwnQ
import PyProof.ExcBaseAll.ValueError
import PyProof.ExcAttrAll.ValueError
import PyProof.IsInstance
import PyProof.RulesAs
import PyProof.RulesDel
import PySem.Challenge.RW_uf050007_05
set_option Elab.async false
set_option linter.unusedVariables false
set_option linter.unusedSimpArgs false
set_option autoImplicit false
noncomputable section
namespace Mine
inductive LT' where
 | v (i : Nat)
 | n (k : Nat)
 | a (x y : LT')
 | m (k : Nat) (x : LT')
noncomputable def LT'.den (c : List Nat) : LT' → Nat
 | .v i => c.getD i 0
 | .n k => k
 | .a x y => x.den c + y.den c
 | .m k x => k * x.den c
structure PL where
 r : List Nat
 k : Nat
noncomputable def PL.ev (c : List Nat) : List Nat → Nat
 | [] => 0
 | q :: r => q * c.headD 0 + PL.ev c.tail r
noncomputable def PL.den (c : List Nat) (p : PL) : Nat := PL.ev c p.r + p.k
noncomputable def addR : List Nat → List Nat → List Nat
 | [], b => b
 | a, [] => a
 | x :: a, y :: b => (x + y) :: addR a b
theorem addR_ev : ∀ (c a b : List Nat), PL.ev c (addR a b) = PL.ev c a + PL.ev c b
 | _, [], b => by simp [addR, PL.ev]
 | _, x :: a, [] => by simp [addR, PL.ev]
 | c, x :: a, y :: b => by
  have ih := addR_ev c.tail a b
  simp only [addR, PL.ev, ih, Nat.add_mul]; exact Nat.add_add_add_comm _ _ _ _
noncomputable def unit : Nat → List Nat
 | 0 => [1]
 | i + 1 => 0 :: unit i
theorem unit_ev : ∀ (i : Nat) (c : List Nat), PL.ev c (unit i) = c.getD i 0
 | 0, [] => rfl
 | 0, x :: c => by simp [unit, PL.ev]
 | i + 1, [] => by
  have := unit_ev i []
  simp [unit, PL.ev] at this ⊢; exact this
 | i + 1, x :: c => by
  have := unit_ev i c
  simp [unit, PL.ev] at this ⊢; exact this
theorem mul_ev (k : Nat) : ∀ (c a : List Nat), PL.ev c (a.map (k * ·)) = k * PL.ev c a
 | _, [] => rfl
 | c, x :: a => by
  have ih := mul_ev k c.tail a
  simp only [List.map_cons, PL.ev, ih, Nat.mul_add, Nat.mul_assoc]
noncomputable def LT'.pl : LT' → PL
 | .v i => ⟨unit i, 0⟩
 | .n k => ⟨[], k⟩
 | .a x y => ⟨addR x.pl.r y.pl.r, x.pl.k + y.pl.k⟩
 | .m k x => ⟨x.pl.r.map (k * ·), k * x.pl.k⟩
theorem pl_den (c : List Nat) : ∀ x : LT', x.pl.den c = x.den c
 | .v i => by simp [LT'.pl, PL.den, LT'.den, unit_ev]
 | .n k => by simp [LT'.pl, PL.den, LT'.den, PL.ev]
 | .a x y => by
  have h1 := pl_den c x
  have h2 := pl_den c y
  unfold PL.den at h1 h2
  simp only [LT'.pl, PL.den, LT'.den, addR_ev]; rw [← h1, ← h2]; exact Nat.add_add_add_comm _ _ _ _
 | .m k x => by
  have h1 := pl_den c x
  unfold PL.den at h1
  simp only [LT'.pl, PL.den, LT'.den, mul_ev, ← h1, Nat.mul_add]
noncomputable def geR : List Nat → List Nat → Bool
 | _, [] => true
 | [], y :: b => y == 0 && geR [] b
 | x :: a, y :: b => Nat.ble y x && geR a b
theorem geR_ev : ∀ (c a b : List Nat), geR a b = true → PL.ev c b ≤ PL.ev c a
 | _, _, [], _ => Nat.zero_le _
 | c, [], y :: b, h => by
  simp [geR] at h
  have := geR_ev c.tail [] b h.2
  simp [PL.ev, h.1] at this ⊢; exact this
 | c, x :: a, y :: b, h => by
  simp [geR] at h
  have := geR_ev c.tail a b h.2
  have h2 := Nat.mul_le_mul_right (c.headD 0) h.1
  exact Nat.add_le_add h2 this
abbrev Cert := List (Nat × LT' × LT')
noncomputable def Cert.den (c : List Nat) : Cert → Prop → Prop
 | [], g => g
 | (_, x, y) :: r, g => x.den c ≤ y.den c → Cert.den c r g
noncomputable def Cert.sum : Cert → PL × PL
 | [] => (⟨[], 0⟩, ⟨[], 0⟩)
 | (w, x, y) :: r => let s := Cert.sum r; (⟨addR (x.pl.r.map (w * ·)) s.1.r, w * x.pl.k + s.1.k⟩, ⟨addR (y.pl.r.map (w * ·)) s.2.r, w * y.pl.k + s.2.k⟩)
noncomputable def Cert.ok (t : Cert) : Bool := let s := t.sum; geR s.1.r s.2.r && Nat.blt s.2.k s.1.k
theorem cert_den (c : List Nat) (g : Prop) : ∀ t : Cert, (t.sum.1.den c ≤ t.sum.2.den c → g) → Cert.den c t g
 | [], h => h (Nat.le_refl _)
 | (w, x, y) :: r, h => fun hxy => cert_den c g r fun hr => h (by
   have h1 := pl_den c x
   have h2 := pl_den c y
   have h3 := Nat.mul_le_mul_left w hxy
   rw [← h1, ← h2] at h3
   unfold PL.den at h3 hr ⊢
   simp only [Cert.sum, addR_ev, mul_ev]
   rw [Nat.mul_add, Nat.mul_add] at h3
   have h4 := Nat.add_le_add h3 hr
   rw [Nat.add_add_add_comm] at h4
   exact Nat.le_trans h4 (Nat.le_of_eq (Nat.add_add_add_comm _ _ _ _)))
theorem lin (c : List Nat) (t : Cert) (h : t.ok = true) : Cert.den c t False := cert_den c False t fun hs => by
 unfold Cert.ok at h
 simp only [Bool.and_eq_true, Nat.blt_eq] at h
 have h1 := geR_ev c _ _ h.1
 have h2 := h.2
 exact Nat.lt_irrefl _ (Nat.lt_of_lt_of_le (Nat.add_lt_add_of_le_of_lt h1 h2) hs)
end Mine
namespace Mine
theorem sub_lo (a b : Nat) : a ≤ a - b + b := Nat.sub_le_iff_le_add.mp (Nat.le_refl _)
theorem sub_hi {a b : Nat} (h : b ≤ a) : a - b + b ≤ a := Nat.le_of_eq (Nat.sub_add_cancel h)
theorem sub_or (a b : Nat) : a - b + b = a ∨ a - b = 0 := (Nat.le_total b a).imp Nat.sub_add_cancel Nat.sub_eq_zero_of_le
theorem div_lo (a k : Nat) : k * (a / k) ≤ a := Nat.mul_div_le a k
theorem div_hi (a k : Nat) (h : 0 < k) : a < k * (a / k) + k := Nat.lt_of_le_of_lt (Nat.le_of_eq (Nat.div_add_mod a k).symm) (Nat.add_lt_add_left (Nat.mod_lt a h) _)
theorem min_or (a b : Nat) : a ≤ min a b ∨ b ≤ min a b := (Nat.le_total a b).imp (fun h => Nat.le_min.mpr ⟨Nat.le_refl _, h⟩) (fun h => Nat.le_min.mpr ⟨h, Nat.le_refl _⟩)
theorem max_or (a b : Nat) : max a b ≤ a ∨ max a b ≤ b := (Nat.le_total b a).imp (fun h => Nat.max_le.mpr ⟨Nat.le_refl _, h⟩) (fun h => Nat.max_le.mpr ⟨h, Nat.le_refl _⟩)
abbrev u0 : LT' := .v 0
end Mine
end
noncomputable section
namespace Mine
open PySem
inductive V where
 | none
 | bool (b : Bool)
 | int (i : Int)
 | str (s : Str)
 | ref (a : Addr)
 | script
 | ty (n : String)
 | tup (vs : List V)
inductive AObj where
 | list (xs : List V)
 | dict (kvs : List (Str × V)) (ep : Nat)
 | idict (kvs : List (Int × V)) (ep : Nat)
 | inst (dx : Addr)
 | ns (fs : List (String × V))
abbrev View := Addr → Option AObj
abbrev Loc := String → Option V
noncomputable def upd (σ : View) (a : Addr) (o : AObj) : View := fun b => if b = a then some o else σ b
noncomputable def put (m : Loc) (x : String) (v : V) : Loc := fun y => if y = x then some v else m y
@[simp] theorem upd_same (σ : View) (a : Addr) (o : AObj) : upd σ a o a = some o := by simp [upd]
theorem upd_ne {σ : View} {a b : Addr} {o : AObj} (h : b ≠ a) : upd σ a o b = σ b := by simp [upd, h]
theorem upd_old {σ : View} {a b : Addr} {o o' : AObj} (ha : σ a = none) (hb : σ b = some o') : upd σ a o b = some o' := by
 rw [upd_ne (by rintro rfl; rw [ha] at hb; cases hb), hb]
@[simp] theorem put_same (m : Loc) (x : String) (v : V) : put m x v x = some v := by simp [put]
theorem put_ne {m : Loc} {x y : String} {v : V} (h : y ≠ x) : put m x v y = m y := by simp [put, h]
structure Cx where
 prog : Program
 w : World
 s₁ : Shared
 aS : Addr
 ns : List Int
 mg : Str → Option Value
 mb : Str → Option Value
 held : Option Addr := none
abbrev Cx.hB (C : Cx) : Heap := C.s₁.heap
structure Cx.Ok (C : Cx) : Prop where
 g : C.hB.Ns mainGlobals C.mg
 b : C.hB.Ns builtinsNs C.mb
 nolimit : C.hB.NoLimit
 mods : ∃ o, C.hB.get? sysModules = some o
 few : C.ns.length ≤ 63
 heldOk : ∀ e, C.held = some e → ∃ o vs, C.hB.get? e = some o ∧ o.data = .fields vs ∧ vs[2]? = some .none
 script : ∃ ws, C.hB.IsList C.aS ws ∧ ws.toList.length = C.ns.length ∧ ∀ (i : Nat) n, C.ns[i]? = some n → ∃ t, ws.toList[i]? = some (Value.int n t)
theorem Cx.Ok.noMods {C : Cx} (O : C.Ok) {a : Addr} (h : C.hB.get? a = none) : (a == sysModules) = false := by
 obtain ⟨o, ho⟩ := O.mods
 simp only [beq_eq_false_iff_ne]
 rintro rfl
 rw [ho] at h; cases h
mutual
inductive VRel (aS : Addr) (h : Heap) : V → Value → Prop
 | none : VRel aS h .none .none
 | bool (b : Bool) : VRel aS h (.bool b) (.bool b)
 | int (i : Int) (t : Tok) : VRel aS h (.int i) (.int i t)
 | str (x : Str) (t : Tok) : VRel aS h (.str x) (.str x t)
 | ref (a : Addr) : VRel aS h (.ref a) (.ref a)
 | script : VRel aS h .script (.ref aS)
 | ty (n : String) : VRel aS h (.ty n) (.type n)
 | tup {vs : List V} {a : Addr} {ws : List Value} : h.IsTuple a ws.toArray → VRels aS h vs ws → VRel aS h (.tup vs) (.ref a)
inductive VRels (aS : Addr) (h : Heap) : List V → List Value → Prop
 | nil : VRels aS h [] []
 | cons {v : V} {w : Value} {vs : List V} {ws : List Value} : VRel aS h v w → VRels aS h vs ws → VRels aS h (v :: vs) (w :: ws)
end
noncomputable def IsT (o : Obj) : Prop := o.cls = .type "tuple" ∧ ∃ it n, o.data = .seq it n
noncomputable def TupKeep (h h' : Heap) : Prop := ∀ b o, h.get? b = some o → IsT o → h'.get? b = some o
mutual
theorem VRel.keep {aS : Addr} {h h' : Heap} (k : TupKeep h h') : ∀ {v : V} {w : Value}, VRel aS h v w → VRel aS h' v w
 | _, _, .none => .none
 | _, _, .bool b => .bool b
 | _, _, .int i t => .int i t
 | _, _, .str x t => .str x t
 | _, _, .ref a => .ref a
 | _, _, .script => .script
 | _, _, .ty n => .ty n
 | _, _, .tup ht hs => .tup (let ⟨o, ho, hc, r⟩ := ht; ⟨o, k _ o ho ⟨hc, _, r⟩, hc, r⟩) (VRels.keep k hs)
theorem VRels.keep {aS : Addr} {h h' : Heap} (k : TupKeep h h') : ∀ {vs : List V} {ws : List Value}, VRels aS h vs ws → VRels aS h' vs ws
 | _, _, .nil => .nil
 | _, _, .cons a b => .cons (VRel.keep k a) (VRels.keep k b)
end
theorem VRels.length {aS : Addr} {h : Heap} : ∀ {vs : List V} {ws : List Value}, VRels aS h vs ws → vs.length = ws.length
 | _, _, .nil => rfl
 | _, _, .cons _ r => by simp [VRels.length r]
theorem VRels.get {aS : Addr} {h : Heap} : ∀ {vs : List V} {ws : List Value}, VRels aS h vs ws → ∀ {i : Nat} {v : V}, vs[i]? = some v → ∃ w, ws[i]? = some w ∧ VRel aS h v w
 | _, _, .nil, i, v, e => by simp at e
 | _, _, .cons a r, 0, v, e => by simp at e; subst e; exact ⟨_, rfl, a⟩
 | _, _, .cons a r, i + 1, v, e => by simp at e; obtain ⟨w, h1, h2⟩ := VRels.get r e; exact ⟨w, by simpa using h1, h2⟩
theorem VRels.inv0 {aS : Addr} {h : Heap} {ws : List Value} (x : VRels aS h [] ws) : ws = [] := by cases x; rfl
theorem VRels.invC {aS : Addr} {h : Heap} {a : V} {as : List V} {ws : List Value} (x : VRels aS h (a :: as) ws) : ∃ w ws', ws = w :: ws' ∧ VRel aS h a w ∧ VRels aS h as ws' := by
 cases x with
 | cons h1 r => exact ⟨_, _, rfl, h1, r⟩
theorem VRel.invStr {aS : Addr} {h : Heap} {x : Str} {w : Value} (r : VRel aS h (.str x) w) : ∃ t, w = .str x t := by cases r; exact ⟨_, rfl⟩
theorem VRels.append {aS : Addr} {h : Heap} : ∀ {vs vs' : List V} {ws ws' : List Value}, VRels aS h vs ws → VRels aS h vs' ws' → VRels aS h (vs ++ vs') (ws ++ ws')
 | _, _, _, _, .nil, b => b
 | _, _, _, _, .cons a r, b => .cons a (VRels.append r b)
noncomputable def PRel {K : Type} (aS : Addr) (h : Heap) : List (K × V) → List (K × Value) → Prop
 | [], [] => True
 | (k, v) :: r, (k', w) :: r' => k = k' ∧ VRel aS h v w ∧ PRel aS h r r'
 | _, _ => False
theorem PRel.ind {K : Type} {aS : Addr} {h : Heap} {P : List (K × V) → List (K × Value) → Prop} (h0 : P [] []) (h1 : ∀ k v w r r', VRel aS h v w → PRel aS h r r' → P r r' → P ((k, v) :: r) ((k, w) :: r')) : ∀ {a : List (K × V)} {b : List (K × Value)}, PRel aS h a b → P a b
 | [], [], _ => h0
 | (_, _) :: _, (_, _) :: _, ⟨rfl, v, r⟩ => h1 _ _ _ _ _ v r (PRel.ind h0 h1 r)
theorem PRel.keep {K : Type} {aS : Addr} {h h' : Heap} (k : TupKeep h h') {a : List (K × V)} {b : List (K × Value)} (x : PRel aS h a b) : PRel aS h' a b :=
 x.ind trivial fun _ _ _ _ _ v _ ih => ⟨rfl, v.keep k, ih⟩
theorem PRel.length {K : Type} {aS : Addr} {h : Heap} {a : List (K × V)} {b : List (K × Value)} (x : PRel aS h a b) : a.length = b.length :=
 x.ind (P := fun a b => a.length = b.length) rfl fun _ _ _ _ _ _ _ ih => congrArg (· + 1) ih
theorem PRel.get {K : Type} {aS : Addr} {h : Heap} {a : List (K × V)} {b : List (K × Value)} (x : PRel aS h a b) : ∀ {i : Nat} {k : K} {v : V}, a[i]? = some (k, v) → ∃ w, b[i]? = some (k, w) ∧ VRel aS h v w :=
 x.ind (P := fun a b => ∀ {i : Nat} {k : K} {v : V}, a[i]? = some (k, v) → ∃ w, b[i]? = some (k, w) ∧ VRel aS h v w) (fun e => by simp at e) fun _ _ w _ _ hv _ ih i _ _ e => by
  cases i with
  | zero => cases e; exact ⟨w, rfl, hv⟩
  | succ i => exact ih e
noncomputable def ObjRel (C : Cx) (h : Heap) (a : Addr) : AObj → Prop
 | .list xs => xs.length ≤ 16777216 ∧ ∃ ws : List Value, h.PlainList a ws.toArray ∧ VRels C.aS h xs ws
 | .dict kvs ep => kvs.length ≤ 16777216 ∧ ∃ kws, h.DictAt (strKind C.prog C.w) a kws ep ∧ PRel C.aS h kvs kws
 | .idict kvs ep => kvs.length ≤ 16777216 ∧ ∃ kws, h.DictAt (intKind C.prog C.w) a kws ep ∧ PRel C.aS h kvs kws
 | .inst dx => ∃ cl, C.mg (Str.ofString "Book") = some (.ref cl) ∧ dx ≠ a ∧ h.get? a = some { cls := .ref cl, dict := some dx, data := .plain }
 | .ns fs => fs.length ≤ 1000 ∧ ∃ mA : Str → Option Value, h.Ns1 a mA ∧ (∀ x v, fs.lookup x = some v → ∃ w, mA (Str.ofString x) = some w ∧ VRel C.aS h v w) ∧ ∀ y : Str, (∀ q ∈ fs, y ≠ Str.ofString q.1) → mA y = none
theorem ObjRel.keep {C : Cx} {h h' : Heap} {a : Addr} {o : AObj} (x : ObjRel C h a o) (k : TupKeep h h') (ka : ∀ o, h.get? a = some o → h'.get? a = some o) : ObjRel C h' a o := by
 cases o with
 | list xs => obtain ⟨hz, ws, h1, h2⟩ := x; exact ⟨hz, ws, h1.at ka, h2.keep k⟩
 | dict kvs ep => obtain ⟨hz, ws, h1, h2⟩ := x; exact ⟨hz, ws, h1.at' ka, h2.keep k⟩
 | idict kvs ep => obtain ⟨hz, ws, h1, h2⟩ := x; exact ⟨hz, ws, h1.at' ka, h2.keep k⟩
 | inst dx => obtain ⟨cl, h1, h2, h3⟩ := x; exact ⟨cl, h1, h2, ka _ h3⟩
 | ns fs => obtain ⟨hz, mA, h1, h2, h3⟩ := x; exact ⟨hz, mA, h1.at ka, fun y v e => let ⟨w, a, b⟩ := h2 y v e; ⟨w, a, b.keep k⟩, h3⟩
theorem ObjRel.shape {C : Cx} {h : Heap} {a : Addr} {o : AObj} (x : ObjRel C h a o) : ∃ ob, h.get? a = some ob ∧ ¬ IsT ob ∧ ∀ v, ob.data ≠ .cell v := by
 cases o with
 | list xs => obtain ⟨_, ws, ⟨n, h1⟩, h2⟩ := x; exact ⟨_, h1, by simp [IsT], by simp⟩
 | dict kvs ep => obtain ⟨_, ws, ⟨o, es, ho, hc, hd, _⟩, h2⟩ := x; exact ⟨o, ho, by simp [IsT, hd], by rw [hd]; simp⟩
 | idict kvs ep => obtain ⟨_, ws, ⟨o, es, ho, hc, hd, _⟩, h2⟩ := x; exact ⟨o, ho, by simp [IsT, hd], by rw [hd]; simp⟩
 | inst dx => obtain ⟨cl, h1, h2, h3⟩ := x; exact ⟨_, h3, by simp [IsT], by simp⟩
 | ns fs => obtain ⟨_, mA, ⟨o, es, ep, ho, hd, _⟩, h2⟩ := x; exact ⟨o, ho, by simp [IsT, hd], by rw [hd]; simp⟩
structure RelG (C : Cx) (σ : View) (s : Shared) : Prop where
 rest : ∃ h tk d, s = { C.s₁ with heap := h, toks := tk, drawn := d }
 base : ∀ b o, C.hB.get? b = some o → s.heap.get? b = some o
 view : ∀ a o, σ a = some o → ObjRel C s.heap a o
 apart : ∀ a, σ a ≠ none → C.hB.get? a = none
noncomputable def Like (o o' : Obj) : Prop := o' = o ∨ ((∃ es ep, o.data = .dict es ep) ∧ ∃ sl, o' = { o with slots := sl })
theorem Like.refl (o : Obj) : Like o o := .inl rfl
theorem Like.trans {a b c : Obj} (x : Like a b) (y : Like b c) : Like a c := by
 rcases x with rfl | ⟨⟨es, ep, hd⟩, sl, rfl⟩
 ·exact y
 ·rcases y with rfl | ⟨_, sl', rfl⟩
  ·exact .inr ⟨⟨es, ep, hd⟩, sl, rfl⟩
  ·exact .inr ⟨⟨es, ep, hd⟩, sl', rfl⟩
theorem Like.ns {h h' : Heap} {a : Addr} {m : Str → Option Value} (hn : h.Ns a m) (k : ∀ o, h.get? a = some o → ∃ o', h'.get? a = some o' ∧ Like o o') : h'.Ns a m := by
 obtain ⟨o, es, ep, ho, hd, r⟩ := hn
 obtain ⟨o', ho', hl⟩ := k o ho
 rcases hl with rfl | ⟨_, sl, rfl⟩
 ·exact ⟨_, es, ep, ho', hd, r⟩
 ·exact ⟨_, es, ep, ho', hd, r⟩
structure Step (own : Addr → Prop) (σ σ' : View) (h h' : Heap) : Prop where
 keepL : ∀ b o, h.get? b = some o → σ b = none → ¬ own b → ∃ o', h'.get? b = some o' ∧ Like o o'
 size : h.objs.size ≤ h'.objs.size
 new : ∀ b, σ b = none → σ' b ≠ none → h.objs.size ≤ b
noncomputable def no : Addr → Prop := fun _ => False
theorem Step.of {own : Addr → Prop} {σ σ' : View} {h h' : Heap} (k : ∀ b o, h.get? b = some o → σ b = none → ¬ own b → h'.get? b = some o) (size : h.objs.size ≤ h'.objs.size) (new : ∀ b, σ b = none → σ' b ≠ none → h.objs.size ≤ b) : Step own σ σ' h h' :=
 ⟨fun b o e n q => ⟨o, k b o e n q, Like.refl o⟩, size, new⟩
theorem Step.keep {own : Addr → Prop} {σ σ' : View} {h h' : Heap} (x : Step own σ σ' h h') (b : Addr) (o : Obj) (e : h.get? b = some o) (n : σ b = none) (q : ¬ own b) (hd : ∀ es ep, o.data ≠ .dict es ep) : h'.get? b = some o := by
 obtain ⟨o', h1, h2⟩ := x.keepL b o e n q
 rcases h2 with rfl | ⟨⟨es, ep, z⟩, _⟩
 ·exact h1
 ·exact absurd z (hd es ep)
theorem Step.mono {own own' : Addr → Prop} {σ σ' : View} {h h' : Heap} (x : Step own σ σ' h h') (k : ∀ b o, h.get? b = some o → own b → own' b) : Step own' σ σ' h h' :=
 ⟨fun b o e n q => x.keepL b o e n fun z => q (k b o e z), x.size, x.new⟩
theorem RelG.dom {C : Cx} {σ : View} {s : Shared} (R : RelG C σ s) : ∀ b, σ b ≠ none → s.heap.get? b ≠ none := fun b hb => by
 cases e : σ b with
 | none => exact absurd e hb
 | some o => obtain ⟨ob, h1, _⟩ := (R.view b o e).shape; rw [h1]; simp
theorem Step.refl {own : Addr → Prop} {σ : View} {h : Heap} : Step own σ σ h h :=
 .of (fun _ _ e _ _ => e) (Nat.le_refl _) fun _ h h' => absurd h h'
theorem Step.trans {own : Addr → Prop} {σ₁ σ₂ σ₃ : View} {h₁ h₂ h₃ : Heap} (x : Step own σ₁ σ₂ h₁ h₂) (y : Step own σ₂ σ₃ h₂ h₃) : Step own σ₁ σ₃ h₁ h₃ where
 keepL := fun b o e n q => by
  obtain ⟨o', h1, h2⟩ := x.keepL b o e n q
  obtain ⟨o'', h3, h4⟩ := y.keepL b o' h1 (by
   cases z : σ₂ b with
   | none => rfl
   | some o' => have := x.new b n (by rw [z]; simp); exact absurd (Heap.lt_size e) (Nat.not_lt.mpr this)) q
  exact ⟨o'', h3, h2.trans h4⟩
 size := Nat.le_trans x.size y.size
 new := fun b n m => by
  cases z : σ₂ b with
  | some o' => exact x.new b n (by rw [z]; simp)
  | none => exact Nat.le_trans x.size (y.new b z m)
theorem Step.tups {C : Cx} {own : Addr → Prop} {σ σ' : View} {s : Shared} {h' : Heap} (R : RelG C σ s) (x : Step own σ σ' s.heap h') (ho : ∀ b o, own b → s.heap.get? b = some o → ¬ IsT o) : TupKeep s.heap h' := fun b o e hc =>
 x.keep b o e (by
  cases z : σ b with
  | none => rfl
  | some o' => obtain ⟨ob, h1, h2, _⟩ := (R.view b o' z).shape; rw [e] at h1; cases h1; exact absurd hc h2) (fun z => ho b o z e hc) (fun es ep z => by obtain ⟨_, it, n, hd⟩ := hc; rw [hd] at z; cases z)
theorem Step.tupsN {C : Cx} {σ σ' : View} {s : Shared} {h' : Heap} (R : RelG C σ s) (x : Step no σ σ' s.heap h') : TupKeep s.heap h' := x.tups R fun _ _ z => z.elim
theorem RelG.grow {C : Cx} {σ : View} {s : Shared} {h' : Heap} {tk : Nat} (R : RelG C σ s) (k : ∀ b o, s.heap.get? b = some o → h'.get? b = some o) : RelG C σ { s with heap := h', toks := tk } where
 rest := let ⟨_, _, d, e⟩ := R.rest; ⟨h', tk, d, by rw [e]⟩
 base := fun b o e => k b o (R.base b o e)
 view := fun a o e => (R.view a o e).keep (fun b o e _ => k b o e) fun o e => k a o e
 apart := R.apart
theorem Step.grow {own : Addr → Prop} {σ : View} {h h' : Heap} (k : ∀ b o, h.get? b = some o → h'.get? b = some o) (z : h.objs.size ≤ h'.objs.size) : Step own σ σ h h' :=
 .of (fun b o e _ _ => k b o e) z fun _ h h' => absurd h h'
theorem Step.push {own : Addr → Prop} {σ : View} {h : Heap} {o : Obj} : Step own σ σ h (h.push o) := .grow (fun _ _ e => Heap.get?_push_of_some _ e) (by rw [Heap.size_push]; exact Nat.le_succ _)
theorem RelG.draw {C : Cx} {σ : View} {s : Shared} (R : RelG C σ s) (d : Drawn) : RelG C σ { s with drawn := d } where
 rest := let ⟨h, tk, _, e⟩ := R.rest; ⟨h, tk, d, by rw [e]⟩
 base := R.base
 view := R.view
 apart := R.apart
theorem RelG.tok {C : Cx} {σ : View} {s : Shared} (R : RelG C σ s) (tk : Nat) : RelG C σ { s with toks := tk } := R.grow fun _ _ e => e
theorem RelG.freshNone {C : Cx} {σ : View} {s : Shared} (R : RelG C σ s) {a : Addr} (h : s.heap.get? a = none) : σ a = none := by
 cases e : σ a with
 | none => rfl
 | some o => exact absurd h (R.dom a (by rw [e]; simp))
theorem size_none (h : Heap) : h.get? h.objs.size = none := by
 cases e : h.get? h.objs.size with
 | none => rfl
 | some o => exact absurd (Heap.lt_size e) (Nat.lt_irrefl _)
theorem RelG.baseNone {C : Cx} {σ : View} {s : Shared} (R : RelG C σ s) {a : Addr} (h : s.heap.get? a = none) : C.hB.get? a = none := by
 cases e : C.hB.get? a with
 | none => rfl
 | some o => rw [R.base a o e] at h; cases h
theorem RelG.add {C : Cx} {σ : View} {s : Shared} {h' : Heap} {tk : Nat} {a : Addr} {o : AObj} (R : RelG C σ s) (k : ∀ b o, s.heap.get? b = some o → h'.get? b = some o) (hn : s.heap.get? a = none) (ho : ObjRel C h' a o) :
  RelG C (upd σ a o) { s with heap := h', toks := tk } where
 rest := (R.grow (tk := tk) k).rest
 base := (R.grow (tk := tk) k).base
 view := fun b o' e => by
  by_cases hb : b = a
  ·subst hb; rw [upd_same] at e; cases e; exact ho
  ·rw [upd_ne hb] at e; exact (R.grow (tk := tk) k).view b o' e
 apart := fun b hb => by
  by_cases q : b = a
  ·subst q; exact R.baseNone hn
  ·rw [upd_ne q] at hb; exact R.apart b hb
theorem Step.add {own : Addr → Prop} {σ : View} {h h' : Heap} {a : Addr} {o : AObj} (k : ∀ b o, h.get? b = some o → h'.get? b = some o) (z : h.objs.size ≤ h'.objs.size) (hn : h.objs.size ≤ a) : Step own σ (upd σ a o) h h' :=
 .of (fun b o e _ _ => k b o e) z fun b n m => by
  by_cases q : b = a
  ·subst q; exact hn
  ·rw [upd_ne q] at m; exact absurd n m
theorem Step.addPush {own : Addr → Prop} {σ : View} {h : Heap} {ob : Obj} {o : AObj} : Step own σ (upd σ h.objs.size o) h (h.push ob) := .add (fun _ _ e => Heap.get?_push_of_some _ e) (by rw [Heap.size_push]; exact Nat.le_succ _) (Nat.le_refl _)
theorem RelG.change {C : Cx} {σ : View} {s : Shared} {h' : Heap} {tk : Nat} {a : Addr} {o o' : AObj} (R : RelG C σ s) (ha : σ a = some o) (k : Heap.SameBut a s.heap h') (ho : ObjRel C h' a o') : RelG C (upd σ a o') { s with heap := h', toks := tk } where
 rest := let ⟨_, _, d, e⟩ := R.rest; ⟨h', tk, d, by rw [e]⟩
 base := fun b o e => (k.2 b (by rintro rfl; rw [R.apart b (by rw [ha]; simp)] at e; cases e)).trans (R.base b o e)
 view := fun b o₂ e => by
  by_cases hb : b = a
  ·subst hb; rw [upd_same] at e; cases e; exact ho
  ·rw [upd_ne hb] at e
   refine (R.view b o₂ e).keep (fun c oc ec hc => ?_) fun oc ec => (k.2 b hb).trans ec
   exact (k.2 c (by rintro rfl; obtain ⟨ob, h1, h2, _⟩ := (R.view c o ha).shape; rw [ec] at h1; cases h1; exact h2 hc)).trans ec
 apart := fun b hb => by
  by_cases q : b = a
  ·subst q; exact R.apart b (by rw [ha]; simp)
  ·rw [upd_ne q] at hb; exact R.apart b hb
theorem Step.change {own : Addr → Prop} {σ : View} {h h' : Heap} {a : Addr} {o o' : AObj} (ha : σ a = some o) (k : Heap.SameBut a h h') : Step own σ (upd σ a o') h h' :=
 .of (fun b o₂ e n _ => (k.2 b (by rintro rfl; rw [ha] at n; cases n)).trans e) (Nat.le_of_eq k.1.symm)
   fun b n m => by
  by_cases q : b = a
  ·subst q; rw [ha] at n; cases n
  ·rw [upd_ne q] at m; exact absurd n m
theorem get_none_of_size {h : Heap} {a : Addr} (q : h.objs.size ≤ a) : h.get? a = none := by
 cases e : h.get? a with
 | none => rfl
 | some o => exact absurd (Heap.lt_size e) (Nat.not_lt.mpr q)
theorem runs_size {M : Model} {Γ : Ctx} {p : Pos} {t : Sem Fin} {fs : List Frame} {s s' : Shared} {e : End} (h : Runs M Γ p t fs s e s') : s.heap.objs.size ≤ s'.heap.objs.size := by
 induction h <;> (try simp only [Shared.setGen, Heap.size_push, Heap.size_after_update] at *) <;> omega
theorem wakes_size {M : Model} {Γ : Ctx} {p : Pos} {g : Nat} {r : Resume} {s s' : Shared} {res : GenResult} (h : Wakes M Γ p g r s res s') : s.heap.objs.size ≤ s'.heap.objs.size := by
 unfold Wakes at h
 split at h
 ·exact h.elim
 ·split at h
  ·obtain ⟨e₁, s₁, hr, _, _, rfl⟩ := h; exact (runs_size hr : (s.setGen g .running).heap.objs.size ≤ s₁.heap.objs.size)
  ·rw [h.2]; exact Nat.le_refl _
  ·rw [h.2]; exact Nat.le_refl _
 ·obtain ⟨e₁, s₁, hr, _, _, rfl⟩ := h; exact (runs_size hr : (s.setGen g .running).heap.objs.size ≤ s₁.heap.objs.size)
 ·rw [h.2]; exact Nat.le_refl _
 ·rw [h.2]; exact Nat.le_refl _
theorem wp_size {α : Type} (M : Model) (Γ : Ctx) (n : Nat) (t : Sem α) : ∀ (Q : α → Pos → Shared → Prop) (E : Value → Pos → Shared → Prop) (p : Pos) (s : Shared), n ≤ s.heap.objs.size → Sem.wp M Γ t Q E p s →
  Sem.wp M Γ t (fun a p' s' => n ≤ s'.heap.objs.size ∧ Q a p' s') (fun e p' s' => n ≤ s'.heap.objs.size ∧ E e p' s') p s := by
 induction t with
 | pure a | raise a => intro Q E p s hn h; exact ⟨hn, h⟩
 | unsupported | finish | register | yield | fork | await => intro Q E p s _ h; exact h
 | rule _ k ih | «at» _ k ih | point _ k ih | ask k ih | handled _ k ih | stack k ih | thread k ih | loadIfAlive _ k ih | fresh k ih | os _ _ k ih | newGen _ k ih => intro Q E p s hn h; exact ih _ Q E _ _ hn h
 | load a _ k ih => intro Q E p s hn h; obtain ⟨o, ho, h⟩ := h; exact ⟨o, ho, ih o Q E p s hn h⟩
 | update a _ f k ih => intro Q E p s hn h; exact ⟨h.1, ih () Q E p _ (by simpa using hn) h.2⟩
 | alloc o k ih => intro Q E p s hn h; exact ih _ Q E p _ (by simp; omega) h
 | choose src m k ih => intro Q E p s hn h; exact ⟨h.1, ih _ Q E p _ hn h.2⟩
 | call c hd _ _ k ih => intro Q E p s hn h; obtain ⟨r, s', hr, h⟩ := h; exact ⟨r, s', hr, ih r Q E p s' (Nat.le_trans hn (runs_size hr)) h⟩
 | genState g k ih => intro Q E p s hn h; obtain ⟨st, hs, h⟩ := h; exact ⟨st, hs, ih _ Q E p s hn h⟩
 | resume g r _ k ih => intro Q E p s hn h; obtain ⟨res, s', hw, h⟩ := h; exact ⟨res, s', hw, ih res Q E p s' (Nat.le_trans hn (wakes_size hw)) h⟩
theorem with_size {α : Type} {M : Model} {A : Around} {s : Shared} {t : Sem α} {Q : α → Shared → Prop} {E : Value → Shared → Prop}
  (h : wpAny M A t (fun a s' => s.heap.objs.size ≤ s'.heap.objs.size → Q a s') E s) : wpAny M A t Q E s :=
 fun Γ p hΓ => Sem.wp_mono M Γ t (fun _ _ _ x => x.2 x.1) (fun _ _ _ x => x.2) p s (wp_size M Γ _ t _ _ p s (Nat.le_refl _) (h Γ p hΓ))
noncomputable def del (σ : View) (a : Addr) : View := fun b => if b = a then none else σ b
end Mine
end
noncomputable section
namespace Mine
open PySem
noncomputable def Own (env : Env) (b : Addr) : Prop := b = env.locals ∨ ∃ n, env.cells.lookup n = some b
structure FrameRel (C : Cx) (env : Env) (m : Loc) (σ : View) (h : Heap) : Prop where
 ns : ∃ mm, h.Ns env.locals mm ∧ ∀ x v, m x = some v → env.kindOf (Str.ofString x) = some .local → ∃ w, mm (Str.ofString x) = some w ∧ VRel C.aS h v w
 cel : ∀ x v, m x = some v → env.kindOf (Str.ofString x) = some .local ∨
  ((env.kindOf (Str.ofString x) = some .cell ∨ env.kindOf (Str.ofString x) = some .free) ∧ ∃ c w, env.cells.lookup (Str.ofString x) = some c ∧ h.IsCell c (some w) ∧ VRel C.aS h v w)
 cells : ∀ n c, env.cells.lookup n = some c → ∃ v, h.IsCell c v
 sepL : σ env.locals = none
 baseL : C.hB.get? env.locals = none
 baseC : ∀ n c, env.cells.lookup n = some c → C.hB.get? c = none
 dist : env.cells.Pairwise fun x y => x.2 ≠ y.2
 has : ∀ n, env.kindOf n = some .cell ∨ env.kindOf n = some .free → ∃ c, env.cells.lookup n = some c
theorem FrameRel.step {C : Cx} {env : Env} {m : Loc} {σ σ' : View} {s : Shared} {h' : Heap} (F : FrameRel C env m σ s.heap) (R : RelG C σ s) (S : Step no σ σ' s.heap h') : FrameRel C env m σ' h' := by
 have kt := S.tupsN R
 have kc : ∀ c v, s.heap.IsCell c v → h'.IsCell c v := fun c v ⟨o, ho, hd⟩ => ⟨o, S.keep c o ho (by
  cases z : σ c with
  | none => rfl
  | some o' => obtain ⟨ob, h1, _, h3⟩ := (R.view c o' z).shape; rw [ho] at h1; cases h1; exact absurd hd (h3 v)) (fun z => z) (fun es ep z => by rw [hd] at z; cases z), hd⟩
 obtain ⟨mm, hn, hv⟩ := F.ns
 have hl : ∃ o, s.heap.get? env.locals = some o := let ⟨o, _, _, ho, _⟩ := hn; ⟨o, ho⟩
 refine ⟨⟨mm, Like.ns hn fun o e => S.keepL _ o e F.sepL (fun z => z), fun x v e k => ?_⟩, fun x v e => ?_, fun n c e => ?_, ?_, F.baseL, F.baseC, F.dist, F.has⟩
 ·obtain ⟨w, h1, h2⟩ := hv x v e k; exact ⟨w, h1, h2.keep kt⟩
 ·rcases F.cel x v e with q | ⟨q, c, w, h1, h2, h3⟩
  ·exact .inl q
  ·exact .inr ⟨q, c, w, h1, kc _ _ h2, h3.keep kt⟩
 ·obtain ⟨v, hv⟩ := F.cells n c e; exact ⟨v, kc _ _ hv⟩
 ·cases z : σ' env.locals with
  | none => rfl
  | some o => obtain ⟨ol, hol⟩ := hl; have := S.new env.locals F.sepL (by rw [z]; simp); exact absurd (Heap.lt_size hol) (Nat.not_lt.mpr this)
structure AOk (C : Cx) (A : Around) (k : Nat) : Prop where
 handled : A.handled = C.held.map Value.ref
 depth : A.depth + 3 * k + 3 < recursionLimit
 units : A.units + 10 * k + 20 < cLine
theorem AOk.le {C : Cx} {A : Around} {k j : Nat} (x : AOk C A k) (h : j ≤ k) : AOk C A j := ⟨x.handled, by have := x.depth; omega, by have := x.units; omega⟩
theorem AOk.none {C : Cx} {A : Around} {k : Nat} (x : AOk C A k) (hp : C.held = none) : A.handled = none := by rw [x.handled, hp]; rfl
structure EnvOk (env : Env) (sc : Scope) : Prop where
 scope : env.scope = sc
 kind : sc.kind = .function
 globals : env.globals = mainGlobals
 builtins : env.builtins = builtinsNs
theorem EnvOk.k {env : Env} {sc : Scope} (e : EnvOk env sc) : env.scope.kind = .function := by rw [e.scope]; exact e.kind
theorem EnvOk.of {env : Env} {sc : Scope} (e : EnvOk env sc) {x : Str} {n : Option NameKind} (h : sc.names.lookup x = n) : env.kindOf x = n := by unfold Env.kindOf; rw [e.scope]; exact h
abbrev ET := Loc → View → (V → View → Prop) → Prop
abbrev BT := Loc → View → (Bool → View → Prop) → Prop
abbrev LT := Loc → View → (List V → View → Prop) → Prop
structure HE (C : Cx) (sc : Scope) (k : Nat) (e : Expr) (T : ET) : Prop where
 run : ∀ (env : Env) (A : Around) (s : Shared) (m : Loc) (σ : View) (Q : V → View → Prop) (P : Value → Shared → Prop) (E : Value → Shared → Prop),
  EnvOk env sc → AOk C A k → RelG C σ s → FrameRel C env m σ s.heap → T m σ Q →
  (∀ v w σ' s', VRel C.aS s'.heap v w → RelG C σ' s' → Step no σ σ' s.heap s'.heap → Q v σ' → P w s') →
  wpAny (model C.prog C.w) A (eval e env) P E s
structure HB (C : Cx) (sc : Scope) (k : Nat) (e : Expr) (T : BT) : Prop where
 run : ∀ (env : Env) (A : Around) (s : Shared) (m : Loc) (σ : View) (Q : Bool → View → Prop) (P : Bool → Shared → Prop) (E : Value → Shared → Prop),
  EnvOk env sc → AOk C A k → RelG C σ s → FrameRel C env m σ s.heap → T m σ Q →
  (∀ b σ' s', RelG C σ' s' → Step no σ σ' s.heap s'.heap → Q b σ' → P b s') →
  wpAny (model C.prog C.w) A (isTrue e env (eval e env)) P E s
structure HL (C : Cx) (sc : Scope) (k : Nat) (es : List Expr) (T : LT) : Prop where
 run : ∀ (env : Env) (A : Around) (s : Shared) (m : Loc) (σ : View) (pos : Pos) (Q : List V → View → Prop) (P : List Value → Shared → Prop) (E : Value → Shared → Prop),
  EnvOk env sc → AOk C A k → RelG C σ s → FrameRel C env m σ s.heap → T m σ Q →
  (∀ vs ws σ' s', VRels C.aS s'.heap vs ws → RelG C σ' s' → Step no σ σ' s.heap s'.heap → Q vs σ' → P ws s') →
  wpAny (model C.prog C.w) A (spliced (backTo pos (starEach es env))) P E s
section
variable {C : Cx} {sc : Scope} {k : Nat}
noncomputable def eName (x : String) : ET := fun m σ Q => ∃ v, m x = some v ∧ Q v σ
theorem HE.name {x : String} {pos : Pos} (h : sc.names.lookup (Str.ofString x) = some .local) (hd : (Str.ofString x == ("__debug__" : Str)) = false) : HE C sc k (.Name (Str.ofString x) pos) (eName x) := by
 refine ⟨?_⟩; intro env A s m σ Q P E en ao R F ⟨v, hv, q⟩ hP
 obtain ⟨mm, hn, hm⟩ := F.ns
 obtain ⟨w, hw, hr⟩ := hm x v hv (en.of h)
 exact wpAny_Name (wpAny_loadName_local en.k (en.of h) hn hw (hP v w σ s hr R Step.refl q)) hd
theorem HE.cell {x : String} {pos : Pos} (h : sc.names.lookup (Str.ofString x) = some .cell) (hd : (Str.ofString x == ("__debug__" : Str)) = false) : HE C sc k (.Name (Str.ofString x) pos) (eName x) := by
 refine ⟨?_⟩; intro env A s m σ Q P E en ao R F ⟨v, hv, q⟩ hP
 have kk := en.of h
 rcases F.cel x v hv with z | ⟨_, c, w, h1, h2, h3⟩
 ·rw [kk] at z; cases z
 ·exact wpAny_Name (wpAny_loadName_cell en.k kk h1 h2 (hP v w σ s h3 R Step.refl q)) hd
noncomputable def eVal (v : V) : ET := fun _ σ Q => Q v σ
theorem HE.glob (O : C.Ok) {x : String} {pos : Pos} {v : V} {w : Value} (h : sc.names.lookup (Str.ofString x) = some .globalImplicit) (hg : C.mg (Str.ofString x) = some w) (hv : ∀ h, VRel C.aS h v w) (hd : (Str.ofString x == ("__debug__" : Str)) = false) :
  HE C sc k (.Name (Str.ofString x) pos) (eVal v) := by
 refine ⟨?_⟩; intro env A s m σ Q P E en ao R F q hP
 exact Calls.Name_function_global en.k (en.of h) (Calls.loadGlobal_global (mg := C.mg) (by rw [en.globals]; exact O.g.keeps R.base) hg (hP v w σ s (hv _) R Step.refl q)) hd
theorem HE.int {i : Int} {n : Nat} {pos : Pos} : HE C sc k (.Constant (.int i) n pos) (eVal (.int i)) := by
 refine ⟨?_⟩; intro env A s m σ Q P E en ao R F q hP
 exact wpAny_Constant_int (hP _ _ σ _ (.int i _) (R.tok _) (Step.refl) q)
theorem HE.str {x : Str} {n : Nat} {pos : Pos} : HE C sc k (.Constant (.str x) n pos) (eVal (.str x)) := by
 refine ⟨?_⟩; intro env A s m σ Q P E en ao R F q hP
 exact Calls.Constant_str (hP _ _ σ _ (.str x _) (R.tok _) (Step.refl) q)
theorem HE.bool {b : Bool} {n : Nat} {pos : Pos} : HE C sc k (.Constant (.bool b) n pos) (eVal (.bool b)) := by
 refine ⟨?_⟩; intro env A s m σ Q P E en ao R F q hP
 exact wpAny_Constant_bool (hP _ _ σ _ (.bool b) R (Step.refl) q)
theorem HE.gty (O : C.Ok) {x n : String} {pos : Pos} (h : sc.names.lookup (Str.ofString x) = some .globalImplicit) (hg : C.mg (Str.ofString x) = Option.none) (hb : C.mb (Str.ofString x) = some (.type n)) (hd : (Str.ofString x == ("__debug__" : Str)) = false) :
  HE C sc k (.Name (Str.ofString x) pos) (eVal (.ty n)) := by
 refine ⟨?_⟩; intro env A s m σ Q P E en ao R F q hP
 exact Calls.Name_function_global en.k (en.of h) (Calls.loadGlobal_builtin (mg := C.mg) (mb := C.mb) (by rw [en.globals]; exact O.g.keeps R.base) hg (by rw [en.builtins]; exact O.b.keeps R.base) hb (hP _ _ σ s (.ty n) R Step.refl q)) hd
noncomputable def lNil : LT := fun _ σ Q => Q [] σ
noncomputable def lCons (T : ET) (L : LT) : LT := fun m σ Q => T m σ fun v σ₁ => L m σ₁ fun vs σ₂ => Q (v :: vs) σ₂
theorem HL.nil : HL C sc k [] lNil := by
 refine ⟨?_⟩; intro env A s m σ pos Q P E en ao R F q hP
 exact Calls.spliced_nil (hP [] [] σ s .nil R Step.refl q)
noncomputable def notStar : Expr → Bool
 | .Starred .. => false
 | _ => true
theorem starEach_plain {e : Expr} {rest : List Expr} {env : Env} (h : notStar e = true) : starEach (e :: rest) env = (false, eval e env) :: starEach rest env := by
 cases e <;> first | rfl | cases h
theorem HL.cons {e : Expr} {es : List Expr} {T : ET} {L : LT} (he : HE C sc k e T) (hl : HL C sc k es L) (hs : notStar e = true) : HL C sc k (e :: es) (lCons T L) := by
 refine ⟨?_⟩; intro env A s m σ pos Q P E en ao R F q hP
 rw [starEach_plain hs]
 show wpAny _ A (spliced ((false, eval e env) :: backTo pos (starEach es env))) P E s
 refine Calls.spliced_cons (he.run env A s m σ _ _ E en ao R F q fun v w σ₁ s₁ hv R₁ S₁ q₁ => ?_)
 exact hl.run env A s₁ m σ₁ pos _ _ E en ao R₁ (F.step R S₁) q₁ fun vs ws σ₂ s₂ hvs R₂ S₂ q₂ => hP _ _ σ₂ s₂ (.cons (hv.keep (S₂.tupsN R₁)) hvs) R₂ (S₁.trans S₂) q₂
noncomputable def eTup (L : LT) : ET := fun m σ Q => L m σ fun vs σ₁ => vs.length ≤ 1000 ∧ Q (.tup vs) σ₁
theorem push_old {h : Heap} {o : Obj} : ∀ b o', h.get? b = some o' → (h.push o).get? b = some o' := fun _ _ e => Heap.get?_push_of_some _ e
theorem HE.tup {es : List Expr} {L : LT} {n : Nat} {pos : Pos} (hl : HL C sc k es L) : HE C sc k (.Tuple es n pos) (eTup L) := by
 refine ⟨?_⟩; intro env A s m σ Q P E en ao R F q hP
 show wpAny _ A (do standAt pos; newTuple (← spliced (backTo pos (starEach es env)))) P E s
 refine wpAny_bind (wpAny_standAt (wpAny_bind (hl.run env A s m σ pos _ _ E en ao R F q fun vs ws σ₁ s₁ hv R₁ S₁ q₁ => ?_)))
 have hlen := hv.length
 refine wpAny_newTuple (hP _ _ σ₁ _ (.tup (ws := ws) ⟨_, Heap.get?_push_size _ rfl, rfl, _, rfl⟩ (hv.keep fun _ _ e _ => push_old _ _ e)) (R₁.grow push_old) (S₁.trans .push) q₁.2) (by rw [← hlen, sizeLine_eq]; have := q₁.1; omega)
noncomputable def newL (xs : List V) (σ : View) (Q : V → View → Prop) : Prop := ∀ a, σ a = none → Q (.ref a) (upd σ a (.list xs))
noncomputable def eList (L : LT) : ET := fun m σ Q => L m σ fun vs σ₁ => vs.length ≤ 1000 ∧ newL vs σ₁ Q
theorem HE.list {es : List Expr} {L : LT} {pos : Pos} (hl : HL C sc k es L) : HE C sc k (.List es pos) (eList L) := by
 refine ⟨?_⟩; intro env A s m σ Q P E en ao R F q hP
 show wpAny _ A (do standAt pos; newList (← spliced (backTo pos (starEach es env)))) P E s
 refine wpAny_bind (wpAny_standAt (wpAny_bind (hl.run env A s m σ pos _ _ E en ao R F q fun vs ws σ₁ s₁ hv R₁ S₁ q₁ => ?_)))
 have hlen := hv.length
 have hn := size_none s₁.heap
 refine wpAny_newList (hP _ _ (upd σ₁ s₁.heap.objs.size (.list vs)) _ (.ref _) (R₁.add (tk := s₁.toks) push_old hn ⟨by have := q₁.1; omega, ws, ⟨_, Heap.get?_push_size _ rfl⟩, hv.keep fun _ _ e _ => push_old _ _ e⟩) (S₁.trans .addPush) (q₁.2 _ (R₁.freshNone hn))) (by rw [← hlen, sizeLine_eq]; have := q₁.1; omega)
end
end Mine
end
noncomputable section
namespace Mine
open PySem
abbrev O2 := V → V → View → (V → View → Prop) → Prop
abbrev O1 := V → View → (V → View → Prop) → Prop
abbrev Aft (C : Cx) (σ : View) (s : Shared) (Q : V → View → Prop) (P : Value → Shared → Prop) : Prop :=
 ∀ v w σ' s', VRel C.aS s'.heap v w → RelG C σ' s' → Step no σ σ' s.heap s'.heap → Q v σ' → P w s'
noncomputable def Op2 (C : Cx) (k : Nat) (t : Value → Value → Sem Value) (op : O2) : Prop :=
 ∀ (A : Around) (s : Shared) (σ : View) (a b : V) (wa wb : Value) (Q : V → View → Prop) (P E : Value → Shared → Prop), AOk C A k → RelG C σ s → VRel C.aS s.heap a wa → VRel C.aS s.heap b wb → op a b σ Q → Aft C σ s Q P →
  wpAny (model C.prog C.w) A (t wa wb) P E s
noncomputable def eBin (op : O2) (T U : ET) : ET := fun m σ Q => T m σ fun a σ₁ => U m σ₁ fun b σ₂ => op a b σ₂ Q
section
variable {C : Cx} {sc : Scope} {k : Nat}
theorem two {op : O2} {t : Value → Value → Sem Value} {T U : ET} {e f : Expr} (hop : Op2 C k t op) (he : HE C sc k e T) (hf : HE C sc k f U) {env : Env} {A : Around} {s : Shared} {m : Loc} {σ : View} {Q : V → View → Prop} {P E : Value → Shared → Prop}
  (en : EnvOk env sc) (ao : AOk C A k) (R : RelG C σ s) (F : FrameRel C env m σ s.heap) (q : eBin op T U m σ Q) (hP : Aft C σ s Q P) :
  wpAny (model C.prog C.w) A (eval e env) (fun a s₁ => wpAny (model C.prog C.w) A (eval f env) (fun b s₂ => wpAny (model C.prog C.w) A (t a b) P E s₂) E s₁) E s :=
 he.run env A s m σ _ _ E en ao R F q fun a wa σ₁ s₁ va R₁ S₁ q₁ =>
  hf.run env A s₁ m σ₁ _ _ E en ao R₁ (F.step R S₁) q₁ fun b wb σ₂ s₂ vb R₂ S₂ q₂ =>
   hop A s₂ σ₂ a b wa wb Q P E ao R₂ (va.keep (S₂.tupsN R₁)) vb q₂ fun v w σ' s' hv R' S' q' => hP v w σ' s' hv R' ((S₁.trans S₂).trans S') q'
theorem HE.bin {op : O2} {o : Operator} {l r : Expr} {pos : Pos} {T U : ET} (hop : Op2 C k (binaryOp o) op) (hl : HE C sc k l T) (hr : HE C sc k r U) : HE C sc k (.BinOp l o r pos) (eBin op T U) := by
 refine ⟨?_⟩; intro env A s m σ Q P E en ao R F q hP
 exact wpAny_BinOp (two hop hl hr en ao R F q hP)
theorem HE.cmp {op : O2} {o : CmpOp} {l r : Expr} {pos : Pos} {T U : ET} (hop : Op2 C k (compareOp o) op) (hl : HE C sc k l T) (hr : HE C sc k r U) (hm : behindInMarks o r = false) : HE C sc k (.Compare l [o] [r] pos) (eBin op T U) := by
 refine ⟨?_⟩; intro env A s m σ Q P E en ao R F q hP
 exact wpAny_Compare1 (two hop hl hr en ao R F q hP) hm
noncomputable def tBool (T : ET) : BT := fun m σ Q => T m σ fun v σ' => ∃ b, v = .bool b ∧ Q b σ'
theorem HB.cmp {op : O2} {o : CmpOp} {l r : Expr} {pos : Pos} {T U : ET} (hop : Op2 C k (compareOp o) op) (hl : HE C sc k l T) (hr : HE C sc k r U) (hm : behindInMarks o r = false) : HB C sc k (.Compare l [o] [r] pos) (tBool (eBin op T U)) := by
 refine ⟨?_⟩; intro env A s m σ Q P E en ao R F q hP
 refine wpAny_isTrue_Compare1 (two (P := fun c s₃ => wpAny _ A (truthy c) P E s₃) hop hl hr en ao R F q fun v w σ' s' hv R' S' q' => ?_) hm
 obtain ⟨b, rfl, q'⟩ := q'
 cases hv
 exact wpAny_truthy_bool (hP b σ' s' R' S' q')
noncomputable def tCmp2 (o1 o2 : O2) (T U W : ET) : BT := fun m σ Q => T m σ fun a σ₁ => U m σ₁ fun b σ₂ => o1 a b σ₂ fun v σ₃ => ∃ x, v = .bool x ∧ if x then W m σ₃ fun c σ₄ => o2 b c σ₄ fun u σ₅ => ∃ y, u = .bool y ∧ Q y σ₅ else Q false σ₃
theorem HB.cmp2 {p1 p2 : O2} {o1 o2 : CmpOp} {l r z : Expr} {pos : Pos} {T U W : ET} (h1 : Op2 C k (compareOp o1) p1) (h2 : Op2 C k (compareOp o2) p2) (hl : HE C sc k l T) (hr : HE C sc k r U) (hz : HE C sc k z W) (hm : behindInMarks o2 z = false) :
  HB C sc k (.Compare l [o1, o2] [r, z] pos) (tCmp2 p1 p2 T U W) := by
 refine ⟨?_⟩; intro env A s m σ Q P E en ao R F q hP
 show wpAny _ A (do testChain pos (← eval l env) [o1, o2] [eval r env, markedBehindIn o2 z (eval z env)]) P E s
 rw [markedBehindIn_of_false hm]
 refine wpAny_bind (hl.run env A s m σ _ _ E en ao R F q fun a wa σ₁ s₁ va R₁ S₁ q₁ => ?_)
 show wpAny _ A (do
  let rv ← holding [wa] (eval r env)
  standAt pos
  let c ← holding [wa, rv] (compareOp o1 wa rv)
  release [wa, rv] [c]
  if ← holding [c, rv] (truthy c) then testChain pos rv [o2] [eval z env] else pure false) P E s₁
 refine wpAny_bind (wpAny_holding (hr.run env A s₁ m σ₁ _ _ E en ao R₁ (F.step R S₁) q₁ fun b wb σ₂ s₂ vb R₂ S₂ q₂ => ?_))
 refine wpAny_bind (wpAny_standAt (wpAny_bind (wpAny_holding ?_)))
 refine h1 A s₂ σ₂ a b wa wb _ _ E ao R₂ (va.keep (S₂.tupsN R₁)) vb q₂ fun v w σ₃ s₃ hv R₃ S₃ q₃ => ?_
 obtain ⟨x, rfl, q₃⟩ := q₃
 cases hv
 refine wpAny_bind ?_
 intro Γ p hΓ
 rw [Sem.wp_release]
 refine wpAny_bind (wpAny_holding (wpAny_truthy_bool ?_))
 have S₁₃ := (S₁.trans S₂).trans S₃
 cases x with
 | false => exact wpAny_pure (hP false σ₃ s₃ R₃ S₁₃ (by simpa using q₃))
 | true =>
  simp only [if_true] at q₃ ⊢
  show wpAny _ A (do
   let rv ← holding [wb] (eval z env)
   standAt pos
   let c ← operate [wb, rv] (compareOp o2 wb rv)
   holding [c] (truthy c)) P E s₃
  refine wpAny_bind (wpAny_holding (hz.run env A s₃ m σ₃ _ _ E en ao R₃ (F.step R S₁₃) q₃ fun c wc σ₄ s₄ vc R₄ S₄ q₄ => ?_))
  refine wpAny_bind (wpAny_standAt (wpAny_bind (wpAny_operating ?_)))
  refine h2 A s₄ σ₄ b c wb wc _ _ E ao R₄ ((vb.keep (S₃.tupsN R₂)).keep (S₄.tupsN R₃)) vc q₄ fun v w σ₅ s₅ hv R₅ S₅ q₅ => ?_
  obtain ⟨y, rfl, q₅⟩ := q₅
  cases hv
  exact wpAny_holding (wpAny_truthy_bool (hP y σ₅ s₅ R₅ ((S₁₃.trans S₄).trans S₅) q₅))
theorem HB.val {e : Expr} {T : ET} (he : HE C sc k e T) (hi : ∀ env whole, isTrue e env whole = (do let v ← whole; standAt e.pos; holding [v] (truthy v))) : HB C sc k e (tBool T) := by
 refine ⟨?_⟩; intro env A s m σ Q P E en ao R F q hP
 refine wpAny_isTrue_value (he.run env A s m σ _ _ E en ao R F q fun v w σ' s' hv R' S' q' => ?_) (hi env _)
 obtain ⟨b, rfl, q'⟩ := q'
 cases hv
 exact wpAny_truthy_bool (hP b σ' s' R' S' q')
noncomputable def tNot (T : BT) : BT := fun m σ Q => T m σ fun b σ' => Q (!b) σ'
theorem HB.not {e : Expr} {pos : Pos} {T : BT} (he : HB C sc k e T) : HB C sc k (.UnaryOp .Not e pos) (tNot T) := by
 refine ⟨?_⟩; intro env A s m σ Q P E en ao R F q hP
 exact wpAny_isTrue_Not (he.run env A s m σ _ _ E en ao R F q fun b σ' s' R' S' q' => hP (!b) σ' s' R' S' q')
structure HBs (C : Cx) (sc : Scope) (k : Nat) (op : BoolOp) (es : List Expr) (T : BT) : Prop where
 run : ∀ (env : Env) (A : Around) (s : Shared) (m : Loc) (σ : View) (Q : Bool → View → Prop) (P : Bool → Shared → Prop) (E : Value → Shared → Prop),
  EnvOk env sc → AOk C A k → RelG C σ s → FrameRel C env m σ s.heap → T m σ Q →
  (∀ b σ' s', RelG C σ' s' → Step no σ σ' s.heap s'.heap → Q b σ' → P b s') →
  wpAny (model C.prog C.w) A (allTrue op es env) P E s
noncomputable def tT : BT := fun _ σ Q => Q true σ
noncomputable def tF : BT := fun _ σ Q => Q false σ
noncomputable def tAnd (T U : BT) : BT := fun m σ Q => T m σ fun b σ' => if b then U m σ' Q else Q false σ'
noncomputable def tOr (T U : BT) : BT := fun m σ Q => T m σ fun b σ' => if b then Q true σ' else U m σ' Q
theorem HBs.andNil : HBs C sc k .And [] tT := ⟨fun _ _ s _ σ _ _ _ _ _ R _ q hP => wpAny_allTrue_And_nil (hP true σ s R Step.refl q)⟩
theorem HBs.orNil : HBs C sc k .Or [] tF := ⟨fun _ _ s _ σ _ _ _ _ _ R _ q hP => wpAny_allTrue_Or_nil (hP false σ s R Step.refl q)⟩
theorem HBs.and {e : Expr} {es : List Expr} {T U : BT} (he : HB C sc k e T) (hs : HBs C sc k .And es U) : HBs C sc k .And (e :: es) (tAnd T U) := by
 refine ⟨?_⟩; intro env A s m σ Q P E en ao R F q hP
 refine wpAny_allTrue_And_cons (he.run env A s m σ _ _ E en ao R F q fun b σ' s' R' S' q' => ?_)
 cases b with
 | false => simpa using hP false σ' s' R' S' (by simpa using q')
 | true => simp only [if_true] at q' ⊢; exact hs.run env A s' m σ' Q P E en ao R' (F.step R S') q' fun b σ₂ s₂ R₂ S₂ q₂ => hP b σ₂ s₂ R₂ (S'.trans S₂) q₂
theorem HBs.or {e : Expr} {es : List Expr} {T U : BT} (he : HB C sc k e T) (hs : HBs C sc k .Or es U) : HBs C sc k .Or (e :: es) (tOr T U) := by
 refine ⟨?_⟩; intro env A s m σ Q P E en ao R F q hP
 refine wpAny_allTrue_Or_cons (he.run env A s m σ _ _ E en ao R F q fun b σ' s' R' S' q' => ?_)
 cases b with
 | true => simpa using hP true σ' s' R' S' (by simpa using q')
 | false => simp only [Bool.false_eq_true, if_false] at q' ⊢; exact hs.run env A s' m σ' Q P E en ao R' (F.step R S') q' fun b σ₂ s₂ R₂ S₂ q₂ => hP b σ₂ s₂ R₂ (S'.trans S₂) q₂
theorem HB.boolOp {op : BoolOp} {es : List Expr} {pos : Pos} {T : BT} (h : HBs C sc k op es T) : HB C sc k (.BoolOp op es pos) T := by
 refine ⟨?_⟩; intro env A s m σ Q P E en ao R F q hP
 exact wpAny_isTrue_BoolOp (h.run env A s m σ Q P E en ao R F q hP)
structure HVs (C : Cx) (sc : Scope) (k : Nat) (op : BoolOp) (es : List Expr) (T : ET) : Prop where
 run : ∀ (env : Env) (A : Around) (s : Shared) (m : Loc) (σ : View) (pos : Pos) (Q : V → View → Prop) (P : Value → Shared → Prop) (E : Value → Shared → Prop),
  EnvOk env sc → AOk C A k → RelG C σ s → FrameRel C env m σ s.heap → T m σ Q → Aft C σ s Q P → wpAny (model C.prog C.w) A (boolOp pos op (evalEach es env)) P E s
theorem HVs.one {op : BoolOp} {e : Expr} {T : ET} (he : HE C sc k e T) : HVs C sc k op [e] T := by
 refine ⟨?_⟩; intro env A s m σ pos Q P E en ao R F q hP
 exact he.run env A s m σ Q P E en ao R F q hP
noncomputable def eAnd (T U : ET) : ET := fun m σ Q => T m σ fun v σ' => ∃ b, v = .bool b ∧ if b then U m σ' Q else Q (.bool false) σ'
theorem HVs.and {e f : Expr} {es : List Expr} {T U : ET} (he : HE C sc k e T) (hs : HVs C sc k .And (f :: es) U) : HVs C sc k .And (e :: f :: es) (eAnd T U) := by
 refine ⟨?_⟩; intro env A s m σ pos Q P E en ao R F q hP
 show wpAny _ A (do
  let v ← eval e env
  standAt pos
  let t ← holding [v] (truthy v)
  match BoolOp.And, t with
  | .And, false | .Or, true => pure v
  | _, _ => boolOp pos .And (evalEach (f :: es) env)) P E s
 refine wpAny_bind (he.run env A s m σ _ _ E en ao R F q fun v w σ' s' hv R' S' q' => wpAny_bind (wpAny_standAt (wpAny_bind (wpAny_holding ?_))))
 obtain ⟨b, rfl, q'⟩ := q'
 cases hv
 refine wpAny_truthy_bool ?_
 cases b with
 | false => exact wpAny_pure (hP _ _ σ' s' (.bool false) R' S' (by simpa using q'))
 | true => simp only [if_true] at q'; exact hs.run env A s' m σ' pos Q P E en ao R' (F.step R S') q' fun v w σ₂ s₂ hv R₂ S₂ q₂ => hP v w σ₂ s₂ hv R₂ (S'.trans S₂) q₂
theorem HE.boolOp {op : BoolOp} {es : List Expr} {pos : Pos} {T : ET} (h : HVs C sc k op es T) : HE C sc k (.BoolOp op es pos) T := by
 refine ⟨?_⟩; intro env A s m σ Q P E en ao R F q hP
 exact h.run env A s m σ pos Q P E en ao R F q hP
theorem HE.sub {op : O2} {value slice : Expr} {pos : Pos} {T U : ET} (hv : HE C sc k value T) (hi : HE C sc k slice U)
  (hop : Op2 C k (fun o i => getitemInPython o >>= fun b => subscripted slice b o i) op) : HE C sc k (.Subscript value slice pos) (eBin op T U) := by
 refine ⟨?_⟩; intro env A s m σ Q P E en ao R F q hP
 show wpAny _ A (do
  let o ← eval value env
  let i ← holding [o] (eval slice env)
  standAt pos
  let r ← subscripted slice (← getitemInPython o) o i
  letTemporaryGo value o r
  pure r) P E s
 refine wpAny_bind (wpAny_mono (two (P := P) (E := E) hop hv hi en ao R F q hP) (fun o s₁ h₁ => wpAny_bind (wpAny_holding (wpAny_mono h₁ (fun i s₂ h₂ => wpAny_bind (wpAny_standAt ?_)) fun _ _ x => x))) fun _ _ x => x)
 have h₃ : wpAny (model C.prog C.w) A ((getitemInPython o >>= fun b => subscripted slice b o i) >>= fun r => letTemporaryGo value o r >>= fun _ => pure r) P E s₂ :=
  wpAny_bind (wpAny_mono h₂ (fun r s₃ hr => wpAny_bind (wpAny_letTemporaryGo (wpAny_pure hr))) fun _ _ x => x)
 rwa [bind_assoc] at h₃
end
end Mine
end
noncomputable section
namespace Mine
open PySem
noncomputable def Short (i : Int) : Prop := i.natAbs < 2 ^ 64
theorem intBits_short {i : Int} (h : Short i) : Builtin.Int.intBits i ≤ 64 := by
 unfold Builtin.Int.intBits
 split
 ·decide
 ·rename_i hn
  have h0 : i.natAbs ≠ 0 := by
   intro e
   have : i = 0 := Int.natAbs_eq_zero.mp e
   simp [this] at hn
  have := (Nat.log2_lt h0).mpr h
  omega
theorem beq_dec {α : Type} [DecidableEq α] (a b : α) : (a == b) = decide (a = b) := by
 by_cases h : a = b
 ·subst h; simp
 ·simp [h]
section
variable {C : Cx} {k : Nat}
noncomputable def opSub : O2
 | .int x, .int y, σ, Q => Q (.int (x - y)) σ
 | _, _, _, _ => False
theorem ok_sub : Op2 C k (binaryOp .Sub) opSub := by
 intro A s σ a b wa wb Q P E ao R va vb q hP
 cases a <;> first | exact q.elim | skip
 cases b <;> first | exact q.elim | skip
 cases va; cases vb
 exact _root_.PySem.P.sub_int (hP _ _ σ _ (.int _ _) (R.tok _) Step.refl q)
noncomputable def opMod : O2
 | .int x, .int y, σ, Q => 0 < y ∧ Q (.int (x % y)) σ
 | _, _, _, _ => False
theorem ok_mod : Op2 C k (binaryOp .Mod) opMod := by
 intro A s σ a b wa wb Q P E ao R va vb q hP
 cases a <;> first | exact q.elim | skip
 cases b <;> first | exact q.elim | skip
 cases va; cases vb
 rename_i x t y u
 obtain ⟨hy, q⟩ := q
 refine PyProof.Rows.mod_int' (by exact Int.ne_of_gt hy) ?_
 rw [Int.fmod_eq_emod_of_nonneg _ (by exact Int.le_of_lt hy)]
 exact hP _ _ σ _ (.int _ _) (R.tok _) Step.refl q
noncomputable def opDiv : O2
 | .int x, .int y, σ, Q => (0 < y ∧ y < 1073741824) ∧ Q (.int (x / y)) σ
 | _, _, _, _ => False
theorem ok_div : Op2 C k (binaryOp .FloorDiv) opDiv := by
 intro A s σ a b wa wb Q P E ao R va vb q hP
 cases a <;> first | exact q.elim | skip
 cases b <;> first | exact q.elim | skip
 cases va; cases vb
 obtain ⟨hy, q⟩ := q
 refine PyProof.Rows.floordiv_int (by exact Int.ne_of_gt hy.1) ?_ (.inl (PyProof.noPylong_small (by omega)))
 rw [Int.fdiv_eq_ediv_of_nonneg _ (by exact Int.le_of_lt hy.1)]
 exact hP _ _ σ _ (.int _ _) (R.tok _) Step.refl q
noncomputable def opMul : O2
 | .int x, .int y, σ, Q => (Short x ∨ Short y) ∧ Q (.int (x * y)) σ
 | _, _, _, _ => False
theorem ok_mul : Op2 C k (binaryOp .Mult) opMul := by
 intro A s σ a b wa wb Q P E ao R va vb q hP
 cases a <;> first | exact q.elim | skip
 cases b <;> first | exact q.elim | skip
 cases va; cases vb
 refine _root_.PySem.P.mul_int (hP _ _ σ _ (.int _ _) (R.tok _) Step.refl q.2) (q.1.elim (fun h => .of_left (intBits_short h)) fun h => ?_)
 exact .of_right (intBits_short h)
noncomputable def opLt : O2
 | .int x, .int y, σ, Q => Q (.bool (decide (x < y))) σ
 | _, _, _, _ => False
noncomputable def opLe : O2
 | .int x, .int y, σ, Q => Q (.bool (decide (x ≤ y))) σ
 | _, _, _, _ => False
noncomputable def opGt : O2
 | .int x, .int y, σ, Q => Q (.bool (decide (x > y))) σ
 | _, _, _, _ => False
theorem ok_lt : Op2 C k (compareOp .Lt) opLt := by
 intro A s σ a b wa wb Q P E ao R va vb q hP
 cases a <;> first | exact q.elim | skip
 cases b <;> first | exact q.elim | skip
 cases va; cases vb
 exact _root_.PySem.P.lt_int (hP _ _ σ _ (.bool _) R Step.refl q)
theorem ok_le : Op2 C k (compareOp .LtE) opLe := by
 intro A s σ a b wa wb Q P E ao R va vb q hP
 cases a <;> first | exact q.elim | skip
 cases b <;> first | exact q.elim | skip
 cases va; cases vb
 exact _root_.PySem.P.le_int (hP _ _ σ _ (.bool _) R Step.refl q)
theorem ok_gt : Op2 C k (compareOp .Gt) opGt := by
 intro A s σ a b wa wb Q P E ao R va vb q hP
 cases a <;> first | exact q.elim | skip
 cases b <;> first | exact q.elim | skip
 cases va; cases vb
 exact _root_.PySem.P.gt_int (hP _ _ σ _ (.bool _) R Step.refl q)
noncomputable def veq0 : V → V → Option Bool
 | .none, .none => some true
 | .none, .str _ => some false
 | .str _, .none => some false
 | .bool a, .bool b => some (a == b)
 | .int a, .int b => some (decide (a = b))
 | .str a, .str b => some (decide (a = b))
 | _, _ => none
noncomputable def opEq0 : O2 := fun a b σ Q => ∃ r, veq0 a b = some r ∧ Q (.bool r) σ
noncomputable def opNe0 : O2 := fun a b σ Q => ∃ r, veq0 a b = some r ∧ Q (.bool (!r)) σ
theorem ok_eq0 : Op2 C k (compareOp .Eq) opEq0 := by
 intro A s σ a b wa wb Q P E ao R va vb ⟨r, hr, q⟩ hP
 unfold veq0 at hr
 split at hr <;> cases hr <;> cases va <;> cases vb
 ·exact PySem.EqNone.eq_none_none (hP _ _ σ _ (.bool _) R Step.refl q)
 ·exact PySem.EqNone.eq_none_str (hP _ _ σ _ (.bool _) R Step.refl q)
 ·exact PySem.EqNone.eq_str_none (hP _ _ σ _ (.bool _) R Step.refl q)
 ·exact PyProof.Rows.eq_bool (hP _ _ σ _ (.bool _) R Step.refl q)
 ·exact _root_.PySem.P.eq_int (by rw [beq_dec]; exact hP _ _ σ _ (.bool _) R Step.refl q)
 ·exact PyProof.Rows.eq_str (hP _ _ σ _ (.bool _) R Step.refl (by rw [beq_dec]; exact q))
theorem ok_ne0 : Op2 C k (compareOp .NotEq) opNe0 := by
 intro A s σ a b wa wb Q P E ao R va vb ⟨r, hr, q⟩ hP
 unfold veq0 at hr
 split at hr <;> cases hr <;> cases va <;> cases vb
 ·exact PySem.EqNone.ne_none_none (hP _ _ σ _ (.bool _) R Step.refl q)
 ·exact PySem.EqNone.ne_none_str (hP _ _ σ _ (.bool _) R Step.refl q)
 ·exact PySem.EqNone.ne_str_none (hP _ _ σ _ (.bool _) R Step.refl q)
 ·exact PyProof.Rows.ne_bool (hP _ _ σ _ (.bool _) R Step.refl q)
 ·exact _root_.PySem.P.ne_int (hP _ _ σ _ (.bool _) R Step.refl (by rw [bne, beq_dec]; exact q))
 ·exact PyProof.Rows.ne_str (hP _ _ σ _ (.bool _) R Step.refl (by rw [bne, beq_dec]; exact q))
noncomputable def opInS : O2
 | .str y, .str x, σ, Q => Q (.bool (Txt.contains x y)) σ
 | _, _, _, _ => False
noncomputable def opNotInS : O2
 | .str y, .str x, σ, Q => Q (.bool (!Txt.contains x y)) σ
 | _, _, _, _ => False
theorem ok_notInS : Op2 C k (compareOp .NotIn) opNotInS := by
 intro A s σ a b wa wb Q P E ao R va vb q hP
 cases a <;> first | exact q.elim | skip
 cases b <;> first | exact q.elim | skip
 cases va; cases vb
 exact SB.notContains (hP _ _ σ _ (.bool _) R Step.refl q)
end
end Mine
end
noncomputable section
namespace Mine
open PySem
theorem ofString_inj {a b : String} (h : Str.ofString a = Str.ofString b) : a = b := by
 rw [Str.ofString_eq_toList, Str.ofString_eq_toList] at h
 have h1 : (a.toList.map Char.toNat) = (b.toList.map Char.toNat) := by
  have := congrArg (fun x : Str => x.cps.toList) h
  simpa using this
 have h2 : a.toList = b.toList := by
  refine (List.map_inj_right ?_).mp h1
  intro x y e
  exact Char.toNat_inj.mp e
 exact String.toList_inj.mp h2
inductive Fl where
 | next | brk | cont
 | ret (v : V)
abbrev ST := Loc → View → (Fl → Loc → View → Prop) → Prop
inductive FlRel (aS : Addr) (h : Heap) : Fl → Flow → Prop
 | next : FlRel aS h .next .next
 | brk : FlRel aS h .brk .brk
 | cont : FlRel aS h .cont .cont
 | ret {v : V} {w : Value} : VRel aS h v w → FlRel aS h (.ret v) (.ret w)
abbrev AftS (C : Cx) (env : Env) (σ : View) (s : Shared) (Q : Fl → Loc → View → Prop) (P : Flow → Shared → Prop) : Prop :=
 ∀ f g m' σ' s', FlRel C.aS s'.heap f g → RelG C σ' s' → FrameRel C env m' σ' s'.heap → Step (Own env) σ σ' s.heap s'.heap → Q f m' σ' → P g s'
structure HS (C : Cx) (sc : Scope) (k : Nat) (b : List Stmt) (T : ST) : Prop where
 run : ∀ (env : Env) (A : Around) (s : Shared) (m : Loc) (σ : View) (Q : Fl → Loc → View → Prop) (P : Flow → Shared → Prop) (E : Value → Shared → Prop),
  EnvOk env sc → AOk C A k → RelG C σ s → FrameRel C env m σ s.heap → T m σ Q → AftS C env σ s Q P → wpAny (model C.prog C.w) A (execs b env) P E s
structure HS1 (C : Cx) (sc : Scope) (k : Nat) (b : Stmt) (T : ST) : Prop where
 run : ∀ (env : Env) (A : Around) (s : Shared) (m : Loc) (σ : View) (Q : Fl → Loc → View → Prop) (P : Flow → Shared → Prop) (E : Value → Shared → Prop),
  EnvOk env sc → AOk C A k → RelG C σ s → FrameRel C env m σ s.heap → T m σ Q → AftS C env σ s Q P → wpAny (model C.prog C.w) A (exec b env) P E s
section
variable {C : Cx} {sc : Scope} {k : Nat}
theorem FrameRel.ownT {env : Env} {m : Loc} {σ : View} {h : Heap} (F : FrameRel C env m σ h) : ∀ b o, Own env b → h.get? b = some o → ¬ IsT o := by
 rintro b o (rfl | ⟨n, hn⟩) ho ⟨_, it, n', hd⟩
 ·obtain ⟨mm, ⟨o', es, ep, ho', hd', _⟩, _⟩ := F.ns
  rw [ho] at ho'; cases ho'; rw [hd] at hd'; cases hd'
 ·obtain ⟨v, o', ho', hd'⟩ := F.cells n b hn
  rw [ho] at ho'; cases ho'; rw [hd] at hd'; cases hd'
theorem Step.tupsO {env : Env} {m : Loc} {σ σ' : View} {s : Shared} {h' : Heap} (F : FrameRel C env m σ s.heap) (R : RelG C σ s) (S : Step (Own env) σ σ' s.heap h') : TupKeep s.heap h' := S.tups R F.ownT
theorem Step.own {env : Env} {σ σ' : View} {h h' : Heap} (S : Step no σ σ' h h') : Step (Own env) σ σ' h h' := S.mono fun _ _ _ z => z.elim
noncomputable def sNil : ST := fun m σ Q => Q .next m σ
noncomputable def sSeq (T U : ST) : ST := fun m σ Q => T m σ fun f m₁ σ₁ => match f with
 | .next => U m₁ σ₁ Q
 | f => Q f m₁ σ₁
theorem HS.nil : HS C sc k [] sNil := ⟨fun _ _ s m σ _ _ _ _ _ R F q hP => wpAny_execs_nil (hP .next .next m σ s .next R F Step.refl q)⟩
theorem HS.cons {st : Stmt} {b : List Stmt} {T U : ST} (h1 : HS1 C sc k st T) (h2 : HS C sc k b U) : HS C sc k (st :: b) (sSeq T U) := by
 refine ⟨?_⟩; intro env A s m σ Q P E en ao R F q hP
 refine wpAny_execs_cons (h1.run env A s m σ _ _ E en ao R F q fun f g m₁ σ₁ s₁ hf R₁ F₁ S₁ q₁ => ?_)
 cases hf with
 | next => exact h2.run env A s₁ m₁ σ₁ Q P E en ao R₁ F₁ q₁ fun f g m₂ σ₂ s₂ hf R₂ F₂ S₂ q₂ => hP f g m₂ σ₂ s₂ hf R₂ F₂ (S₁.trans S₂) q₂
 | brk => exact hP _ _ m₁ σ₁ s₁ .brk R₁ F₁ S₁ q₁
 | cont => exact hP _ _ m₁ σ₁ s₁ .cont R₁ F₁ S₁ q₁
 | ret hv => exact hP _ _ m₁ σ₁ s₁ (.ret hv) R₁ F₁ S₁ q₁
theorem store_local {env : Env} {A : Around} {s : Shared} {m : Loc} {σ : View} {x : String} {v : V} {w : Value} {P : Unit → Shared → Prop} {E : Value → Shared → Prop} (en : EnvOk env sc) (R : RelG C σ s) (F : FrameRel C env m σ s.heap)
  (hl : sc.names.lookup (Str.ofString x) = some .local) (hv : VRel C.aS s.heap v w)
  (h : ∀ s', RelG C σ s' → FrameRel C env (put m x v) σ s'.heap → Step (fun b => b = env.locals) σ σ s.heap s'.heap → P () s') : wpAny (model C.prog C.w) A (storeName env (Str.ofString x) w) P E s := by
 obtain ⟨mm, hn, hm⟩ := F.ns
 have kl := en.of hl
 refine wpAny_storeName_local kl hn (fun h' hn' hs' => ?_) (by rw [en.k]; rfl)
 obtain ⟨oL, esL, epL, hoL, hdL, _⟩ := id hn
 have kt : TupKeep s.heap h' := fun b o e ht => (hs'.2 b (by rintro rfl; rw [hoL] at e; cases e; obtain ⟨_, _, _, hd⟩ := ht; rw [hdL] at hd; cases hd)).trans e
 have kc : ∀ c v, s.heap.IsCell c v → h'.IsCell c v := fun c v ⟨o, ho, hd⟩ => ⟨o, (hs'.2 c (by rintro rfl; rw [hoL] at ho; cases ho; rw [hdL] at hd; cases hd)).trans ho, hd⟩
 refine h _ ?_ ?_ ?_
 ·refine ⟨let ⟨_, _, d, e⟩ := R.rest; ⟨h', s.toks + 1, d, by rw [e]⟩, fun b o e => ?_, fun a o e => ?_, R.apart⟩
  ·exact (hs'.2 b (by rintro rfl; rw [F.baseL] at e; cases e)).trans (R.base b o e)
  ·exact (R.view a o e).keep kt fun o' e' => (hs'.2 a (by rintro rfl; rw [F.sepL] at e; cases e)).trans e'
 ·refine ⟨⟨_, hn', fun y u e ky => ?_⟩, fun y u e => ?_, fun n c e => ?_, F.sepL, F.baseL, F.baseC, F.dist, F.has⟩
  ·by_cases hy : y = x
   ·subst hy; rw [put_same] at e; cases e; exact ⟨w, by simp, hv.keep kt⟩
   ·rw [put_ne hy] at e
    obtain ⟨w', h1, h2⟩ := hm y u e ky
    exact ⟨w', by simp [show ¬ Str.ofString y = Str.ofString x from fun z => hy (ofString_inj z), h1], h2.keep kt⟩
  ·by_cases hy : y = x
   ·subst hy; exact .inl kl
   ·rw [put_ne hy] at e
    rcases F.cel y u e with z | ⟨z, c, w', h1, h2, h3⟩
    ·exact .inl z
    ·exact .inr ⟨z, c, w', h1, kc _ _ h2, h3.keep kt⟩
  ·obtain ⟨v, hv⟩ := F.cells n c e; exact ⟨v, kc _ _ hv⟩
 ·exact .of (fun b o e n q => (hs'.2 b q).trans e) (Nat.le_of_eq hs'.1.symm) fun _ a b => absurd a b
theorem store_cell {env : Env} {A : Around} {s : Shared} {m : Loc} {σ : View} {x : String} {v : V} {w : Value} {P : Unit → Shared → Prop} {E : Value → Shared → Prop} (en : EnvOk env sc) (R : RelG C σ s) (F : FrameRel C env m σ s.heap)
  (hl : sc.names.lookup (Str.ofString x) = some .cell) (hv : VRel C.aS s.heap v w)
  (h : ∀ s', RelG C σ s' → FrameRel C env (put m x v) σ s'.heap → Step (Own env) σ σ s.heap s'.heap → P () s') : wpAny (model C.prog C.w) A (storeName env (Str.ofString x) w) P E s := by
 have kl := en.of hl
 obtain ⟨c₀, hc₀⟩ := F.has _ (.inl kl)
 obtain ⟨v₀, hv₀⟩ := F.cells _ _ hc₀
 refine wpAny_storeName_cell en.k kl hc₀ hv₀ fun h' hc' hs' => ?_
 obtain ⟨oc, hoc, hdc⟩ := id hv₀
 have kt : TupKeep s.heap h' := fun b o e ht => (hs'.2 b (by rintro rfl; rw [hoc] at e; cases e; obtain ⟨_, _, _, hd⟩ := ht; rw [hdc] at hd; cases hd)).trans e
 have kc : ∀ c v, c ≠ c₀ → s.heap.IsCell c v → h'.IsCell c v := fun c v hne ⟨o, ho, hd⟩ => ⟨o, (hs'.2 c hne).trans ho, hd⟩
 obtain ⟨mm, hn, hm⟩ := F.ns
 have hL : env.locals ≠ c₀ := by
  rintro e
  obtain ⟨oL, _, _, hoL, hdL, _⟩ := hn
  rw [e, hoc] at hoL; cases hoL; rw [hdc] at hdL; cases hdL
 have hσ : σ c₀ = Option.none := by
  cases z : σ c₀ with
  | none => rfl
  | some o' => obtain ⟨ob, h1, _, h3⟩ := (R.view c₀ o' z).shape; rw [hoc] at h1; cases h1; exact absurd hdc (h3 _)
 refine h _ ?_ ?_ ?_
 ·refine ⟨let ⟨_, _, d, e⟩ := R.rest; ⟨h', s.toks, d, by rw [e]⟩, fun b o e => ?_, fun a o e => ?_, R.apart⟩
  ·exact (hs'.2 b (by rintro rfl; rw [F.baseC _ _ hc₀] at e; cases e)).trans (R.base b o e)
  ·exact (R.view a o e).keep kt fun o' e' => (hs'.2 a (by rintro rfl; rw [hσ] at e; cases e)).trans e'
 ·refine ⟨⟨mm, hn.sameBut hs' hL, fun y u e ky => ?_⟩, fun y u e => ?_, fun n c e => ?_, F.sepL, F.baseL, F.baseC, F.dist, F.has⟩
  ·have hy : y ≠ x := by rintro rfl; rw [kl] at ky; cases ky
   rw [put_ne hy] at e
   obtain ⟨w', h1, h2⟩ := hm y u e ky
   exact ⟨w', h1, h2.keep kt⟩
  ·by_cases hy : y = x
   ·subst hy; rw [put_same] at e; cases e; exact .inr ⟨.inl kl, c₀, w, hc₀, hc', hv.keep kt⟩
   ·rw [put_ne hy] at e
    rcases F.cel y u e with z | ⟨z, c, w', h1, h2, h3⟩
    ·exact .inl z
    ·exact .inr ⟨z, c, w', h1, kc _ _ (by rintro rfl; exact hy (ofString_inj (name_of_addr F.dist (mem_of_lookup h1) (mem_of_lookup hc₀)))) h2, h3.keep kt⟩
  ·by_cases hc : c = c₀
   ·subst hc; exact ⟨_, hc'⟩
   ·obtain ⟨v, hv⟩ := F.cells n c e; exact ⟨v, kc _ _ hc hv⟩
 ·exact .of (fun b o e n q => (hs'.2 b fun z => q (.inr ⟨_, z ▸ hc₀⟩)).trans e) (Nat.le_of_eq hs'.1.symm) fun _ a b => absurd a b
noncomputable def Var (sc : Scope) (x : String) : Prop := sc.names.lookup (Str.ofString x) = some .local ∨ sc.names.lookup (Str.ofString x) = some .cell
theorem store {env : Env} {A : Around} {s : Shared} {m : Loc} {σ : View} {x : String} {v : V} {w : Value} {P : Unit → Shared → Prop} {E : Value → Shared → Prop} (en : EnvOk env sc) (R : RelG C σ s) (F : FrameRel C env m σ s.heap)
  (hl : Var sc x) (hv : VRel C.aS s.heap v w)
  (h : ∀ s', RelG C σ s' → FrameRel C env (put m x v) σ s'.heap → Step (Own env) σ σ s.heap s'.heap → P () s') : wpAny (model C.prog C.w) A (storeName env (Str.ofString x) w) P E s :=
 hl.elim (fun z => store_local en R F z hv fun s' R' F' S' => h s' R' F' (S'.mono fun _ _ _ q => .inl q)) fun z => store_cell en R F z hv h
noncomputable def sSet (x : String) (T : ET) : ST := fun m σ Q => T m σ fun v σ' => Q .next (put m x v) σ'
theorem HS1.set {x : String} {p pos : Pos} {value : Expr} {T : ET} (hx : Var sc x) (he : HE C sc k value T) (hs : ∀ env, EnvOk env sc → swapsWith value (some (.Name (Str.ofString x) p)) pos.line env = pure false) : HS1 C sc k (.Assign [.Name (Str.ofString x) p] value pos) (sSet x T) := by
 refine ⟨?_⟩; intro env A s m σ Q P E en ao R F q hP
 refine wpAny_Assign_Name (he.run env A s m σ _ _ E en ao R F q fun v w σ₁ s₁ hv R₁ S₁ q₁ => ?_) (hs env en)
 exact store en R₁ (F.step R S₁) hx hv fun s₂ R₂ F₂ S₂ => hP .next .next _ σ₁ s₂ .next R₂ F₂ ((S₁.own).trans S₂) q₁
noncomputable def sExpr (T : ET) : ST := fun m σ Q => T m σ fun _ σ' => Q .next m σ'
theorem HS1.expr {pos : Pos} {value : Expr} {T : ET} (he : HE C sc k value T) (hs : ∀ env, EnvOk env sc → swapsWith value Option.none pos.line env = pure false) : HS1 C sc k (.Expr value pos) (sExpr T) := by
 refine ⟨?_⟩; intro env A s m σ Q P E en ao R F q hP
 have hi : interactive env = false := by unfold interactive; rw [en.k]; rfl
 rw [exec_Expr env value pos hi (hs env en)]
 refine wpAny_bind (wpAny_standAt (wpAny_bind (he.run env A s m σ _ _ E en ao R F q fun v w σ₁ s₁ hv R₁ S₁ q₁ => ?_)))
 exact wpAny_dropValue (hP .next .next m σ₁ s₁ .next R₁ (F.step R S₁) S₁.own q₁)
noncomputable def sIf (B : BT) (T U : ST) : ST := fun m σ Q => B m σ fun b σ' => if b then T m σ' Q else U m σ' Q
theorem HS1.ite {pos : Pos} {test : Expr} {a b : List Stmt} {B : BT} {T U : ST} (hb : HB C sc k test B) (h1 : HS C sc k a T) (h2 : HS C sc k b U) : HS1 C sc k (.If test a b pos) (sIf B T U) := by
 refine ⟨?_⟩; intro env A s m σ Q P E en ao R F q hP
 refine wpAny_If (hb.run env A s m σ _ _ E en ao R F q fun b σ₁ s₁ R₁ S₁ q₁ => ?_)
 cases b with
 | true => simp only [if_true] at q₁ ⊢; exact h1.run env A s₁ m σ₁ Q P E en ao R₁ (F.step R S₁) q₁ fun f g m₂ σ₂ s₂ hf R₂ F₂ S₂ q₂ => hP f g m₂ σ₂ s₂ hf R₂ F₂ (S₁.own.trans S₂) q₂
 | false => simp only [Bool.false_eq_true, if_false] at q₁ ⊢; exact h2.run env A s₁ m σ₁ Q P E en ao R₁ (F.step R S₁) q₁ fun f g m₂ σ₂ s₂ hf R₂ F₂ S₂ q₂ => hP f g m₂ σ₂ s₂ hf R₂ F₂ (S₁.own.trans S₂) q₂
noncomputable def sRet (T : ET) : ST := fun m σ Q => T m σ fun v σ' => Q (.ret v) m σ'
theorem HS1.ret {pos : Pos} {value : Expr} {T : ET} (he : HE C sc k value T) : HS1 C sc k (.Return (some value) pos) (sRet T) := by
 refine ⟨?_⟩; intro env A s m σ Q P E en ao R F q hP
 exact wpAny_Return_some (he.run env A s m σ _ _ E en ao R F q fun v w σ₁ s₁ hv R₁ S₁ q₁ => hP (.ret v) (.ret w) m σ₁ s₁ (.ret hv) R₁ (F.step R S₁) S₁.own q₁)
end
end Mine
end
noncomputable section
namespace Mine
open PySem
abbrev Spec := List V → View → (V → View → Prop) → Prop
noncomputable def FnSound (C : Cx) (j : Nat) (f : Addr) (spec : Spec) : Prop :=
 ∀ (A : Around) (s : Shared) (σ : View) (vs : List V) (ws : List Value) (Q : V → View → Prop) (P : Value → Shared → Prop) (E : Value → Shared → Prop),
  AOk C A (j + 1) → RelG C σ s → VRels C.aS s.heap vs ws → spec vs σ Q → Aft C σ s Q P → codeAny (model C.prog C.w) A (.call (.ref f) ⟨ws, []⟩) (fun r s' => match r with | .ok (.ret v) => P v s' | .ok _ => False | .error e => E e s') s
noncomputable def none' : Loc := fun _ => Option.none
noncomputable def bindM : List String → List V → Loc → Loc
 | x :: xs, v :: vs, m => bindM xs vs (put m x v)
 | _, _, m => m
theorem cellsFrom_has {x : Str} : ∀ (names : List (Str × NameKind)) (n : Nat) (acc : List (Str × Addr)), (names.lookup x = some .cell ∨ ∃ c, acc.lookup x = some c) → ∃ c, (cellsFrom n names acc).lookup x = some c
 | [], _, _, h => h.elim (fun e => by cases e) id
 | (y, q) :: r, n, acc, h => by
  unfold cellsFrom
  by_cases hq : q = .cell
  ·rw [if_pos (by simp [hq])]
   refine cellsFrom_has r _ _ ?_
   by_cases hy : x = y
   ·exact .inr ⟨n, by simp [hy]⟩
   ·have hb : (x == y) = false := by simp [hy]
    refine h.imp (fun e => ?_) fun ⟨c, e⟩ => ⟨c, ?_⟩
    ·rw [List.lookup_cons, hb] at e; exact e
    ·rw [List.lookup_cons, hb]; exact e
  ·rw [if_neg (by simpa using hq)]
   refine cellsFrom_has r _ _ ?_
   by_cases hy : x = y
   ·refine .inr (h.elim (fun e => ?_) id)
    rw [List.lookup_cons, show (x == y) = true by simp [hy]] at e
    exact absurd (Option.some.inj e) hq
   ·have hb : (x == y) = false := by simp [hy]
    refine h.imp (fun e => ?_) id
    rw [List.lookup_cons, hb] at e; exact e
section
variable {C : Cx}
theorem bound_vars {h : Heap} (kindOf : Str → Option NameKind) : ∀ (xs : List String) (vs : List V) (ws : List Value) (m : Loc) (mL mC : Str → Option Value),
  (∀ x ∈ xs, kindOf (Str.ofString x) = some .local ∨ kindOf (Str.ofString x) = some .cell) → VRels C.aS h vs ws →
  (∀ x v, m x = some v → (kindOf (Str.ofString x) = some .local ∧ ∃ w, mL (Str.ofString x) = some w ∧ VRel C.aS h v w) ∨ (kindOf (Str.ofString x) = some .cell ∧ ∃ w, mC (Str.ofString x) = some w ∧ VRel C.aS h v w)) →
  ∀ x v, bindM xs vs m x = some v → (kindOf (Str.ofString x) = some .local ∧ ∃ w, bindL kindOf ((xs.map Str.ofString).zip ws) mL (Str.ofString x) = some w ∧ VRel C.aS h v w) ∨
   (kindOf (Str.ofString x) = some .cell ∧ ∃ w, bindC kindOf ((xs.map Str.ofString).zip ws) mC (Str.ofString x) = some w ∧ VRel C.aS h v w)
 | [], _, _, _, _, _, _, _, hm => by simpa [bindM, bindL, bindC] using hm
 | x :: xs, [], _, _, _, _, _, .nil, hm => by simpa [bindM, bindL, bindC] using hm
 | x :: xs, v :: vs, w :: ws, m, mL, mC, hk, .cons hv hvs, hm => by
  simp only [bindM, List.map_cons, List.zip_cons_cons, bindL, bindC]
  refine bound_vars kindOf xs vs ws _ _ _ (fun y hy => hk y (.tail _ hy)) hvs fun y u e => ?_
  by_cases hy : y = x
  ·subst hy
   rw [put_same] at e; cases e
   rcases hk y (.head _) with z | z
   ·exact .inl ⟨z, w, by simp [z], hv⟩
   ·exact .inr ⟨z, w, by simp [z], hv⟩
  ·rw [put_ne hy] at e
   have hne : ¬ Str.ofString y = Str.ofString x := fun z => hy (ofString_inj z)
   rcases hm y u e with ⟨z, w', h1, h2⟩ | ⟨z, w', h1, h2⟩
   ·refine .inl ⟨z, w', ?_, h2⟩
    split <;> simp [hne, h1]
   ·refine .inr ⟨z, w', ?_, h2⟩
    split <;> simp [hne, h1]
theorem FnSound.mk (O : C.Ok) {f : Addr} {o : Obj} {fd : FuncData} {body : List Stmt} {xs : List String} {sc : Scope} {j : Nat} {spec : Spec} {T : ST}
  (ho : C.hB.get? f = some o) (hd : o.data = .func fd) (hcd : C.hB.CodeRec fd.code fd.qualname) (hb : fd.body = .stmts body) (hsc : fd.scope = sc) (hcl : fd.closure = []) (hg : fd.globals = mainGlobals) (hbi : fd.builtins = builtinsNs)
  (hk : sc.kind = .function) (hfr : ∀ p ∈ sc.names, p.2 ≠ .free) (hco : sc.isCoroutine = false) (hgen : sc.isGenerator = false)
  (hbind : ∀ ws : List Value, ws.length = xs.length → bindArgs fd ⟨ws, []⟩ = pure ((xs.map Str.ofString).zip ws))
  (hloc : ∀ x ∈ xs, sc.names.lookup (Str.ofString x) = some .local ∨ sc.names.lookup (Str.ofString x) = some .cell)
  (hT : HS C sc j body T)
  (hspec : ∀ vs σ Q, spec vs σ Q → vs.length = xs.length ∧ T (bindM xs vs none') σ fun f _ σ' => match f with | .ret v => Q v σ' | .next => Q .none σ' | _ => False) : FnSound C j f spec := by
 intro A s σ vs ws Q P E ao R hvs hs hP
 subst hsc
 obtain ⟨hlen, q⟩ := hspec vs σ Q hs
 have hlw : ws.length = xs.length := by rw [← hvs.length]; exact hlen
 refine (codeAny_call_cells (fd := fd) (body := body) (binds := (xs.map Str.ofString).zip ws) (by have := ao.depth; omega) (R.base _ _ ho) hd (O.nolimit.keeps R.base) (hcd.keeps R.base) hb (hbind ws hlw) hcl ?_ ?_ hco hgen hk)
 ·intro x hx
  have : x.1 ∈ xs.map Str.ofString := (List.of_mem_zip (a := x.1) (b := x.2) hx).1
  obtain ⟨y, hy, e⟩ := List.mem_map.mp this
  rw [← e]
  refine (hloc y hy).imp id fun z => ⟨z, ?_⟩
  obtain ⟨c, hc⟩ := cellsFrom_has (x := Str.ofString y) fd.scope.names (s.heap.objs.size + 1) [] (.inl z)
  rw [hc]; rfl
 ·intro s₁ x
  generalize henv : callEnvC fd s.heap.objs.size f = env at x ⊢
  have eS : env.scope = fd.scope := by rw [← henv]; rfl
  have eL : env.locals = s.heap.objs.size := by rw [← henv]; rfl
  have eC : env.cells = cellsFrom (s.heap.objs.size + 1) fd.scope.names [] := by rw [← henv]; rfl
  have en : EnvOk env fd.scope := ⟨eS, hk, by rw [← henv]; exact hg, by rw [← henv]; exact hbi⟩
  obtain ⟨h₁, tk₁, e₁⟩ := x.toInCall.same
  have keep := x.toInCall.keep
  have R₁ : RelG C σ s₁ := by
   rw [e₁]
   exact R.grow (fun b o e => by have := keep b o e; rw [e₁] at this; exact this)
  have hz : s.heap.objs.size ≤ s₁.heap.objs.size := Nat.le_of_lt (by have := x.toInCall.ns.lt; rw [eL] at this; exact this)
  have kt : TupKeep s.heap s₁.heap := fun b o e _ => keep b o e
  have vars := bound_vars (C := C) (h := s₁.heap) env.kindOf xs vs ws none' (fun _ => Option.none) (fun _ => Option.none)
   (fun y hy => by unfold Env.kindOf; rw [eS]; exact hloc y hy) (hvs.keep kt) (fun _ _ e => by cases e)
  have lookupC : ∀ n, env.kindOf n = some .cell → ∃ c, env.cells.lookup n = some c := fun n hn => by
   rw [eC]; exact cellsFrom_has _ _ _ (.inl (by unfold Env.kindOf at hn; rw [eS] at hn; exact hn))
  have lookupF : ∀ n, env.kindOf n = some .cell ∨ env.kindOf n = some .free → ∃ c, env.cells.lookup n = some c := fun n hn => hn.elim (lookupC n) fun z => by
   unfold Env.kindOf at z; rw [eS] at z; exact absurd rfl (hfr _ (mem_of_lookup z))
  have fresh : ∀ c, s.heap.objs.size ≤ c → C.hB.get? c = Option.none := fun c hc => R.baseNone (get_none_of_size hc)
  have F₁ : FrameRel C env (bindM xs vs none') σ s₁.heap := by
   refine ⟨⟨_, x.toInCall.ns, fun y v e ky => ?_⟩, fun y v e => ?_, fun n c hc => ?_, R.freshNone (get_none_of_size (Nat.le_of_eq eL.symm)), fresh _ (Nat.le_of_eq eL.symm), fun n c hc => ?_, x.apart, lookupF⟩
   ·rcases vars y v e with ⟨_, w, h1, h2⟩ | ⟨z, _⟩
    ·exact ⟨w, h1, h2⟩
    ·rw [z] at ky; cases ky
   ·rcases vars y v e with ⟨z, _⟩ | ⟨z, w, h1, h2⟩
    ·exact .inl z
    ·obtain ⟨c, hc⟩ := lookupC _ z
     exact .inr ⟨.inl z, c, w, hc, h1 ▸ x.cell _ c hc, h2⟩
   ·exact ⟨_, x.cell n c hc⟩
   ·exact fresh c (Nat.le_of_lt (by have := x.above n c (mem_of_lookup hc); rw [eL] at this; exact this))
  refine hT.run env _ s₁ _ σ _ _ _ en ⟨by show A.handled = _; exact ao.handled, by show A.depth + 1 + 3 * j + 3 < _; have := ao.depth; omega, by show A.units + 3 + 10 * j + 20 < _; have := ao.units; omega⟩ R₁ F₁ q fun fl g m' σ' s' hf R' F' S' q' => ?_
  have S₀ : Step no σ σ' s.heap s'.heap :=
   ⟨fun b o e n _ => S'.keepL b o (keep b o e) n (fun z => by
     have hlt := Heap.lt_size e
     rcases z with z | ⟨n', z⟩
     ·rw [z, eL] at hlt; exact Nat.lt_irrefl _ hlt
     ·have := x.above n' b (mem_of_lookup z); rw [eL] at this; exact Nat.lt_irrefl _ (Nat.lt_trans hlt this)),
    Nat.le_trans hz S'.size, fun b n m => Nat.le_trans hz (S'.new b n m)⟩
  cases hf with
  | next => exact hP .none .none σ' s' .none R' S₀ q'
  | ret hv => exact hP _ _ σ' s' hv R' S₀ q'
  | brk => exact q'.elim
  | cont => exact q'.elim
end
end Mine
end
noncomputable section
namespace Mine
open PySem
section
variable {C : Cx} {sc : Scope} {k : Nat}
noncomputable def plainArgs (es : List Expr) : Bool := es.all notStar
theorem starEach_any {es : List Expr} {env : Env} {pos : Pos} (h : plainArgs es = true) : (backTo pos (starEach es env)).any (·.1) = false := by
 induction es with
 | nil => rfl
 | cons e r ih =>
  simp only [plainArgs, List.all_cons, Bool.and_eq_true] at h
  rw [starEach_plain h.1]
  show ((false, _) :: backTo pos (starEach r env)).any (·.1) = false
  rw [List.any_cons, ih h.2]; rfl
theorem evalArgs_of {f : Value} {es : List Expr} {env : Env} {pos : Pos} {M : Model} {A : Around} {s : Shared} {Q : Args → Shared → Prop} {E : Value → Shared → Prop} (h : plainArgs es = true)
  (hs : wpAny M A (spliced (backTo pos (starEach es env))) (fun vs s' => Q ⟨vs, []⟩ s') E s) : wpAny M A (evalArgs f true (backTo pos (starEach es env)) []) Q E s := by
 cases es with
 | nil =>
  unfold evalArgs
  show wpAny M A (spliced [] >>= _) Q E s
  refine wpAny_bind (wpAny_mono hs (fun vs s' h' => ?_) fun _ _ x => x)
  refine wpAny_holding ?_
  exact wpAny_bind (wpAny_pure (wpAny_bind (wpAny_pure (wpAny_pure h'))))
 | cons e r =>
  simp only [plainArgs, List.all_cons, Bool.and_eq_true] at h
  rw [starEach_plain h.1] at hs ⊢
  exact Calls.evalArgs_plain hs
noncomputable def eCall (spec : Spec) (L : LT) : ET := fun m σ Q => L m σ fun vs σ' => spec vs σ' Q
theorem HE.call (O : C.Ok) {f : String} {a : Addr} {o : Obj} {fd : FuncData} {np pos : Pos} {es : List Expr} {L : LT} {spec : Spec} {j : Nat} (hf : FnSound C j a spec) (hj : j < k)
  (hn : sc.names.lookup (Str.ofString f) = some .globalImplicit) (hg : C.mg (Str.ofString f) = some (.ref a)) (ho : C.hB.get? a = some o) (hd : o.data = .func fd) (hdb : (Str.ofString f == ("__debug__" : Str)) = false)
  (hl : HL C sc k es L) (hp : plainArgs es = true) : HE C sc k (.Call (.Name (Str.ofString f) np) es [] pos) (eCall spec L) := by
 refine ⟨?_⟩; intro env A s m σ Q P E en ao R F q hP
 refine wpAny_Call_NameR (Calls.Name_function_global en.k (en.of hn) (Calls.loadGlobal_global (mg := C.mg) (by rw [en.globals]; exact O.g.keeps R.base) hg ?_) hdb)
 refine Calls.callWith_function (o := o) (fd := fd) (evalArgs_of hp (hl.run env A s m σ pos _ _ E en ao R F q fun vs ws σ₁ s₁ hv R₁ S₁ q₁ => ⟨⟨R₁.base _ _ ho, hd⟩, ?_⟩))
 exact wpAny_call (hf A s₁ σ₁ vs ws Q P E (ao.le hj) R₁ hv q₁ fun v w σ' s' hv' R' S' q' => hP v w σ' s' hv' R' (S₁.trans S') q')
noncomputable def OpN (C : Cx) (k : Nat) (t : List Value → Sem Value) (op : Spec) : Prop :=
 ∀ (A : Around) (s : Shared) (σ : View) (vs : List V) (ws : List Value) (Q : V → View → Prop) (P E : Value → Shared → Prop), AOk C A k → RelG C σ s → VRels C.aS s.heap vs ws → op vs σ Q → Aft C σ s Q P →
  wpAny (model C.prog C.w) A (t ws) P E s
theorem HE.builtin (O : C.Ok) {f : String} {id : String} {np pos : Pos} {es : List Expr} {L : LT} {op : Spec} (hop : OpN C k (fun ws => PySem.call (.builtin id) ws) op)
  (hn : sc.names.lookup (Str.ofString f) = some .globalImplicit) (hg : C.mg (Str.ofString f) = Option.none) (hb : C.mb (Str.ofString f) = some (.builtin id)) (hdb : (Str.ofString f == ("__debug__" : Str)) = false)
  (hl : HL C sc k es L) (hp : plainArgs es = true) : HE C sc k (.Call (.Name (Str.ofString f) np) es [] pos) (eCall op L) := by
 refine ⟨?_⟩; intro env A s m σ Q P E en ao R F q hP
 refine wpAny_Call_NameR (Calls.Name_function_global en.k (en.of hn) (Calls.loadGlobal_builtin (mg := C.mg) (mb := C.mb) (by rw [en.globals]; exact O.g.keeps R.base) hg (by rw [en.builtins]; exact O.b.keeps R.base) hb ?_) hdb)
 refine Calls.callWith_builtin (starEach_any hp) (evalArgs_of hp (hl.run env A s m σ pos _ _ E en ao R F q fun vs ws σ₁ s₁ hv R₁ S₁ q₁ => ?_))
 exact hop A s₁ σ₁ vs ws Q P E ao R₁ hv q₁ fun v w σ' s' hv' R' S' q' => hP v w σ' s' hv' R' (S₁.trans S') q'
theorem HE.btype (O : C.Ok) {f : String} {id : String} {np pos : Pos} {es : List Expr} {L : LT} {op : Spec} (hop : OpN C k (fun ws => PySem.call (.type id) ws) op)
  (hn : sc.names.lookup (Str.ofString f) = some .globalImplicit) (hg : C.mg (Str.ofString f) = Option.none) (hb : C.mb (Str.ofString f) = some (.type id)) (hdb : (Str.ofString f == ("__debug__" : Str)) = false)
  (hl : HL C sc k es L) (hp : plainArgs es = true) : HE C sc k (.Call (.Name (Str.ofString f) np) es [] pos) (eCall op L) := by
 refine ⟨?_⟩; intro env A s m σ Q P E en ao R F q hP
 refine wpAny_Call_NameR (Calls.Name_function_global en.k (en.of hn) (Calls.loadGlobal_builtin (mg := C.mg) (mb := C.mb) (by rw [en.globals]; exact O.g.keeps R.base) hg (by rw [en.builtins]; exact O.b.keeps R.base) hb ?_) hdb)
 refine callWith_type (starEach_any hp) (evalArgs_of hp (hl.run env A s m σ pos _ _ E en ao R F q fun vs ws σ₁ s₁ hv R₁ S₁ q₁ => ?_))
 exact hop A s₁ σ₁ vs ws Q P E ao R₁ hv q₁ fun v w σ' s' hv' R' S' q' => hP v w σ' s' hv' R' (S₁.trans S') q'
structure It (C : Cx) (k : Nat) (I : Addr) (items : List V) (inv : View → Prop) (St : Nat → Heap → Prop) : Prop where
 frame : ∀ i h h', St i h → (∀ o, h.get? I = some o → h'.get? I = some o) → TupKeep h h' → St i h'
 live : ∀ i h, St i h → ∃ o, h.get? I = some o ∧ ¬ IsT o ∧ ∀ v, o.data ≠ .cell v
 flds : ∀ i h, St i h → ∀ o, h.get? I = some o → ∀ es ep, o.data ≠ .dict es ep
 next : ∀ (A : Around) (σ : View) (s : Shared) (i : Nat) (v : V) (Q : Option Value → Shared → Prop) (E : Value → Shared → Prop), AOk C A k → RelG C σ s → inv σ → St i s.heap → items[i]? = some v →
  (∀ w h' tk, VRel C.aS h' v w → St (i + 1) h' → Heap.ExtBut I s.heap h' → Q (some w) { s with heap := h', toks := tk }) → wpAny (model C.prog C.w) A (pyNext (.ref I)) Q E s
 done : ∀ (A : Around) (σ : View) (s : Shared) (Q : Option Value → Shared → Prop) (E : Value → Shared → Prop), AOk C A k → RelG C σ s → inv σ → St items.length s.heap →
  (∀ h' tk, Heap.ExtBut I s.heap h' → Q Option.none { s with heap := h', toks := tk }) → wpAny (model C.prog C.w) A (pyNext (.ref I)) Q E s
 self : ∀ (A : Around) (s : Shared) (i : Nat) (Q : Value → Shared → Prop) (E : Value → Shared → Prop), St i s.heap → Q (.ref I) s → wpAny (model C.prog C.w) A (pyIter (.ref I)) Q E s
 own : ∀ (A : Around) (s : Shared) (i : Nat) (t : Expr) (w : Value) (Q : Unit → Shared → Prop) (E : Value → Shared → Prop), St i s.heap → Q () s → wpAny (model C.prog C.w) A (letOwnedTupleGo t (.ref I) w) Q E s
abbrev IT := Loc → View → (List V → (View → Prop) → View → Prop) → Prop
structure HI (C : Cx) (sc : Scope) (k : Nat) (e : Expr) (T : IT) : Prop where
 run : ∀ (env : Env) (A : Around) (s : Shared) (m : Loc) (σ : View) (Q : List V → (View → Prop) → View → Prop) (P : Value → Shared → Prop) (E : Value → Shared → Prop),
  EnvOk env sc → AOk C A k → RelG C σ s → FrameRel C env m σ s.heap → T m σ Q →
  (∀ items inv I St σ' s', It C k I items inv St → St 0 s'.heap → s.heap.objs.size ≤ I → σ' I = Option.none → RelG C σ' s' → Step no σ σ' s.heap s'.heap → Q items inv σ' → P (.ref I) s') →
  wpAny (model C.prog C.w) A (eval e env) (fun x s₁ => wpAny (model C.prog C.w) A (pyIter x) P E s₁) E s
theorem draw_rel {σ : View} {s : Shared} {h' : Heap} {tk : Nat} {I : Addr} (R : RelG C σ s) (hx : Heap.ExtBut I s.heap h') (hσ : σ I = Option.none) (hb : C.hB.get? I = Option.none) (hI : ∃ o, s.heap.get? I = some o ∧ ¬ IsT o ∧ ∀ v, o.data ≠ .cell v) :
  RelG C σ { s with heap := h', toks := tk } := by
 obtain ⟨oI, hoI, hT, _⟩ := hI
 have kt : TupKeep s.heap h' := fun b o e ht => hx b o (by rintro rfl; rw [hoI] at e; cases e; exact hT ht) e
 exact ⟨let ⟨_, _, d, e⟩ := R.rest; ⟨h', tk, d, by rw [e]⟩, fun b o e => hx b o (by rintro rfl; rw [hb] at e; cases e) (R.base b o e),
  fun a o e => (R.view a o e).keep kt fun o' e' => hx a o' (by rintro rfl; rw [hσ] at e; cases e) e', R.apart⟩
theorem draw_frame {env : Env} {m : Loc} {σ : View} {s : Shared} {h' : Heap} {I : Addr} (F : FrameRel C env m σ s.heap) (hx : Heap.ExtBut I s.heap h') (hI : ∃ o, s.heap.get? I = some o ∧ ¬ IsT o ∧ ∀ v, o.data ≠ .cell v) (hL : I ≠ env.locals) : FrameRel C env m σ h' := by
 obtain ⟨oI, hoI, hT, hC⟩ := hI
 have kt : TupKeep s.heap h' := fun b o e ht => hx b o (by rintro rfl; rw [hoI] at e; cases e; exact hT ht) e
 have kc : ∀ c v, s.heap.IsCell c v → h'.IsCell c v := fun c v ⟨o, ho, hd⟩ => ⟨o, hx c o (by rintro rfl; rw [hoI] at ho; cases ho; exact hC _ hd) ho, hd⟩
 obtain ⟨mm, hn, hm⟩ := F.ns
 refine ⟨⟨mm, hn.extBut hx (Ne.symm hL), fun y u e ky => ?_⟩, fun y u e => ?_, fun n c e => ?_, F.sepL, F.baseL, F.baseC, F.dist, F.has⟩
 ·obtain ⟨w, h1, h2⟩ := hm y u e ky; exact ⟨w, h1, h2.keep kt⟩
 ·rcases F.cel y u e with z | ⟨z, c, w', h1, h2, h3⟩
  ·exact .inl z
  ·exact .inr ⟨z, c, w', h1, kc _ _ h2, h3.keep kt⟩
 ·obtain ⟨v, hv⟩ := F.cells n c e; exact ⟨v, kc _ _ hv⟩
inductive Tgt where
 | name (x : String)
 | tup (xs : List String)
noncomputable def bindT : Tgt → V → Loc → Option Loc
 | .name x, v, m => some (put m x v)
 | .tup xs, .tup vs, m => if xs.length = vs.length then some (bindM xs vs m) else Option.none
 | .tup _, _, _ => Option.none
noncomputable def OwnL (loc : Bool) (env : Env) (b : Addr) : Prop := b = env.locals ∨ (loc = false ∧ ∃ n, env.cells.lookup n = some b)
structure HT (C : Cx) (sc : Scope) (k : Nat) (loc : Bool) (t : Expr) (g : Tgt) : Prop where
 run : ∀ (env : Env) (A : Around) (s : Shared) (m m' : Loc) (σ : View) (v : V) (w : Value) (P : Unit → Shared → Prop) (E : Value → Shared → Prop),
  EnvOk env sc → AOk C A k → RelG C σ s → FrameRel C env m σ s.heap → VRel C.aS s.heap v w → bindT g v m = some m' →
  (∀ s', RelG C σ s' → FrameRel C env m' σ s'.heap → Step (OwnL loc env) σ σ s.heap s'.heap → P () s') → wpAny (model C.prog C.w) A (assign t env w) P E s
theorem HT.name {x : String} {pos : Pos} (hx : sc.names.lookup (Str.ofString x) = some .local) : HT C sc k true (.Name (Str.ofString x) pos) (.name x) := by
 refine ⟨?_⟩; intro env A s m m' σ v w P E en ao R F hv hb hP
 cases hb
 exact wpAny_assign_Name (store_local en R F hx hv fun s' R' F' S' => hP s' R' F' (S'.mono fun _ _ _ z => .inl z))
noncomputable def forL (g : Tgt) (inv : View → Prop) (T : ST) : List V → ST
 | [] => fun m σ Q => inv σ ∧ Q .next m σ
 | v :: r => fun m σ Q => inv σ ∧ ∃ m', bindT g v m = some m' ∧ T m' σ fun f m₁ σ₁ => match f with
  | .next => forL g inv T r m₁ σ₁ Q
  | .cont => forL g inv T r m₁ σ₁ Q
  | .brk => Q .next m₁ σ₁
  | .ret u => Q (.ret u) m₁ σ₁
noncomputable def sFor (g : Tgt) (I : IT) (T : ST) : ST := fun m σ Q => I m σ fun items inv σ' => forL g inv T items m σ' Q
inductive ForInv (C : Cx) (env : Env) (σ : View) (h : Heap) (I : Addr) (items : List V) (St : Nat → Heap → Prop) (L : List V → Loc → View → Prop) (n : Nat) (s' : Shared) : Prop
 | mk (i : Nat) (m' : Loc) (σ' : View) (rest : List V) (e1 : items.drop i = rest) (e2 : i ≤ items.length) (e3 : n = rest.length + 1) (st : St i s'.heap) (hσ : σ' I = Option.none) (R : RelG C σ' s') (F : FrameRel C env m' σ' s'.heap)
   (S : Step (fun b => Own env b ∨ b = I) σ σ' h s'.heap) (q : L rest m' σ') : ForInv C env σ h I items St L n s'
theorem HS1.for {target iter : Expr} {body : List Stmt} {pos : Pos} {g : Tgt} {I : IT} {T : ST} {loc : Bool} (ht : HT C sc k loc target g) (hi : HI C sc k iter I) (hb : HS C sc k body T)
  (hf : ∀ env x, foldedSetIterable iter env x = pure x) : HS1 C sc k (.For target iter body [] pos) (sFor g I T) := by
 refine ⟨?_⟩; intro env A s m σ Q P E en ao R F q hP
 rw [exec_For]
 refine wpAny_bind (wpAny_standAt ?_)
 have start : wpAny (model C.prog C.w) A (eval iter env) (fun x s₁ => wpAny (model C.prog C.w) A (pyIter x) (fun it s₂ => codeAny (model C.prog C.w) A (.forLoop target it body [] env) (fun r s' => match r with | .ok f => P f s' | .error e => cameBackBy (model C.prog C.w) A env E e s') s₂) E s₁) E s := by
  refine hi.run env A s m σ _ _ E en ao R F q fun items inv I St σ₀ s₀ hit st₀ hI hσ₀ R₀ S₀ q₀ => ?_
  have F₀ := F.step R S₀
  obtain ⟨mm, hn, _⟩ := F.ns
  have hIL : I ≠ env.locals := fun e => absurd hn.lt (Nat.not_lt.mpr (e ▸ hI))
  have hIb : C.hB.get? I = Option.none := R.baseNone (get_none_of_size hI)
  have back : ∀ {σ' : View} {h' : Heap}, Step (fun b => Own env b ∨ b = I) σ σ' s.heap h' → Step (Own env) σ σ' s.heap h' := fun S =>
   S.mono fun b o e z => z.elim id fun z => absurd (Heap.lt_size e) (Nat.not_lt.mpr (z ▸ hI))
  refine codeAny_forLoop_any
   (ForInv C env σ s.heap I items St fun rest m' σ' => forL g inv T rest m' σ' Q) ?_ _
   ⟨0, m, σ₀, items, by simp, by simp, rfl, st₀, hσ₀, R₀, F₀, S₀.mono fun _ _ _ z => z.elim, q₀⟩
  rintro n s' ⟨i, m', σ', rest, e1, e2, rfl, st, hσ', R', F', S', q'⟩
  have drew : ∀ {h' : Heap}, Heap.ExtBut I s'.heap h' → s'.heap.objs.size ≤ h'.objs.size → Step (fun b => Own env b ∨ b = I) σ' σ' s'.heap h' := fun hx hsz =>
   .of (fun b o e _ q => hx b o (fun z => q (.inr z)) e) hsz fun _ a b => absurd a b
  cases rest with
  | nil =>
   have hil : i = items.length := by
    have := congrArg List.length e1
    simp at this; omega
   subst hil
   refine with_size (hit.done A σ' s' _ _ ao R' q'.1 st fun h' tk hx hsz => ?_)
   exact wpAny_execs_nil (hP .next .next m' σ' _ .next (draw_rel (tk := tk) R' hx hσ' hIb (hit.live _ _ st)) (draw_frame F' hx (hit.live _ _ st) hIL) (back (S'.trans (drew hx hsz))) q'.2)
  | cons v r =>
   obtain ⟨hinv, m₁, hm₁, q'⟩ := q'
   have hiv : items[i]? = some v := by
    have : (items.drop i)[0]? = some v := by rw [e1]; rfl
    simpa using this
   have hilt : i < items.length := by
    have := congrArg List.length e1
    simp at this; omega
   refine with_size (hit.next A σ' s' i v _ _ ao R' hinv st hiv fun w h₁ tk₁ hv st₁ hx hsz => ?_)
   have R₁ := draw_rel (tk := tk₁) R' hx hσ' hIb (hit.live _ _ st)
   have F₁ := draw_frame F' hx (hit.live _ _ st) hIL
   have S₁ := S'.trans (drew hx hsz)
   refine hit.own A _ (i + 1) target w _ _ st₁ ?_
   refine ht.run env A _ m' m₁ σ' v w _ _ en ao R₁ F₁ hv hm₁ fun s₂ R₂ F₂ S₂L => ?_
   have S₂ : Step (Own env) σ' σ' h₁ s₂.heap := S₂L.mono fun _ _ _ z => z.imp id fun z => z.2
   have S₂' : Step (fun b => Own env b ∨ b = I) σ' σ' h₁ s₂.heap := S₂.mono fun _ _ _ z => .inl z
   have st₂ : St (i + 1) s₂.heap := hit.frame _ _ _ st₁ (fun o e => S₂.keep I o e hσ' (fun z => by
    rcases z with z | ⟨n, z⟩
    ·exact hIL z
    ·obtain ⟨u, ou, hou, hdu⟩ := F₁.cells n I z
     obtain ⟨o', ho', _, hc'⟩ := hit.live _ _ st₁
     have : ou = o' := Option.some.inj (hou.symm.trans ho')
     exact hc' u (this ▸ hdu)) (hit.flds _ _ st₁ o e)) (S₂.tupsO F₁ R₁)
   refine hb.run env A s₂ m₁ σ' _ _ _ en ao R₂ F₂ q' fun f fl m₃ σ₃ s₃ hf R₃ F₃ S₃ q₃ => ?_
   have S₃' : Step (fun b => Own env b ∨ b = I) σ' σ₃ s₂.heap s₃.heap := S₃.mono fun _ _ _ z => .inl z
   have SS := (S₁.trans S₂').trans S₃'
   have go : forL g inv T r m₃ σ₃ Q → ∃ k', k' < (v :: r).length + 1 ∧ ForInv C env σ s.heap I items St (fun rest m' σ' => forL g inv T rest m' σ' Q) k' s₃ := fun q₃ => by
    refine ⟨r.length + 1, Nat.lt_succ_self _, i + 1, m₃, σ₃, r, ?_, hilt, rfl, ?_, ?_, R₃, F₃, SS, q₃⟩
    ·rw [← List.tail_drop, e1]; rfl
    ·refine hit.frame _ _ _ st₂ (fun o e => S₃.keep I o e hσ' (fun z => ?_) (hit.flds _ _ st₂ o e)) (S₃.tupsO F₂ R₂)
     rcases z with z | ⟨n, z⟩
     ·exact hIL z
     ·obtain ⟨u, ou, hou, hdu⟩ := F₂.cells n I z
      obtain ⟨o', ho', _, hc'⟩ := hit.live _ _ st₂
      have : ou = o' := Option.some.inj (hou.symm.trans ho')
      exact hc' u (this ▸ hdu)
    ·cases z : σ₃ I with
     | none => rfl
     | some o =>
      obtain ⟨o', ho', _⟩ := hit.live _ _ st₂
      exact absurd (Heap.lt_size ho') (Nat.not_lt.mpr (S₃.new I hσ' (by rw [z]; simp)))
   cases hf with
   | next => exact go q₃
   | cont => exact go q₃
   | brk => exact hP .next .next m₃ σ₃ s₃ .next R₃ F₃ (back SS) q₃
   | ret hv => exact hP _ _ m₃ σ₃ s₃ (.ret hv) R₃ F₃ (back SS) q₃
 refine wpAny_bind (wpAny_mono start (fun x s₁ h₁ => wpAny_bind (wpAny_of_eq (hf env x) (wpAny_bind (wpAny_standAt (wpAny_bind (wpAny_holding (wpAny_mono h₁ (fun it s₂ h₂ => wpAny_runOwn h₂) fun _ _ h' => h'))))))) fun _ _ h' => h')
end
end Mine
end
noncomputable section
namespace Mine
open PySem
noncomputable def Hd (A : Around) (h : Heap) : Prop := A.handled = none ∨ ∃ e o vs, A.handled = some (.ref e) ∧ h.get? e = some o ∧ o.data = .fields vs ∧ vs[2]? = some .none
section
variable {prog : Program} {w : World} {A : Around} {E : Value → Shared → Prop} {s : Shared}
theorem entry_unchain : entryFor table "proto.unchain" = some Builtin.«proto.unchain» := entryFor_of_fast (by kernel_rfl)
theorem plain_unchain : plainId "proto.unchain" = true := by decide +kernel
theorem unchain_end {e : Addr} {x : Value} {o : Obj} {vs : Array Value} {Q : Value → Shared → Prop} (ho : s.heap.get? e = some o) (hd : o.data = .fields vs) (h2 : vs[2]? = some .none) (h : Q .none s) :
  wpAny (model prog w) A (runValue (.builtin "proto.unchain" ⟨[x, .ref e, .ref e, .bool false], []⟩)) Q E s := by
 refine wpAny_runValue (codeAny_builtin entry_unchain ?_)
 rw [Around.under_plainId plain_unchain _]
 unfold Builtin.«proto.unchain»
 dsimp only
 refine wpAny_bind (wpAny_field ho hd h2 ?_)
 rw [if_pos (by decide)]
 exact wpAny_pure h
theorem stopH {Q : Option Value → Shared → Prop} {P : Fin → Shared → Prop} (hh : Hd A s.heap) (h : ∀ h', (∀ b o, s.heap.get? b = some o → h'.get? b = some o) → Q none { s with heap := h' }) :
  wpAny (model prog w) A.in1 (do
    let e ← newExc (Value.type "StopIteration") []
    raiseNew e) P (fun e s' => wpAny (model prog w) A (do
     let b ← isInstance e (Value.type "StopIteration")
     if b = true then pure none else throw e) Q E s') s := by
 refine wpAny_bind ?_
 simp only [newExc, newTuple]
 refine wpAny_bind (wpAny_newObj_type ?_ (by size_fits))
 refine wpAny_bind (m := firstArgMember _ _) (wpAny_of_eq (a := Value.none) (by first | rfl | (simp only [firstArgMember]; rfl)) ?_)
 refine wpAny_newObj_type ?_ (by size_fits)
 simp only [raiseNew]
 refine wpAny_bind (wpAny_handled ?_)
 rcases hh with hh | ⟨e, o, vs, hh, ho, hd, h2⟩
 ·rw [show A.in1.handled = none from hh]
  refine wpAny_bind (wpAny_pure (wpAny_throw ?_))
  refine wpAny_bind (wpAny_isInstance (T := "StopIteration") (b := true) ⟨_, Heap.get?_push_size _ rfl, rfl⟩ isSubtype_stop ?_)
  exact wpAny_pure (h _ fun b o e => Heap.get?_push_of_some _ (Heap.get?_push_of_some _ e))
 ·rw [show A.in1.handled = some (.ref e) from hh]
  dsimp only
  have hlt := Heap.lt_size ho
  have hne : e ≠ s.heap.objs.size + 1 := Nat.ne_of_lt (Nat.lt_succ_of_lt hlt)
  rw [Heap.size_push]
  rw [if_pos (by simp [hne])]
  have ho2 := Heap.get?_push_of_some (h := s.heap.push { cls := .type "tuple", dict := none, data := .seq ([] : List Value).toArray }) { cls := .type "StopIteration", dict := none, data := .fields (#[.ref s.heap.objs.size, .none, .none, .none, .bool false, .none] ++ ownMembersOf (.type "StopIteration") []) } (Heap.get?_push_of_some _ ho)
  refine wpAny_bind (wpAny_holding (unchain_end ho2 hd h2 ?_))
  have hn := Heap.get?_push_size (s.heap.push { cls := .type "tuple", dict := none, data := .seq ([] : List Value).toArray }) (o := { cls := .type "StopIteration", dict := none, data := .fields (#[.ref s.heap.objs.size, .none, .none, .none, .bool false, .none] ++ ownMembersOf (.type "StopIteration") []) }) rfl
  rw [Heap.size_push] at hn
  refine wpAny_bind (show wpAny _ _ (setField (.ref (s.heap.objs.size + 1)) 2 (.ref e)) _ _ _ from wpAny_setField hn rfl (by rw [Array.size_append]; show 2 < 6 + _; exact Nat.le_add_left _ _) (wpAny_throw ?_))
  have hd3 := Obj.data_mapFields (o := { cls := .type "StopIteration", dict := none, data := .fields (#[.ref s.heap.objs.size, .none, .none, .none, .bool false, .none] ++ ownMembersOf (.type "StopIteration") []) }) rfl (·.setIfInBounds 2 (Value.ref e))
  have hn3 := Heap.get?_update_self (Obj.mapFields (·.setIfInBounds 2 (Value.ref e))) hn (Obj.isFreed_of_fields hd3)
  refine wpAny_bind (wpAny_isInstance (T := "StopIteration") (b := true) ⟨_, hn3, Obj.cls_mapFields _ _⟩ isSubtype_stop ?_)
  refine wpAny_pure (h _ fun b o e => ?_)
  rw [Heap.get?_update_other _ _ (Ne.symm (Nat.ne_of_lt (Nat.lt_succ_of_lt (Heap.lt_size e))))]
  exact Heap.get?_push_of_some _ (Heap.get?_push_of_some _ e)
theorem list_endH {it l : Addr} {i : Nat} {items : Array Value} {Q : Option Value → Shared → Prop} (hh : Hd A s.heap)
  (hit : s.heap.IsListIter it l i) (hl : s.heap.IsList l items) (hx : items[i]? = none) (hie : ∀ e, A.handled = some (.ref e) → e ≠ it)
  (hQ : ∀ h', Heap.ExtBut it s.heap h' → Q none { s with heap := h' }) : wpAny (model prog w) A (pyNext (.ref it)) Q E s := by
 obtain ⟨o, ho, hc, hd⟩ := id hit
 obtain ⟨ol, hol, _, nl, hdl⟩ := hl
 unfold pyNext
 refine wpAny_bind (wpAny_attempt (wpAny_callSpecial?_slot (name := Str.ofString "__next__") hit.typeIs slot_listiter_next
  (wpAny_call_entry slot_listiter_next hit.typeIs entry_listiter_next ?_ (args_listiter_next _))))
 show wpAny _ _ (field (.ref it) 0 >>= _) _ _ s
 refine wpAny_bind (wpAny_field ho hd (x := .ref l) rfl ?_)
 show wpAny _ _ (if (Value.ref l == Value.none) = true then _ else _) _ _ s
 rw [if_neg (show ¬ ((Value.ref l == Value.none) = true) from Bool.false_ne_true)]
 show wpAny _ _ (field (.ref it) 1 >>= _) _ _ s
 refine wpAny_bind (wpAny_field ho hd (x := .int i 0) rfl ?_)
 show wpAny _ _ (seqItems? (.ref l) >>= _) _ _ s
 refine wpAny_bind (wpAny_seqItems hol hdl ?_)
 simp only [Int.toNat_natCast, hx]
 refine wpAny_bind (wpAny_rule (wpAny_bind (wpAny_setField ho hd (by simp) ?_)))
 refine stopH ?_ fun h' hk => hQ h' fun b o' hb e => hk b o' ((Heap.SameBut.update s.heap it _).extBut b o' hb e)
 rcases hh with hh | ⟨e, o', vs, hh, ho', hd', h2⟩
 ·exact .inl hh
 ·exact .inr ⟨e, o', vs, hh, (Heap.get?_update_other _ _ (Ne.symm (hie e hh))).trans ho', hd', h2⟩
theorem tuple_endH {it t : Addr} {i : Nat} {items : Array Value} {Q : Option Value → Shared → Prop} (hh : Hd A s.heap)
  (hit : s.heap.IsTupleIter it t i) (ht : s.heap.IsTuple t items) (hx : items[i]? = none) (hie : ∀ e, A.handled = some (.ref e) → e ≠ it)
  (hQ : ∀ h', Heap.ExtBut it s.heap h' → Q none { s with heap := h' }) : wpAny (model prog w) A (pyNext (.ref it)) Q E s := by
 obtain ⟨o, ho, hc, hd⟩ := id hit
 obtain ⟨ol, hol, _, nl, hdl⟩ := ht
 unfold pyNext
 refine wpAny_bind (wpAny_attempt (wpAny_callSpecial?_slot (name := Str.ofString "__next__") hit.typeIs F.slot_tuple_iterator_next
  (wpAny_call_entry F.slot_tuple_iterator_next hit.typeIs F.entry_tuple_iterator_next ?_ (F.args_tuple_iterator_next_1 _))))
 show wpAny _ _ (field (.ref it) 0 >>= _) _ _ s
 refine wpAny_bind (wpAny_field ho hd (x := .ref t) rfl ?_)
 show wpAny _ _ (if (Value.ref t == Value.none) = true then _ else _) _ _ s
 rw [if_neg (show ¬ ((Value.ref t == Value.none) = true) from Bool.false_ne_true)]
 show wpAny _ _ (field (.ref it) 1 >>= _) _ _ s
 refine wpAny_bind (wpAny_field ho hd (x := .int i 0) rfl ?_)
 show wpAny _ _ (seqItems? (.ref t) >>= _) _ _ s
 refine wpAny_bind (wpAny_seqItems hol hdl ?_)
 simp only [Int.toNat_natCast, hx]
 refine wpAny_bind (wpAny_rule (wpAny_bind (wpAny_setField ho hd (by simp) ?_)))
 refine stopH ?_ fun h' hk => hQ h' fun b o' hb e => hk b o' ((Heap.SameBut.update s.heap it _).extBut b o' hb e)
 rcases hh with hh | ⟨e, o', vs, hh, ho', hd', h2⟩
 ·exact .inl hh
 ·exact .inr ⟨e, o', vs, hh, (Heap.get?_update_other _ _ (Ne.symm (hie e hh))).trans ho', hd', h2⟩
theorem assignH {env : Env} {elts : List Expr} {x1 : Nat} {pos : Pos} {t : Addr} {items : Array Value} {Q : Unit → Shared → Prop} (hh : Hd A s.heap) (ht : s.heap.IsTuple t items)
  (hn : (assignEach elts env).length = items.size) (hstar : (assignEach elts env).findIdx? (·.1) = none)
  (h : ∀ h', Heap.ExtBut s.heap.objs.size s.heap h' → wpAny (model prog w) A (assignInOrder ((assignEach elts env).map (·.2)) items.toList) Q E { s with heap := h' }) :
  wpAny (model prog w) A (assign (.Tuple elts x1 pos) env (.ref t)) Q E s := by
 rw [arm_assign_Tuple]
 refine wpAny_bind (wpAny_standAt ?_)
 unfold unpack
 rw [hn, hstar]
 refine wpAny_bind (wpAny_holding ?_)
 have hlt : t ≠ s.heap.objs.size := by obtain ⟨o, ho, _⟩ := ht; exact Nat.ne_of_lt (Heap.lt_size ho)
 unfold unpackItems
 refine wpAny_bind ?_
 unfold notIterableAtAll
 refine wpAny_bind (wpAny_specialOf ht.typeIs F.slot_tuple_iter.lookup ?_)
 refine wpAny_pure ?_
 simp only [Bool.false_eq_true, if_false]
 refine wpAny_bind (wpAny_holding (wpAny_pyIter_tuple ht ?_))
 refine wpAny_bind (wpAny_holding (wpAny_draw_tuple hlt items.size 0 _ _ ⟨_, Heap.get?_push_size _ rfl, rfl, rfl⟩ (ht.push _) (by exact Nat.le_of_not_lt fun hg => lin [(items.size)] [(1, (.a (.v 0) (.n 1)), (.a (.n 0) (.v 0)))] rfl hg) fun h₁ hit₁ hs₁ => ?_))
 have hall : List.take items.size (List.drop 0 items.toList) = items.toList := by
  rw [List.drop_zero]; exact List.take_of_length_le (by simp)
 rw [hall]
 rw [if_neg (by simp)]
 have ht₁ : h₁.IsTuple t items := (ht.push _).extBut hs₁.extBut hlt
 have hd₁ : Hd A h₁ := by
  rcases hh with hh | ⟨e, o', vs, hh, ho', hd', h2⟩
  ·exact .inl hh
  ·exact .inr ⟨e, o', vs, hh, hs₁.extBut e o' (Nat.ne_of_lt (Heap.lt_size ho')) (Heap.get?_push_of_some _ ho'), hd', h2⟩
 refine wpAny_bind (wpAny_holding (tuple_endH hd₁ hit₁ ht₁ (by simp) (fun e he => ?_) fun h₂ he₂ => ?_))
 ·rcases hh with hh | ⟨e', o', vs, hh, ho', hd', h2⟩
  ·rw [hh] at he; cases he
  ·rw [hh] at he; cases he; exact Nat.ne_of_lt (Heap.lt_size ho')
 simp only [Option.isSome_none, Bool.false_eq_true, if_false]
 exact wpAny_pure (h h₂ fun b o hb e => he₂ b o hb (hs₁.extBut b o hb (Heap.get?_push_of_some _ e)))
end
end Mine
end
noncomputable section
namespace Mine
open PySem
section
variable {C : Cx} {sc : Scope} {k : Nat}
theorem own_plain {I : Addr} {o : Obj} {n : String} {A : Around} {s : Shared} {t : Expr} {w : Value} {Q : Unit → Shared → Prop} {E : Value → Shared → Prop} (ho : s.heap.get? I = some o) (hc : o.cls = .type n)
  (hn : ["enumerate", "zip", "dict_itemiterator", "dict_reverseitemiterator", "odict_iterator", "itertools.zip_longest", "itertools.pairwise"].contains n = false) (q : Q () s) : wpAny (model C.prog C.w) A (letOwnedTupleGo t (.ref I) w) Q E s := by
 have fin : ∀ vs a, wpAny (model C.prog C.w) A (if (["enumerate", "zip", "dict_itemiterator", "dict_reverseitemiterator", "odict_iterator", "itertools.zip_longest", "itertools.pairwise"].contains n && (vs : Array Value)[0]? == some (rawInt a)) = true then (do rule "for.unpacks-the-owned-tuple"; updateField I 0 .none) else pure ()) Q E s := fun vs a => by
  rw [hn, Bool.false_and, if_neg Bool.false_ne_true]; exact wpAny_pure q
 unfold letOwnedTupleGo
 split
 ·cases w <;> first | exact wpAny_pure q | skip
  refine wpAny_bind (wpAny_load ho ?_)
  rw [hc]
  cases hd : o.data <;> first | exact wpAny_pure q | exact fin _ _
 ·cases w <;> first | exact wpAny_pure q | skip
  refine wpAny_bind (wpAny_load ho ?_)
  rw [hc]
  cases hd : o.data <;> first | exact wpAny_pure q | exact fin _ _
 ·exact wpAny_pure q
theorem AOk.hd {A : Around} {σ : View} {s : Shared} (ao : AOk C A k) (O : C.Ok) (R : RelG C σ s) : Hd A s.heap := by
 cases z : C.held with
 | none => exact .inl (ao.none z)
 | some e =>
  obtain ⟨o, vs, h1, h2, h3⟩ := O.heldOk e z
  exact .inr ⟨e, o, vs, by rw [ao.handled, z]; rfl, R.base _ _ h1, h2, h3⟩
theorem AOk.ne {A : Around} {σ : View} {s : Shared} {I : Addr} {oI : Obj} {a b : Value} (ao : AOk C A k) (O : C.Ok) (R : RelG C σ s) (hI : s.heap.get? I = some oI) (hd : oI.data = .fields #[a, b]) : ∀ e, A.handled = some (.ref e) → e ≠ I := by
 rintro e he rfl
 rw [ao.handled] at he
 cases z : C.held with
 | none => rw [z] at he; cases he
 | some e' =>
  rw [z] at he; cases he
  obtain ⟨o, vs, h1, h2, h3⟩ := O.heldOk _ z
  have := R.base _ _ h1
  rw [hI] at this; cases this
  rw [hd] at h2; cases h2; cases h3
theorem it_list (O : C.Ok) (I a : Addr) (xs : List V) : It C k I xs (fun σ => σ a = some (.list xs)) (fun i h => h.IsListIter I a i) where
 frame := fun i h h' st kI _ => st.at kI
 live := fun i h ⟨o, ho, hc, hd⟩ => ⟨o, ho, (fun ⟨_, _, _, h2⟩ => by rw [hd] at h2; cases h2), (fun v h2 => by rw [hd] at h2; cases h2)⟩
 flds := fun i h ⟨o, ho, hc, hd⟩ o' ho' es ep z => by rw [ho] at ho'; cases ho'; rw [hd] at z; cases z
 next := fun A σ s i v Q E ao R inv st hv hQ => by
  obtain ⟨_, ws, h1, h2⟩ := R.view a _ inv
  obtain ⟨w, hw, hr⟩ := h2.get hv
  refine wpAny_pyNext_list_item st h1.isList (x := w) (by simpa using hw) fun h' st' hs' => hQ w h' s.toks (hr.keep ?_) st' hs'.extBut
  obtain ⟨o, ho, hc, hd⟩ := st
  exact fun b ob e ht => hs'.extBut b ob (by rintro rfl; rw [ho] at e; cases e; obtain ⟨_, _, _, h2⟩ := ht; rw [hd] at h2; cases h2) e
 done := fun A σ s Q E ao R inv st hQ => by
  obtain ⟨_, ws, h1, h2⟩ := R.view a _ inv
  obtain ⟨oI, hoI, _, hdI⟩ := id st
  exact list_endH (ao.hd O R) st h1.isList (by have := h2.length; simp [this]) (ao.ne O R hoI hdI) fun h' hx => hQ h' s.toks hx
 self := fun A s i Q E st q => wpAny_pyIter_listiter st q
 own := fun A s i t w Q E ⟨o, ho, hc, hd⟩ q => own_plain ho hc (by decide) q
theorem it_script (O : C.Ok) (I : Addr) : It C k I (C.ns.map .int) (fun _ => True) (fun i h => h.IsListIter I C.aS i) where
 frame := fun i h h' st kI _ => st.at kI
 live := fun i h ⟨o, ho, hc, hd⟩ => ⟨o, ho, (fun ⟨_, _, _, h2⟩ => by rw [hd] at h2; cases h2), (fun v h2 => by rw [hd] at h2; cases h2)⟩
 flds := fun i h ⟨o, ho, hc, hd⟩ o' ho' es ep z => by rw [ho] at ho'; cases ho'; rw [hd] at z; cases z
 next := fun A σ s i v Q E ao R inv st hv hQ => by
  obtain ⟨ws, h1, h2, h3⟩ := O.script
  rw [List.getElem?_map] at hv
  obtain ⟨n, hn, rfl⟩ := Option.map_eq_some_iff.mp hv
  obtain ⟨t, ht⟩ := h3 i n hn
  refine wpAny_pyNext_list_item st (h1.at fun o e => R.base _ _ e) (x := .int n t) (by simpa using ht) fun h' st' hs' => hQ _ h' s.toks (.int n t) st' hs'.extBut
 done := fun A σ s Q E ao R inv st hQ => by
  obtain ⟨ws, h1, h2, h3⟩ := O.script
  obtain ⟨oI, hoI, _, hdI⟩ := id st
  exact list_endH (ao.hd O R) st (h1.at fun o e => R.base _ _ e) (by simp at h2; simp [h2]) (ao.ne O R hoI hdI) fun h' hx => hQ h' s.toks hx
 self := fun A s i Q E st q => wpAny_pyIter_listiter st q
 own := fun A s i t w Q E ⟨o, ho, hc, hd⟩ q => own_plain ho hc (by decide) q
theorem it_tup (O : C.Ok) (I a : Addr) (vs : List V) (ws : List Value) : It C k I vs (fun _ => True) (fun i h => h.IsTupleIter I a i ∧ h.IsTuple a ws.toArray ∧ VRels C.aS h vs ws) where
 frame := fun i h h' st kI kt => ⟨st.1.at kI, let ⟨o, ho, hc, n, r⟩ := st.2.1; ⟨o, kt a o ho ⟨hc, _, n, r⟩, hc, n, r⟩, st.2.2.keep kt⟩
 live := fun i h ⟨⟨o, ho, hc, hd⟩, _⟩ => ⟨o, ho, (fun ⟨_, _, _, h2⟩ => by rw [hd] at h2; cases h2), (fun v h2 => by rw [hd] at h2; cases h2)⟩
 flds := fun i h ⟨⟨o, ho, hc, hd⟩, _⟩ o' ho' es ep z => by rw [ho] at ho'; cases ho'; rw [hd] at z; cases z
 next := fun A σ s i v Q E ao R inv st hv hQ => by
  obtain ⟨w, hw, hr⟩ := st.2.2.get hv
  obtain ⟨o, ho, hc, hd⟩ := id st.1
  have kt : ∀ h', Heap.SameBut I s.heap h' → TupKeep s.heap h' := fun h' hs' b ob e ht => hs'.extBut b ob (by rintro rfl; rw [ho] at e; cases e; obtain ⟨_, _, _, h2⟩ := ht; rw [hd] at h2; cases h2) e
  refine wpAny_pyNext_tuple_item st.1 st.2.1 (x := w) (by simpa using hw) fun h' st' hs' => hQ w h' s.toks (hr.keep (kt h' hs')) ⟨st', ?_, st.2.2.keep (kt h' hs')⟩ hs'.extBut
  obtain ⟨o, ho, hc, n, r⟩ := st.2.1
  exact ⟨o, kt h' hs' a o ho ⟨hc, _, n, r⟩, hc, n, r⟩
 done := fun A σ s Q E ao R inv st hQ => tuple_endH (ao.hd O R) st.1 st.2.1 (by have := st.2.2.length; simp [this]) (let ⟨_, hoI, _, hdI⟩ := st.1; ao.ne O R hoI hdI) fun h' hx => hQ h' s.toks hx
 self := fun A s i Q E st q => wpAny_pyIter_tupleiter st.1 q
 own := fun A s i t w Q E ⟨⟨o, ho, hc, hd⟩, _⟩ q => own_plain ho hc (by decide) q
noncomputable def signs (x : Str) : List V := x.cps.toList.map fun c => .str ⟨#[c]⟩
theorem it_str (hz : C.held = none) (I : Addr) (cls : String) (x : Str) (t : Tok) (hcls : cls = "str_ascii_iterator" ∨ cls = "str_iterator") : It C k I (signs x) (fun _ => True) (fun i h => h.IsStrIter I cls x t i) where
 frame := fun i h h' ⟨o, ho, r⟩ kI _ => ⟨o, kI o ho, r⟩
 live := fun i h ⟨o, ho, hc, hd⟩ => ⟨o, ho, (fun ⟨_, _, _, h2⟩ => by rw [hd] at h2; cases h2), (fun v h2 => by rw [hd] at h2; cases h2)⟩
 flds := fun i h ⟨o, ho, hc, hd⟩ o' ho' es ep z => by rw [ho] at ho'; cases ho'; rw [hd] at z; cases z
 next := fun A σ s i v Q E ao R inv st hv hQ => by
  unfold signs at hv
  rw [List.getElem?_map] at hv
  obtain ⟨c, hc, rfl⟩ := Option.map_eq_some_iff.mp hv
  rcases hcls with rfl | rfl
  ·exact wpAny_pyNext_ascii_item st (c := c) (by simpa using hc) fun h' st' hs' => hQ _ h' _ (.str _ _) st' hs'.extBut
  ·exact wpAny_pyNext_wide_item st (c := c) (by simpa using hc) fun h' st' hs' => hQ _ h' _ (.str _ _) st' hs'.extBut
 done := fun A σ s Q E ao R inv st hQ => by
  rcases hcls with rfl | rfl
  ·exact wpAny_pyNext_ascii_end (ao.none hz) st (by simp [signs]) fun h' hx => hQ h' s.toks hx
  ·exact wpAny_pyNext_wide_end (ao.none hz) st (by simp [signs]) fun h' hx => hQ h' s.toks hx
 self := fun A s i Q E st q => by
  rcases hcls with rfl | rfl
  ·exact wpAny_pyIter_striter_ascii st q
  ·exact wpAny_pyIter_striter_wide st q
 own := fun A s i t w Q E ⟨o, ho, hc, hd⟩ q => by
  rcases hcls with rfl | rfl
  ·exact own_plain ho hc (by decide) q
  ·exact own_plain ho hc (by decide) q
theorem it_dict (hz : C.held = none) (I d : Addr) (kvs : List (Str × V)) (ep : Nat) : It C k I (kvs.map fun p => .str p.1) (fun σ => σ d = some (.dict kvs ep)) (fun i h => h.IsKeyIter I d i kvs.length ep) where
 frame := fun i h h' st kI _ => st.at kI
 live := fun i h ⟨o, ho, hc, hd⟩ => ⟨o, ho, (fun ⟨_, _, _, h2⟩ => by rw [hd] at h2; cases h2), (fun v h2 => by rw [hd] at h2; cases h2)⟩
 flds := fun i h ⟨o, ho, hc, hd⟩ o' ho' es ep z => by rw [ho] at ho'; cases ho'; rw [hd] at z; cases z
 next := fun A σ s i v Q E ao R inv st hv hQ => by
  obtain ⟨_, kws, h1, h2⟩ := R.view d _ inv
  rw [List.getElem?_map] at hv
  obtain ⟨⟨key, u⟩, hku, rfl⟩ := Option.map_eq_some_iff.mp hv
  obtain ⟨w, hw, _⟩ := PRel.get h2 hku
  have st' : s.heap.IsKeyIter I d i kws.length ep := by rw [← h2.length]; exact st
  refine wpAny_pyNext_dict_item st' h1 hw fun kv h' hkey hit' hs' => hQ kv h' s.toks ?_ (by rw [h2.length]; exact hit') hs'.extBut
  cases kv with
  | str y t =>
   have : y = key := by simpa [strKind, Value.isStrOf] using hkey
   subst this; exact .str _ _
  | _ => simp [strKind, Value.isStrOf] at hkey
 done := fun A σ s Q E ao R inv st hQ => by
  obtain ⟨_, kws, h1, h2⟩ := R.view d _ inv
  have e : (kvs.map fun p : Str × V => V.str p.1).length = kws.length := by rw [List.length_map, h2.length]
  have st' : s.heap.IsKeyIter I d kws.length kws.length ep := by rw [← e]; simpa using st
  exact wpAny_pyNext_dict_end (ao.none hz) st' h1 (by simp) fun h' hx => hQ h' s.toks hx
 self := fun A s i Q E st q => wpAny_pyIter_keyiter st q
 own := fun A s i t w Q E ⟨o, ho, hc, hd⟩ q => own_plain ho hc (by decide) q
noncomputable def rangeL (a : Int) (n : Nat) : List V := (List.range n).map fun (i : Nat) => .int (a + i)
theorem it_range (hz : C.held = none) (I : Addr) (a : Int) (n : Nat) : It C k I (rangeL a n) (fun _ => True) (fun i h => IsRangeIter h I (a + (i : Nat) * 1) ((n : Int) - (i : Nat)) 1) where
 frame := fun i h h' st kI _ => kI _ st
 live := fun i h st => ⟨_, st, fun ⟨_, _, _, h2⟩ => by simp at h2, fun v h2 => by simp at h2⟩
 flds := fun i h st o' ho' es ep z => by rw [st] at ho'; cases ho'; cases z
 next := fun A σ s i v Q E ao R inv st hv hQ => by
  unfold rangeL at hv
  rw [List.getElem?_map] at hv
  obtain ⟨j, hj, rfl⟩ := Option.map_eq_some_iff.mp hv
  have hjn := List.getElem?_eq_some_iff.mp hj
  obtain ⟨hlt, hji⟩ := hjn
  simp at hji hlt
  subst hji
  refine wpAny_pyNext_range_item st (by omega) fun h' hit' hs' => ?_
  have e1 : a + ((i + 1 : Nat) : Int) * 1 = a + (i : Int) * 1 + 1 := by push_cast; omega
  have e2 : (n : Int) - ((i + 1 : Nat) : Int) = (n : Int) - (i : Int) - 1 := by push_cast; omega
  refine hQ _ h' _ ?_ (by rw [e1, e2]; exact hit') hs'.extBut
  rw [Int.mul_one]; exact .int _ _
 done := fun A σ s Q E ao R inv st hQ => wpAny_pyNext_range_end (ao.none hz) st (by simp [rangeL]) fun h' hx => hQ h' s.toks hx
 self := fun A s i Q E st q => wpAny_pyIter_rangeiter st q
 own := fun A s i t w Q E st q => own_plain st rfl (by decide) q
noncomputable def iterOf (ns : List Int) : V → View → (List V → (View → Prop) → View → Prop) → Prop
 | .str x, σ, Q => Q (signs x) (fun _ => True) σ
 | .tup vs, σ, Q => Q vs (fun _ => True) σ
 | .script, σ, Q => Q (ns.map .int) (fun _ => True) σ
 | .ref a, σ, Q => match σ a with
  | some (.list xs) => Q xs (fun σ => σ a = some (.list xs)) σ
  | some (.dict kvs ep) => Q (kvs.map fun p => .str p.1) (fun σ => σ a = some (.dict kvs ep)) σ
  | _ => False
 | _, _, _ => False
noncomputable def iOf (ns : List Int) (T : ET) : IT := fun m σ Q => T m σ fun v σ' => iterOf ns v σ' Q
theorem HI.of (O : C.Ok) (hz : C.held = none) {e : Expr} {T : ET} (he : HE C sc k e T) : HI C sc k e (iOf C.ns T) := by
 refine ⟨?_⟩; intro env A s m σ Q P E en ao R F q hP
 refine he.run env A s m σ _ _ E en ao R F q fun v w σ₁ s₁ hv R₁ S₁ q₁ => ?_
 have fr : s.heap.objs.size ≤ s₁.heap.objs.size := S₁.size
 have hn := R₁.freshNone (size_none s₁.heap)
 have Rp : ∀ o, RelG C σ₁ { s₁ with heap := s₁.heap.push o } := fun o => R₁.grow (tk := s₁.toks) push_old
 have Sp : ∀ o, Step no σ σ₁ s.heap (s₁.heap.push o) := fun o => S₁.trans .push
 cases hv with
 | none => exact q₁.elim
 | bool => exact q₁.elim
 | int => exact q₁.elim
 | ty => exact q₁.elim
 | str x t =>
  cases ha : x.cps.all (· < 128)
  ·exact wpAny_pyIter_wide ha (hP _ _ _ _ σ₁ _ (it_str hz _ "str_iterator" x t (.inr rfl)) ⟨_, Heap.get?_push_size _ rfl, rfl, rfl⟩ fr hn (Rp _) (Sp _) q₁)
  ·exact wpAny_pyIter_ascii ha (hP _ _ _ _ σ₁ _ (it_str hz _ "str_ascii_iterator" x t (.inl rfl)) ⟨_, Heap.get?_push_size _ rfl, rfl, rfl⟩ fr hn (Rp _) (Sp _) q₁)
 | script =>
  obtain ⟨ws, h1, h2, h3⟩ := O.script
  exact wpAny_pyIter_list (h1.at fun o e => R₁.base _ _ e) (hP _ _ _ _ σ₁ _ (it_script O _) ⟨_, Heap.get?_push_size _ rfl, rfl, rfl⟩ fr hn (Rp _) (Sp _) q₁)
 | tup ht hvs =>
  exact wpAny_pyIter_tuple ht (hP _ _ _ _ σ₁ _ (it_tup O _ _ _ _) ⟨⟨_, Heap.get?_push_size _ rfl, rfl, rfl⟩, ht.push _, hvs.keep fun _ _ e _ => push_old _ _ e⟩ fr hn (Rp _) (Sp _) q₁)
 | ref a =>
  simp only [iterOf] at q₁
  split at q₁
  ·rename_i xs hx
   obtain ⟨_, ws, h1, h2⟩ := R₁.view a _ hx
   exact wpAny_pyIter_list h1.isList (hP _ _ _ _ σ₁ _ (it_list O _ a xs) ⟨_, Heap.get?_push_size _ rfl, rfl, rfl⟩ fr hn (Rp _) (Sp _) q₁)
  ·rename_i kvs ep hx
   obtain ⟨_, kws, h1, h2⟩ := R₁.view a _ hx
   refine wpAny_pyIter_dict (O.noMods (R₁.apart a (by rw [hx]; simp))) h1 (hP _ _ _ _ σ₁ _ (it_dict hz _ a kvs ep) ⟨_, Heap.get?_push_size _ rfl, rfl, by rw [← h2.length]; rfl⟩ fr hn (Rp _) (Sp _) q₁)
  ·exact q₁.elim
noncomputable def rangeOf : List V → View → (List V → (View → Prop) → View → Prop) → Prop
 | [.int n], σ, Q => (-(2 ^ 62) ≤ n ∧ n < 2 ^ 62) ∧ Q (rangeL 0 n.toNat) (fun _ => True) σ
 | [.int a, .int b], σ, Q => (-(2 ^ 62) ≤ a ∧ a < 2 ^ 62 ∧ -(2 ^ 62) ≤ b ∧ b < 2 ^ 62) ∧ Q (rangeL a (b - a).toNat) (fun _ => True) σ
 | _, _, _ => False
noncomputable def iRange (L : LT) : IT := fun m σ Q => L m σ fun vs σ' => rangeOf vs σ' Q
theorem HI.range (O : C.Ok) (hz : C.held = none) {np pos : Pos} {es : List Expr} {L : LT} (hl : HL C sc k es L) (hp : plainArgs es = true)
  (hn : sc.names.lookup (Str.ofString "range") = some .globalImplicit) (hg : C.mg (Str.ofString "range") = Option.none) (hb : C.mb (Str.ofString "range") = some (.type "range")) :
  HI C sc k (.Call (.Name (Str.ofString "range") np) es [] pos) (iRange L) := by
 refine ⟨?_⟩; intro env A s m σ Q P E en ao R F q hP
 refine wpAny_Call_NameR (Calls.Name_function_global en.k (en.of hn) (Calls.loadGlobal_builtin (mg := C.mg) (mb := C.mb) (by rw [en.globals]; exact O.g.keeps R.base) hg (by rw [en.builtins]; exact O.b.keeps R.base) hb ?_) (by decide))
 refine callWith_type (starEach_any hp) (evalArgs_of hp (hl.run env A s m σ pos _ _ E en ao R F q fun vs ws σ₁ s₁ hv R₁ S₁ q₁ => ?_))
 have fr : s.heap.objs.size ≤ s₁.heap.objs.size + 1 := Nat.le_succ_of_le S₁.size
 have hσ : σ₁ (s₁.heap.objs.size + 1) = Option.none := R₁.freshNone (get_none_of_size (Nat.le_succ _))
 have go : ∀ (a b : Int) (o : Obj) (tk : Nat) (t u v : Tok), -(2 ^ 62) ≤ a → a < 2 ^ 62 → -(2 ^ 62) ≤ b → b < 2 ^ 62 → o = { cls := .type "range", data := .fields #[.int a t, .int b u, .int 1 v] } → Q (rangeL a (b - a).toNat) (fun _ => True) σ₁ →
   wpAny (model C.prog C.w) A (pyIter (.ref s₁.heap.objs.size)) P E { s₁ with heap := s₁.heap.push o, toks := tk } := by
  rintro a b o tk t u v h1 h2 h3 h4 rfl q₁
  refine wpAny_pyIter_range (IsRange.new ..) (small_one h1 h2 h3 h4) ?_
  have hsz : Builtin.Range.rangeSize a b 1 = ((b - a).toNat : Int) := by rw [rangeSize_one]; split <;> omega
  have hit := it_range (C := C) (k := k) hz (s₁.heap.objs.size + 1) a (b - a).toNat
  have R₂ : RelG C σ₁ { s₁ with heap := (s₁.heap.push { cls := .type "range", data := .fields #[.int a t, .int b u, .int 1 v] }).push { cls := .type "range_iterator", data := .fields #[rawInt a, rawInt (Builtin.Range.rangeSize a b 1), rawInt 1] }, toks := tk } :=
   R₁.grow fun _ _ e => push_old _ _ (push_old _ _ e)
  have e := Heap.get?_push_size (s₁.heap.push { cls := .type "range", data := .fields #[.int a t, .int b u, .int 1 v] }) (o := { cls := .type "range_iterator", data := .fields #[rawInt a, rawInt (Builtin.Range.rangeSize a b 1), rawInt 1] }) rfl
  rw [Heap.size_push] at e
  have this := hP _ _ _ _ σ₁ _ hit (by
    show IsRangeIter ((s₁.heap.push { cls := .type "range", data := .fields #[.int a t, .int b u, .int 1 v] }).push { cls := .type "range_iterator", data := .fields #[rawInt a, rawInt (Builtin.Range.rangeSize a b 1), rawInt 1] }) _ _ _ _
    unfold IsRangeIter
    rw [e, hsz]; simp) fr hσ R₂ ((S₁.trans .push).trans .push) q₁
  rw [Heap.size_push]
  exact this
 show wpAny _ A (PySem.call (.type "range") ([] ++ ws)) _ _ _
 rw [List.nil_append]
 unfold rangeOf at q₁
 split at q₁
 ·cases hv with | cons h1 r => cases r with | nil => cases h1 with | int n t =>
   refine call_range_1 (go 0 _ _ _ _ _ _ (by decide) (by decide) q₁.1.1 q₁.1.2 rfl ?_)
   rw [Int.sub_zero]; exact q₁.2
 ·cases hv with | cons h1 r => cases r with | cons h2 r => cases r with | nil => cases h1 with | int a t => cases h2 with | int b u =>
   exact call_range_2 (go _ _ _ _ _ _ _ q₁.1.1 q₁.1.2.1 q₁.1.2.2.1 q₁.1.2.2.2 rfl q₁.2)
 ·exact q₁.elim
end
end Mine
end
noncomputable section
namespace Mine
open PySem
noncomputable def clo (cells : List (Str × Addr)) : List (Str × NameKind) → List (Str × Addr) → List (Str × Addr)
 | [], acc => acc
 | (n, q) :: r, acc => if q == .free then clo cells r ((n, (cells.lookup n).getD 0) :: acc) else clo cells r acc
theorem closure_eq {env : Env} {scope : Scope} (h : ∀ p ∈ scope.names, p.2 = .free → ∃ c, env.cells.lookup p.1 = some c) : closureFor scope env = pure (clo env.cells scope.names []) := by
 unfold closureFor
 have key : ∀ (l : List (Str × NameKind)) (acc : List (Str × Addr)), (∀ p ∈ l, p.2 = .free → ∃ c, env.cells.lookup p.1 = some c) →
   (forIn l acc fun p r => (if (p.2 == NameKind.free) = true then do let c ← cellOf env p.1; pure (ForInStep.yield ((p.1, c) :: r)) else pure (ForInStep.yield r) : Sem (ForInStep (List (Str × Addr))))) = pure (clo env.cells l acc) := by
  intro l
  induction l with
  | nil => intro acc _; rfl
  | cons p r ih =>
   intro acc hp
   rw [List.forIn_cons]
   obtain ⟨n, q⟩ := p
   unfold clo
   cases hq : (q == NameKind.free) with
   | true =>
    obtain ⟨c, hc⟩ := hp (n, q) (.head _) (by simpa using hq)
    simp only [cellOf, hc, if_true, pure_bind, Option.getD_some]
    exact ih _ fun p hp' => hp p (.tail _ hp')
   | false =>
    simp only [Bool.false_eq_true, if_false, pure_bind]
    exact ih _ fun p hp' => hp p (.tail _ hp')
 have := key scope.names [] h
 simpa using congrArg (fun t => t >>= fun cs => (pure cs : Sem _)) this
theorem clo_lookup {cells : List (Str × Addr)} : ∀ (l : List (Str × NameKind)) (acc : List (Str × Addr)), (∀ p ∈ l, p.2 = .free → ∃ c, cells.lookup p.1 = some c) → ∀ n,
  ((clo cells l acc).lookup n = if (n, NameKind.free) ∈ l then cells.lookup n else acc.lookup n)
 | [], acc, _, n => by simp [clo]
 | (y, q) :: r, acc, h, n => by
  unfold clo
  have ih := fun acc => clo_lookup r acc (fun p hp => h p (.tail _ hp)) n
  cases hq : (q == NameKind.free) with
  | true =>
   have hq' : q = .free := by simpa using hq
   obtain ⟨c, hc⟩ := h (y, q) (.head _) hq'
   rw [if_pos rfl, ih]
   subst hq'
   by_cases hr : (n, NameKind.free) ∈ r
   ·simp [hr]
   ·rw [if_neg hr]
    by_cases hy : n = y
    ·subst hy; simp [hc]
    ·have : (n == y) = false := by simp [hy]
     simp [hr, hy, List.lookup_cons, this]
  | false =>
   have hq' : q ≠ .free := by simpa using hq
   rw [if_neg Bool.false_ne_true, ih]
   have : ((n, NameKind.free) ∈ (y, q) :: r) ↔ (n, NameKind.free) ∈ r := by simp [Ne.symm hq']
   simp [this]
theorem clo_dist {cells : List (Str × Addr)} (hd : cells.Pairwise fun x y => x.2 ≠ y.2) : ∀ (l : List (Str × NameKind)) (acc : List (Str × Addr)), (∀ p ∈ l, p.2 = .free → ∃ c, cells.lookup p.1 = some c) → (l.map (·.1)).Nodup →
  (∀ p ∈ acc, cells.lookup p.1 = some p.2 ∧ p.1 ∉ l.map (·.1)) → acc.Pairwise (fun x y => x.2 ≠ y.2) → (clo cells l acc).Pairwise fun x y => x.2 ≠ y.2
 | [], acc, _, _, _, h => by simpa [clo] using h
 | (y, q) :: r, acc, h, hn, ha, hp => by
  unfold clo
  rw [List.map_cons, List.nodup_cons] at hn
  cases hq : (q == NameKind.free) with
  | true =>
   obtain ⟨c, hc⟩ := h (y, q) (.head _) (by simpa using hq)
   rw [if_pos rfl]
   refine clo_dist hd r _ (fun p hp => h p (.tail _ hp)) hn.2 ?_ ?_
   ·intro p hp'
    rcases List.mem_cons.mp hp' with rfl | hp'
    ·exact ⟨by simp [hc], hn.1⟩
    ·exact ⟨(ha p hp').1, fun z => (ha p hp').2 (.tail _ z)⟩
   ·refine List.pairwise_cons.mpr ⟨fun p hp' e => ?_, hp⟩
    rw [hc] at e
    simp only [Option.getD_some] at e
    have := name_of_addr hd (mem_of_lookup hc) (mem_of_lookup (e ▸ (ha p hp').1))
    exact (ha p hp').2 (by rw [← this]; exact .head _)
  | false =>
   rw [if_neg Bool.false_ne_true]
   exact clo_dist hd r acc (fun p hp => h p (.tail _ hp)) hn.2 (fun p hp' => ⟨(ha p hp').1, fun z => (ha p hp').2 (.tail _ z)⟩) hp
noncomputable def rkind (sc : Scope) (n : Str) (q : NameKind) : NameKind := if (q == .free && sc.kind == .function && sc.names.lookup n == some .cell) then .cell else q
noncomputable def relS (sc scope : Scope) : Scope := { scope with names := scope.names.map fun p => (p.1, rkind sc p.1 p.2) }
theorem relabel_eq {cs : Scope} {env : Env} : relabel cs env = relS env.scope cs := by
 unfold relabel relS Env.kindOf rkind
 congr 1
 refine List.map_congr_left fun p _ => ?_
 obtain ⟨n, q⟩ := p
 dsimp only
 split <;> rfl
theorem lookup_rel {sc : Scope} : ∀ (l : List (Str × NameKind)) (n : Str), (l.map fun p => (p.1, rkind sc p.1 p.2)).lookup n = (l.lookup n).map (rkind sc n)
 | [], n => rfl
 | (y, q) :: r, n => by
  rw [List.map_cons, List.lookup_cons, List.lookup_cons]
  by_cases hy : n = y
  ·subst hy; simp
  ·have hb : (n == y) = false := by simp [hy]
   simp only [hb]
   exact lookup_rel r n
theorem relS_free {sc : Scope} {l : List (Str × NameKind)} {n : Str} (h : l.lookup n = some .free) : (l.map fun p => (p.1, rkind sc p.1 p.2)).lookup n = some .cell ∨ (l.map fun p => (p.1, rkind sc p.1 p.2)).lookup n = some .free := by
 rw [lookup_rel, h, Option.map_some]
 unfold rkind
 split
 ·exact .inl rfl
 ·exact .inr rfl
theorem relS_cell {sc : Scope} {l : List (Str × NameKind)} {n : Str} (h : (l.map fun p => (p.1, rkind sc p.1 p.2)).lookup n = some .cell) : (n, NameKind.free) ∈ l ∨ (n, NameKind.cell) ∈ l := by
 rw [lookup_rel] at h
 obtain ⟨q, hq, e⟩ := Option.map_eq_some_iff.mp h
 unfold rkind at e
 split at e
 ·rename_i hc
  have : q = .free := by simp at hc; exact hc.1.1
  subst this
  exact .inl (mem_of_lookup hq)
 ·subst e; exact .inr (mem_of_lookup hq)
theorem relS_freeInv {sc : Scope} {l : List (Str × NameKind)} {n : Str} (h : (l.map fun p => (p.1, rkind sc p.1 p.2)).lookup n = some .free) : (n, NameKind.free) ∈ l := by
 rw [lookup_rel] at h
 obtain ⟨q, hq, e⟩ := Option.map_eq_some_iff.mp h
 unfold rkind at e
 split at e
 ·cases e
 ·subst e; exact mem_of_lookup hq
section
variable {C : Cx} {sc : Scope} {k : Nat}
structure HTs (C : Cx) (sc : Scope) (k : Nat) (ifs : List Expr) (B : BT) : Prop where
 run : ∀ (env : Env) (A : Around) (s : Shared) (m : Loc) (σ : View) (Q : Bool → View → Prop) (P : Bool → Shared → Prop) (E : Value → Shared → Prop),
  EnvOk env sc → AOk C A k → RelG C σ s → FrameRel C env m σ s.heap → B m σ Q →
  (∀ b σ' s', RelG C σ' s' → Step no σ σ' s.heap s'.heap → Q b σ' → P b s') →
  wpAny (model C.prog C.w) A (forIn ifs true fun c r => if r = true then do let ok ← isTrue c env (eval c env); pure (ForInStep.yield ok) else pure (ForInStep.yield r)) P E s
theorem HTs.nil : HTs C sc k [] tT := ⟨fun _ _ s _ σ _ _ _ _ _ R _ q hP => wpAny_tests_nil (hP true σ s R Step.refl q)⟩
theorem HTs.one {c : Expr} {B : BT} (h : HB C sc k c B) : HTs C sc k [c] B := ⟨fun env A s m σ Q P E en ao R F q hP => wpAny_tests_one (h.run env A s m σ Q P E en ao R F q hP)⟩
noncomputable def only (fv : List String) (m : Loc) : Loc := fun x => if x ∈ fv then m x else Option.none
noncomputable def compL (g : Tgt) (inv : View → Prop) (B : BT) (T : ET) (m : Loc) : List V → List V → View → (List V → View → Prop) → Prop
 | [], acc, σ, Q => inv σ ∧ Q acc σ
 | v :: r, acc, σ, Q => inv σ ∧ ∃ m', bindT g v m = some m' ∧ B m' σ fun b σ₁ => if b then T m' σ₁ fun y σ₂ => acc.length < 1048576 ∧ compL g inv B T m r (acc ++ [y]) σ₂ Q else compL g inv B T m r acc σ₁ Q
noncomputable def eComp (fv : List String) (g : Tgt) (I : IT) (B : BT) (T : ET) : ET := fun m σ Q => I m σ fun items inv σ' => compL g inv B T (only fv m) items [] σ' fun ys σ'' => newL ys σ'' Q
noncomputable def Tgt.names : Tgt → List String
 | .name x => [x]
 | .tup xs => xs
theorem bindM_other : ∀ (xs : List String) (vs : List V) (m : Loc) (y : String), y ∉ xs → bindM xs vs m y = m y
 | [], _, _, _, _ => by simp [bindM]
 | x :: xs, [], _, _, _ => by simp [bindM]
 | x :: xs, v :: vs, m, y, h => by
  simp only [bindM]
  rw [bindM_other xs vs _ y (fun z => h (.tail _ z))]
  exact put_ne (fun z => h (by rw [z]; exact .head _))
theorem bindT_other {g : Tgt} {v : V} {m m' : Loc} (h : bindT g v m = some m') {y : String} (hy : y ∉ g.names) : m' y = m y := by
 cases g with
 | name x => cases h; exact put_ne (fun z => hy (by simp [Tgt.names, z]))
 | tup xs =>
  cases v <;> simp [bindT] at h
  obtain ⟨_, rfl⟩ := h
  exact bindM_other _ _ _ _ hy
theorem FrameRel.weaken {env : Env} {m m' : Loc} {σ : View} {h : Heap} (F : FrameRel C env m' σ h) (hw : ∀ x v, m x = some v → m' x = some v) : FrameRel C env m σ h :=
 ⟨let ⟨mm, h1, h2⟩ := F.ns; ⟨mm, h1, fun x v e q => h2 x v (hw x v e) q⟩, fun x v e => F.cel x v (hw x v e), F.cells, F.sepL, F.baseL, F.baseC, F.dist, F.has⟩
theorem compLoop_any {A : Around} {R : Result → Shared → Prop} {s : Shared} {elt target iter : Expr} {ifs : List Expr} {scope : Scope} {pos : Pos} {it acc : Value} {env : Env} (I : Nat → Shared → Prop)
  (turn : ∀ n s, I n s → wpAny (model C.prog C.w) A (pyNext it) (fun r s₁ => match r with
   | Option.none => R (.ok .next) s₁
   | some v => wpAny (model C.prog C.w) A (letOwnedTupleGo target it v) (fun _ s₁' => wpAny (model C.prog C.w) A (assign target env v) (fun _ s₂ =>
     wpAny (model C.prog C.w) A (forIn ifs true fun c r => if r = true then do let ok ← isTrue c env (eval c env); pure (ForInStep.yield ok) else pure (ForInStep.yield r)) (fun ok s₃ =>
      if ok = true then wpAny (model C.prog C.w) A (eval elt env) (fun x s₄ =>
       wpAny (model C.prog C.w) A (call (.builtin "list.append") [acc, x]) (fun _ s₅ => ∃ m, m < n ∧ I m s₅) (notedBy (model C.prog C.w) A env fun e s' => R (.error e) s') s₄) (notedBy (model C.prog C.w) A env fun e s' => R (.error e) s') s₃
      else ∃ m, m < n ∧ I m s₃) (notedBy (model C.prog C.w) A env fun e s' => R (.error e) s') s₂) (notedBy (model C.prog C.w) A env fun e s' => R (.error e) s') s₁') (notedBy (model C.prog C.w) A env fun e s' => R (.error e) s') s₁) (notedBy (model C.prog C.w) A env fun e s' => R (.error e) s') s)
  (n : Nat) (h : I n s) : codeAny (model C.prog C.w) A (.compLoop (.ListComp elt [⟨target, iter, ifs, 0⟩] scope pos) 0 it acc env) R s := by
 refine codeAny_loop rfl I (fun n s hI => ?_) n h
 show wpAny _ A ((compTurn (.ListComp elt [⟨target, iter, ifs, 0⟩] scope pos) 0 it acc env).onRaise (fun x => do noteFrame x env; theTreesLotGoes x)) _ _ s
 refine wpAny_noted ?_
 rw [compTurn_list]
 refine wpAny_bind (wpAny_standAt (wpAny_bind (wpAny_mono (turn n s hI) (fun r s₁ h₁ => ?_) fun _ _ h' => h')))
 cases r with
 | none => exact wpAny_pure h₁
 | some v =>
  refine wpAny_bind (wpAny_mono h₁ (fun _ s₁' h₁' => ?_) fun _ _ h' => h')
  refine wpAny_bind (wpAny_mono h₁' (fun _ s₂ h₂ => wpAny_bind (wpAny_mono h₂ (fun ok s₃ h₃ => ?_) fun _ _ h' => h')) fun _ _ h' => h')
  cases ok with
  | false => exact wpAny_pure ⟨rfl, h₃⟩
  | true => exact wpAny_bind (wpAny_bind (wpAny_mono h₃ (fun x s₄ h₄ => wpAny_bind (wpAny_mono h₄ (fun _ s₅ h₅ => wpAny_pure (wpAny_pure ⟨rfl, h₅⟩)) fun _ _ h' => h')) fun _ _ h' => h'))
structure CompOk (sc cs : Scope) (fv : List String) (g : Tgt) : Prop where
 kind : cs.kind = .function
 nocell : ∀ y ∈ cs.names, y.2 ≠ .cell
 names : ∀ y ∈ cs.names, y.2 = .local → cs.names.lookup y.1 = some .local
 nodup : (cs.names.map (·.1)).Nodup
 frees : ∀ p ∈ cs.names, p.2 = .free → ∃ x ∈ fv, Str.ofString x = p.1
 frs : ∀ x ∈ fv, (Str.ofString x, NameKind.free) ∈ cs.names ∧ (sc.names.lookup (Str.ofString x) = some .cell ∨ sc.names.lookup (Str.ofString x) = some .free)
 tgt : ∀ x ∈ g.names, x ∉ fv
noncomputable def FrameHas (env : Env) (x : String) : Prop := ∃ c, env.cells.lookup (Str.ofString x) = some c
theorem mem_lookup_nodup {α : Type} : ∀ {l : List (Str × α)} {n : Str} {c : α}, (l.map (·.1)).Nodup → (n, c) ∈ l → l.lookup n = some c
 | p :: r, n, c, hn, hm => by
  rw [List.map_cons, List.nodup_cons] at hn
  rcases List.mem_cons.mp hm with e | hm
  ·subst e; simp
  ·have : n ≠ p.1 := fun e => hn.1 (e ▸ List.mem_map_of_mem hm)
   rw [List.lookup_cons, show (n == p.1) = false by simp [this]]
   exact mem_lookup_nodup hn.2 hm
theorem plain_nd {h : Heap} {a : Addr} {xs : Array Value} (hp : h.PlainList a xs) (o : Obj) (e : h.get? a = some o) : ∀ es ep, o.data ≠ .dict es ep := by
 obtain ⟨n, hn⟩ := hp
 rw [hn] at e; cases e
 intro es ep z; cases z
inductive CompInv (C : Cx) (cenv : Env) (σ₂ : View) (h : Heap) (I H : Addr) (m : Loc) (items : List V) (St : Nat → Heap → Prop) (L : List V → List V → View → Prop) (n : Nat) (s' : Shared) : Prop
 | mk (i : Nat) (ys : List V) (ws : List Value) (σ' : View) (rest : List V) (e1 : items.drop i = rest) (e2 : i ≤ items.length) (e3 : n = rest.length + 1) (st : St i s'.heap) (hI : σ' I = Option.none) (hD : σ' h.objs.size = Option.none) (R : RelG C σ' s')
   (F : FrameRel C cenv m σ' s'.heap) (hp : s'.heap.PlainList h.objs.size (List.toArray ws)) (hv : VRels C.aS s'.heap ys ws) (hl : ys.length ≤ 1048576) (S : Step (fun b => b = I ∨ b = h.objs.size ∨ b = H) σ₂ σ' h s'.heap) (q : L rest ys σ') : CompInv C cenv σ₂ h I H m items St L n s'
theorem comp_core {env : Env} {A : Around} {s₀ s₂ : Shared} {m : Loc} {σ₀ σ₂ : View} {elt iter target : Expr} {ifs : List Expr} {cs : Scope} {pos : Pos} {fv : List String} {g : Tgt} {B : BT} {T : ET} {I : Addr} {items : List V} {inv : View → Prop} {St : Nat → Heap → Prop}
  {Q : List V → View → Prop} {RR : Value → Addr → Result → Shared → Prop} {E : Value → Shared → Prop}
  (ok : CompOk sc cs fv g) (hhas : ∀ x ∈ fv, FrameHas env x) (ht : HT C (relS sc cs) k true target g) (hB : HTs C (relS sc cs) k ifs B) (hT : HE C (relS sc cs) k elt T)
  (en : EnvOk env sc) (ao : AOk C A k) (R₀ : RelG C σ₀ s₀) (S : Step no σ₀ σ₂ s₀.heap s₂.heap) (R₂ : RelG C σ₂ s₂) (F : FrameRel C env m σ₂ s₂.heap) (hit : It C k I items inv St) (st : St 0 s₂.heap) (hI : s₀.heap.objs.size ≤ I) (hσI : σ₂ I = Option.none)
  (q : compL g inv B T (only fv m) items [] σ₂ Q)
  (hRR : ∀ D C' ys ws mm σ' s', Heap.Ns s'.heap C' mm → s₂.heap.objs.size ≤ C' → s₂.heap.objs.size ≤ D → D ≠ C' → σ' D = Option.none → σ' C' = Option.none → s'.heap.PlainList D (List.toArray ws) → VRels C.aS s'.heap ys ws → RelG C σ' s' →
   ys.length ≤ 1048576 → Step no σ₀ σ' s₀.heap s'.heap → Step (fun b => b = I) σ₂ σ' s₂.heap s'.heap → Q ys σ' → RR (.ref D) C' (.ok .next) s') :
  wpAny (model C.prog C.w) A (newList []) (fun acc s₃ => wpAny (model C.prog C.w) A (newFunctionEnv cs env.globals (clo env.cells cs.names []) [] env.qual Option.none .none (some env)) (fun cenv s₄ =>
   codeAny (model C.prog C.w) A (.compStart (.ListComp elt [⟨target, iter, ifs, 0⟩] cs pos) 0 (.ref I) acc { cenv with scope := relabel cs env }) (RR acc cenv.locals) s₄) E s₃) E s₂ := by
 have hfree : ∀ p ∈ cs.names, p.2 = .free → ∃ c, env.cells.lookup p.1 = some c := fun p hp hq => by
  obtain ⟨x, hx, e⟩ := ok.frees p hp hq
  rw [← e]; exact hhas x hx
 refine wpAny_newObj_type (wpAny_newFunctionEnv ok.nocell (by intro y hy; simp at hy) (fun h₁ hns₁ hsb₁ => ?_) ok.kind)
 dsimp only at hns₁ hsb₁ ⊢
 generalize hH2 : s₂.heap.push { cls := .type "list", dict := Option.none, data := .seq ([] : List Value).toArray } = H2 at hns₁ hsb₁ ⊢
 have hC : H2.objs.size = s₂.heap.objs.size + 1 := by rw [← hH2, Heap.size_push]
 have hDC : s₂.heap.objs.size ≠ H2.objs.size := by rw [hC]; exact Nat.ne_of_lt (Nat.lt_succ_self _)
 have old : ∀ b o, s₂.heap.get? b = some o → h₁.get? b = some o := fun b o e => hsb₁.extBut b o (by rw [hC]; exact Nat.ne_of_lt (Nat.lt_succ_of_lt (Heap.lt_size e))) (Heap.get?_push_of_some _ (hH2 ▸ Heap.get?_push_of_some _ e))
 have hacc : h₁.PlainList s₂.heap.objs.size (List.toArray []) := ⟨_, hsb₁.extBut _ _ hDC (Heap.get?_push_of_some _ (hH2 ▸ Heap.get?_push_size _ rfl))⟩
 have hsz₁ : h₁.objs.size = s₂.heap.objs.size + 2 := by rw [hsb₁.1, Heap.size_push, hC]
 have R₁ : RelG C σ₂ { s₂ with heap := h₁, toks := s₂.toks + ([] : List (Str × Value)).length } := R₂.grow old
 have cl := clo_lookup (cells := env.cells) cs.names [] hfree
 have kindF : ∀ x ∈ fv, (relS sc cs).names.lookup (Str.ofString x) = some .cell ∨ (relS sc cs).names.lookup (Str.ofString x) = some .free := fun x hx =>
  relS_free (mem_lookup_nodup ok.nodup (ok.frs x hx).1)
 have hLC : (compEnvC cs (clo env.cells cs.names []) H2.objs.size env).locals = H2.objs.size := rfl
 have eS : (compEnvC cs (clo env.cells cs.names []) H2.objs.size env).scope = relS sc cs := by show relabel cs env = _; rw [relabel_eq, en.scope]
 have eCl : (compEnvC cs (clo env.cells cs.names []) H2.objs.size env).cells = clo env.cells cs.names [] := rfl
 have enC : EnvOk (compEnvC cs (clo env.cells cs.names []) H2.objs.size env) (relS sc cs) := ⟨eS, ok.kind, en.globals, en.builtins⟩
 have memF : ∀ n c, (clo env.cells cs.names []).lookup n = some c → (n, NameKind.free) ∈ cs.names ∧ env.cells.lookup n = some c := fun n c e => by
  rw [cl n] at e
  split at e
  ·exact ⟨by assumption, e⟩
  ·simp at e
 have kc : ∀ c v, s₂.heap.IsCell c v → h₁.IsCell c v := fun c v ⟨o, ho, hd⟩ => ⟨o, old c o ho, hd⟩
 have F₁ : FrameRel C (compEnvC cs (clo env.cells cs.names []) H2.objs.size env) (only fv m) σ₂ h₁ := by
  refine ⟨⟨_, hns₁, fun x v e kx => ?_⟩, fun x v e => ?_, fun n c e => ?_, R₂.freshNone (get_none_of_size (by rw [hLC, hC]; exact Nat.le_succ _)), R₂.baseNone (get_none_of_size (by rw [hLC, hC]; exact Nat.le_succ _)), fun n c e => ?_, ?_, fun n e => ?_⟩
  ·unfold only at e
   split at e
   ·rename_i hx
    rcases kindF x hx with z | z <;> (rw [enC.of z] at kx; cases kx)
   ·cases e
  ·unfold only at e
   split at e
   ·rename_i hx
    rcases F.cel x v e with z | ⟨z, c, w, h1, h2, h3⟩
    ·exfalso
     rcases (ok.frs x hx).2 with y | y <;> (rw [en.of y] at z; cases z)
    ·refine .inr ⟨?_, c, w, ?_, kc _ _ h2, h3.keep fun b o e _ => old b o e⟩
     ·exact (kindF x hx).imp (fun z => enC.of z) fun z => enC.of z
     ·rw [eCl, cl, if_pos (ok.frs x hx).1]; exact h1
   ·cases e
  ·obtain ⟨v, hv⟩ := F.cells n c (memF n c e).2
   exact ⟨v, kc _ _ hv⟩
  ·exact F.baseC n c (memF n c e).2
  ·exact clo_dist F.dist cs.names [] hfree ok.nodup (fun p hp => by cases hp) List.Pairwise.nil
  ·have go : (n, NameKind.free) ∈ cs.names → ∃ c, (clo env.cells cs.names []).lookup n = some c := fun z => by
    obtain ⟨c, hc⟩ := hfree _ z rfl
    exact ⟨c, by rw [cl, if_pos z]; exact hc⟩
   rcases e with e | e
   ·have e' : (relS sc cs).names.lookup n = some .cell := by unfold Env.kindOf at e; rw [eS] at e; exact e
    rcases relS_cell e' with z | z
    ·exact go z
    ·exact absurd rfl (ok.nocell _ z)
   ·have e' : (relS sc cs).names.lookup n = some .free := by unfold Env.kindOf at e; rw [eS] at e; exact e
    exact go (relS_freeInv e')
 have hI2 : I < s₂.heap.objs.size := by obtain ⟨o, ho, _⟩ := hit.live _ _ st; exact Heap.lt_size ho
 have st₁ : St 0 h₁ := hit.frame _ _ _ st (fun o e => old I o e) (fun b o e _ => old b o e)
 have S₁ : Step (fun b => b = I ∨ b = s₂.heap.objs.size ∨ b = H2.objs.size) σ₂ σ₂ s₂.heap h₁ := .grow old (by rw [hsz₁]; exact Nat.le_add_right _ _)
 have hσD : σ₂ s₂.heap.objs.size = Option.none := R₂.freshNone (size_none _)
 have hIb : C.hB.get? I = Option.none := R₀.baseNone (get_none_of_size hI)
 have hIL : I ≠ H2.objs.size := by rw [hC]; exact Nat.ne_of_lt (Nat.lt_succ_of_lt hI2)
 have wk : ∀ {v m'}, bindT g v (only fv m) = some m' → ∀ x u, only fv m x = some u → m' x = some u := fun hb x u e => by
  rw [bindT_other hb]; exact e
  intro hx
  unfold only at e
  rw [if_neg (ok.tgt x hx)] at e; cases e
 have loop : ∀ s₃ : Shared, s₃ = { s₂ with heap := h₁, toks := s₂.toks + ([] : List (Str × Value)).length } →
   codeAny (model C.prog C.w) A (.compLoop (.ListComp elt [⟨target, iter, ifs, 0⟩] cs pos) 0 (.ref I) (.ref s₂.heap.objs.size) (compEnvC cs (clo env.cells cs.names []) H2.objs.size env)) (RR (.ref s₂.heap.objs.size) H2.objs.size) s₃ := by
  rintro s₃ rfl
  generalize compEnvC cs (clo env.cells cs.names []) H2.objs.size env = cenv at hLC eS eCl enC F₁ ⊢
  refine compLoop_any
   (CompInv C cenv σ₂ s₂.heap I H2.objs.size (only fv m) items St fun rest ys σ' => compL g inv B T (only fv m) rest ys σ' Q) ?_ _
   ⟨0, [], [], σ₂, items, by simp, by simp, rfl, st₁, hσI, hσD, R₁, F₁, hacc, .nil, by simp, S₁, q⟩
  rintro n s' ⟨i, ys, ws, σ', rest, e1, e2, rfl, st', hσ', hσD', R', F', hp', hv', hl', S', q'⟩
  have nT : ∀ o, s'.heap.get? s₂.heap.objs.size = some o → ¬ IsT o ∧ ∀ v, o.data ≠ .cell v := fun o ho => by
   obtain ⟨n, hn⟩ := hp'; rw [hn] at ho; cases ho; exact ⟨by simp [IsT], by simp⟩
  have drew : ∀ {h' : Heap}, Heap.ExtBut I s'.heap h' → s'.heap.objs.size ≤ h'.objs.size → Step (fun b => b = I ∨ b = s₂.heap.objs.size ∨ b = H2.objs.size) σ' σ' s'.heap h' := fun hx hsz =>
   .of (fun b o e _ q => hx b o (fun z => q (.inl z)) e) hsz fun _ a b => absurd a b
  have ktI : ∀ {h' : Heap}, Heap.ExtBut I s'.heap h' → TupKeep s'.heap h' := fun hx b o e ht => hx b o (by
   rintro rfl; obtain ⟨oI, hoI, hT, _⟩ := hit.live _ _ st'; rw [hoI] at e; cases e; exact hT ht) e
  cases rest with
  | nil =>
   have hil : i = items.length := by
    have := congrArg List.length e1
    simp at this; omega
   subst hil
   refine with_size (hit.done A σ' s' _ _ ao R' q'.1 st' fun h' tk hx hsz => ?_)
   have R₃ := draw_rel (tk := tk) R' hx hσ' hIb (hit.live _ _ st')
   have F₃ := draw_frame F' hx (hit.live _ _ st') (by rw [hLC]; exact hIL)
   have S₃ := S'.trans (drew hx hsz)
   obtain ⟨mm, hmm, _⟩ := F₃.ns
   rw [hLC] at hmm
   have sep := F₃.sepL
   rw [hLC] at sep
   refine hRR _ _ ys ws mm σ' _ hmm (by rw [hC]; exact Nat.le_succ _) (Nat.le_refl _) hDC hσD' sep (hp'.extBut hx (Nat.ne_of_gt hI2)) (hv'.keep (ktI hx)) R₃ hl' (((S.mono fun _ _ _ z => z.elim).trans S₃).mono fun b o e z => ?_) (S₃.mono fun b o e z => ?_) q'.2
   ·have := Heap.lt_size e
    have hh := S.size
    rcases z with z | z | z
    ·exact absurd this (by rw [z]; exact Nat.not_lt.mpr hI)
    ·exact absurd this (by rw [z]; exact Nat.not_lt.mpr hh)
    ·exact absurd this (by rw [z, hC]; exact Nat.not_lt.mpr (Nat.le_succ_of_le hh))
   ·have := Heap.lt_size e
    rcases z with z | z | z
    ·exact z
    ·exact absurd this (by rw [z]; exact Nat.lt_irrefl _)
    ·exact absurd this (by rw [z, hC]; exact Nat.not_lt.mpr (Nat.le_succ _))
  | cons v r =>
   obtain ⟨hinv, m₁, hm₁, q'⟩ := q'
   have hiv : items[i]? = some v := by
    have : (items.drop i)[0]? = some v := by rw [e1]; rfl
    simpa using this
   have hilt : i < items.length := by
    have := congrArg List.length e1
    simp at this; omega
   refine with_size (hit.next A σ' s' i v _ _ ao R' hinv st' hiv fun w h₂ tk₂ hv st₂ hx hsz => ?_)
   have R₃ := draw_rel (tk := tk₂) R' hx hσ' hIb (hit.live _ _ st')
   have F₃ := draw_frame F' hx (hit.live _ _ st') (by rw [hLC]; exact hIL)
   have S₃ := S'.trans (drew hx hsz)
   have hp₃ := hp'.extBut hx (Nat.ne_of_gt hI2)
   have hv₃ := hv'.keep (ktI hx)
   refine hit.own A _ (i + 1) target w _ _ st₂ ?_
   refine ht.run cenv A _ (only fv m) m₁ σ' v w _ _ enC ao R₃ F₃ hv hm₁ fun s₄ R₄ F₄ S₄ => ?_
   have S₄' : Step (fun b => b = H2.objs.size) σ' σ' h₂ s₄.heap := S₄.mono fun b _ _ z => z.elim (fun z => by rw [hLC] at z; exact z) fun z => by cases z.1
   have kt₄ : TupKeep h₂ s₄.heap := S₄'.tups (s := { s' with heap := h₂, toks := tk₂ }) R₃ fun b o z e => by
    subst z; rw [← hLC] at e; exact F₃.ownT _ o (.inl rfl) e
   have st₄ : St (i + 1) s₄.heap := hit.frame _ _ _ st₂ (fun o e => S₄'.keep I o e hσ' hIL (hit.flds _ _ st₂ o e)) kt₄
   have hp₄ : s₄.heap.PlainList s₂.heap.objs.size (List.toArray ws) := hp₃.at fun o e => S₄'.keep _ o e hσD' hDC (plain_nd hp₃ o e)
   have hv₄ := hv₃.keep kt₄
   have S₅ : Step (fun b => b = I ∨ b = s₂.heap.objs.size ∨ b = H2.objs.size) σ₂ σ' s₂.heap s₄.heap := S₃.trans (S₄'.mono fun _ _ _ z => .inr (.inr z))
   refine hB.run cenv A s₄ m₁ σ' _ _ _ enC ao R₄ F₄ q' fun b σ₅ s₅ R₅ Sb q₅ => ?_
   have sepI : ∀ {σa σb : View} {sa : Shared} {hb : Heap}, Step no σa σb sa.heap hb → St (i + 1) sa.heap → σa I = Option.none → σb I = Option.none := fun {σa σb sa hb} Sx stx hx => by
    cases z : σb I with
    | none => rfl
    | some o =>
     obtain ⟨o', ho', _⟩ := hit.live _ _ stx
     exact absurd (Heap.lt_size ho') (Nat.not_lt.mpr (Sx.new I hx (by rw [z]; simp)))
   have sepD : ∀ {σa σb : View} {sa : Shared} {hb : Heap}, Step no σa σb sa.heap hb → sa.heap.PlainList s₂.heap.objs.size (List.toArray ws) → σa s₂.heap.objs.size = Option.none → σb s₂.heap.objs.size = Option.none := fun {σa σb sa hb} Sx hpx hx => by
    cases z : σb s₂.heap.objs.size with
    | none => rfl
    | some o =>
     obtain ⟨n', hn'⟩ := hpx
     exact absurd (Heap.lt_size hn') (Nat.not_lt.mpr (Sx.new _ hx (by rw [z]; simp)))
   have st₅ : St (i + 1) s₅.heap := hit.frame _ _ _ st₄ (fun o e => Sb.keep I o e hσ' (fun z => z) (hit.flds _ _ st₄ o e)) (Sb.tupsN R₄)
   have hp₅ : s₅.heap.PlainList s₂.heap.objs.size (List.toArray ws) := hp₄.at fun o e => Sb.keep _ o e hσD' (fun z => z) (plain_nd hp₄ o e)
   have hv₅ := hv₄.keep (Sb.tupsN R₄)
   have F₅ := F₄.step R₄ Sb
   have hσ₅ := sepI Sb st₄ hσ'
   have hσD₅ := sepD Sb hp₄ hσD'
   have S₆ := S₅.trans (Sb.mono fun _ _ _ z => z.elim)
   have dr : items.drop (i + 1) = r := by rw [← List.tail_drop, e1]; rfl
   cases b with
   | false =>
    simp only [Bool.false_eq_true, if_false] at q₅ ⊢
    exact ⟨r.length + 1, Nat.lt_succ_self _, i + 1, ys, ws, σ₅, r, dr, hilt, rfl, st₅, hσ₅, hσD₅, R₅, F₅.weaken (wk hm₁), hp₅, hv₅, hl', S₆, q₅⟩
   | true =>
    simp only [if_true] at q₅ ⊢
    refine hT.run cenv A s₅ m₁ σ₅ _ _ _ enC ao R₅ F₅ q₅ fun y wy σ₆ s₆ hy R₆ Sc q₆ => ?_
    obtain ⟨hlen, q₆⟩ := q₆
    have st₆ : St (i + 1) s₆.heap := hit.frame _ _ _ st₅ (fun o e => Sc.keep I o e hσ₅ (fun z => z) (hit.flds _ _ st₅ o e)) (Sc.tupsN R₅)
    have hp₆ : s₆.heap.PlainList s₂.heap.objs.size (List.toArray ws) := hp₅.at fun o e => Sc.keep _ o e hσD₅ (fun z => z) (plain_nd hp₅ o e)
    have hv₆ := hv₅.keep (Sc.tupsN R₅)
    have hσ₆ := sepI Sc st₅ hσ₅
    have hσD₆ := sepD Sc hp₅ hσD₅
    have F₆ := F₅.step R₅ Sc
    refine wpAny_list_append_plain hp₆ (fun h₇ hp₇ hs₇ => ?_) (by rw [List.size_toArray, ← hv₆.length, sizeLine_eq]; exact Nat.le_trans hl' (by decide))
    have nD : ∀ o, s₆.heap.get? s₂.heap.objs.size = some o → ¬ IsT o ∧ ∀ v, o.data ≠ .cell v := fun o ho => by
     obtain ⟨n, hn⟩ := hp₆; rw [hn] at ho; cases ho; exact ⟨by simp [IsT], by simp⟩
    obtain ⟨oD, hoD⟩ : ∃ o, s₆.heap.get? s₂.heap.objs.size = some o := let ⟨n, hn⟩ := hp₆; ⟨_, hn⟩
    have kt₇ : TupKeep s₆.heap h₇ := fun b o e ht => hs₇.extBut b o (by rintro rfl; exact (nD o e).1 ht) e
    have R₇ : RelG C σ₆ { s₆ with heap := h₇ } := draw_rel (tk := s₆.toks) R₆ hs₇.extBut hσD₆ (R₂.baseNone (size_none _)) ⟨oD, hoD, nD oD hoD⟩
    have F₇ : FrameRel C cenv m₁ σ₆ h₇ := draw_frame F₆ hs₇.extBut ⟨oD, hoD, nD oD hoD⟩ (by rw [hLC]; exact hDC)
    have st₇ : St (i + 1) h₇ := hit.frame _ _ _ st₆ (fun o e => hs₇.extBut I o (Nat.ne_of_lt hI2) e) kt₇
    refine ⟨r.length + 1, Nat.lt_succ_self _, i + 1, ys ++ [y], ws ++ [wy], σ₆, r, dr, hilt, rfl, st₇, hσ₆, hσD₆, R₇, F₇.weaken (wk hm₁), by simpa using hp₇, (hv₆.append (.cons hy .nil)).keep kt₇, by simp; exact Nat.le_of_lt_succ hlen, (S₆.trans (Sc.mono fun _ _ _ z => z.elim)).trans ?_, q₆⟩
    exact .of (fun b o e _ q => hs₇.extBut b o (fun z => q (.inr (.inl z))) e) (Nat.le_of_eq hs₇.1.symm) fun _ a b => absurd a b
 exact codeAny_compStart_list (loop _ rfl) (hit.self A _ 0 _ _ st₁ (loop _ rfl))
theorem has_fv {env : Env} {m : Loc} {σ : View} {h : Heap} {cs : Scope} {fv : List String} {g : Tgt} (ok : CompOk sc cs fv g) (en : EnvOk env sc) (F : FrameRel C env m σ h) : ∀ x ∈ fv, FrameHas env x := fun x hx =>
 F.has _ ((ok.frs x hx).2.imp (fun z => en.of z) fun z => en.of z)
theorem RelG.enter {σ : View} {s : Shared} {D : Addr} {o : AObj} (R : RelG C σ s) (hD : C.hB.get? D = Option.none) (ho : ObjRel C s.heap D o) : RelG C (upd σ D o) s :=
 ⟨R.rest, R.base, fun a o' e => by
  by_cases h : a = D
  ·subst h; rw [upd_same] at e; cases e; exact ho
  ·rw [upd_ne h] at e; exact R.view a o' e,
   fun a ha => by
  by_cases h : a = D
  ·subst h; exact hD
  ·rw [upd_ne h] at ha; exact R.apart a ha⟩
theorem Step.enter {own : Addr → Prop} {σ σ' : View} {h h' : Heap} {D : Addr} {o : AObj} (S : Step own σ σ' h h') (hD : h.objs.size ≤ D) : Step own σ (upd σ' D o) h h' :=
 ⟨S.keepL, S.size, fun b n z => by
  by_cases hb : b = D
  ·subst hb; exact hD
  ·rw [upd_ne hb] at z; exact S.new b n z⟩
theorem HE.comp {elt iter target : Expr} {ifs : List Expr} {cs : Scope} {pos : Pos} {fv : List String} {g : Tgt} {I : IT} {B : BT} {T : ET} (ok : CompOk sc cs fv g)
  (hi : HI C sc k iter I) (ht : HT C (relS sc cs) k true target g) (hB : HTs C (relS sc cs) k ifs B) (hT : HE C (relS sc cs) k elt T) (hf : ∀ env x, foldedSetIterable iter env x = pure x) :
  HE C sc k (.ListComp elt [⟨target, iter, ifs, 0⟩] cs pos) (eComp fv g I B T) := by
 refine ⟨?_⟩; intro env A s m σ Q P E en ao R F q hP
 have hfree : ∀ p ∈ cs.names, p.2 = .free → ∃ c, env.cells.lookup p.1 = some c := fun p hp hq => by
  obtain ⟨x, hx, e⟩ := ok.frees p hp hq
  rw [← e]; exact has_fv ok en F x hx
 rw [eval_ListComp]
 refine wpAny_comprehension_free (use := Option.none) rfl (hf env) (closure_eq hfree) ok.kind ok.names (hi.run env A s m σ _ _ E en ao R F q fun items inv I St σ₂ s₂ hit st hI hσI R₂ S₂ q₂ => ?_)
 refine comp_core (RR := fun acc C' => compPost (model C.prog C.w) A E Option.none P acc C') ok (has_fv ok en F) ht hB hT en ao R S₂ R₂ (F.step R S₂) hit st hI hσI q₂ ?_
 intro D C' ys ws mm σ' s' hmm hC' hD hDC hσD hσC hp hv R' hly S' SI q'
 refine ⟨mm, hmm, fun h'' hs'' => ?_⟩
 have nT : ∀ o, s'.heap.get? C' = some o → ¬ IsT o ∧ ∀ v, o.data ≠ .cell v := fun o ho => by
  obtain ⟨o', es, ep, ho', hd', _⟩ := hmm; rw [ho'] at ho; cases ho; exact ⟨by simp [IsT, hd'], by simp [hd']⟩
 obtain ⟨oC, hoC⟩ : ∃ o, s'.heap.get? C' = some o := let ⟨o', _, _, ho', _⟩ := hmm; ⟨o', ho'⟩
 have hC0 : s.heap.objs.size ≤ C' := Nat.le_trans S₂.size hC'
 have hD0 : s.heap.objs.size ≤ D := Nat.le_trans S₂.size hD
 have kt : TupKeep s'.heap h'' := fun b o e ht => hs''.extBut b o (by rintro rfl; exact (nT o e).1 ht) e
 have R₃ : RelG C σ' { s' with heap := h'' } := draw_rel (tk := s'.toks) R' hs''.extBut hσC (R.baseNone (get_none_of_size hC0)) ⟨oC, hoC, nT oC hoC⟩
 have R₄ := R₃.enter (D := D) (o := .list ys) (R.baseNone (get_none_of_size hD0)) ⟨by exact Nat.le_trans hly (by decide), ws, hp.extBut hs''.extBut hDC, hv.keep kt⟩
 have S₃ : Step (fun b => b = C') σ' σ' s'.heap h'' := .of (fun b o e _ q => hs''.extBut b o q e) (Nat.le_of_eq hs''.1.symm) fun _ a b => absurd a b
 have S₄ : Step no σ σ' s.heap h'' := ((S'.mono fun _ _ _ z => z.elim).trans S₃).mono fun b o e z => absurd (Heap.lt_size e) (by rw [z]; exact Nat.not_lt.mpr hC0)
 exact hP _ _ _ _ (.ref D) R₄ (S₄.enter hD0) (q' D hσD)
theorem HS1.setComp {elt iter target : Expr} {ifs : List Expr} {cs : Scope} {pos p spos : Pos} {x : String} {fv : List String} {g : Tgt} {I : IT} {B : BT} {T : ET} (ok : CompOk sc cs fv g)
  (hi : HI C sc k iter I) (ht : HT C (relS sc cs) k true target g) (hB : HTs C (relS sc cs) k ifs B) (hT : HE C (relS sc cs) k elt T) (hf : ∀ env x, foldedSetIterable iter env x = pure x)
  (hx : sc.names.lookup (Str.ofString x) = some .local) (hsw : ∀ env, EnvOk env sc → swapsWith (.ListComp elt [⟨target, iter, ifs, 0⟩] cs pos) (some (.Name (Str.ofString x) p)) spos.line env = pure true) :
  HS1 C sc k (.Assign [.Name (Str.ofString x) p] (.ListComp elt [⟨target, iter, ifs, 0⟩] cs pos) spos) (sSet x (eComp fv g I B T)) := by
 refine ⟨?_⟩; intro env A s m σ Q P E en ao R F q hP
 have hfree : ∀ p ∈ cs.names, p.2 = .free → ∃ c, env.cells.lookup p.1 = some c := fun p hp hq => by
  obtain ⟨x, hx, e⟩ := ok.frees p hp hq
  rw [← e]; exact has_fv ok en F x hx
 rw [exec_Assign_Name_used _ _ _ _ (hsw env en)]
 refine wpAny_bind (wpAny_standAt (wpAny_bind ?_))
 show wpAny _ A (do let _ ← comprehension (.ListComp elt [⟨target, iter, ifs, 0⟩] cs pos) cs env _ (newList []) false (eval iter env) (some (assign (.Name (Str.ofString x) p) env))) _ _ s
 refine wpAny_bind (wpAny_mono (wpAny_comprehension_free (use := some (assign (.Name (Str.ofString x) p) env)) (Q := fun _ s' => P .next s') rfl (hf env) (closure_eq hfree) ok.kind ok.names (hi.run env A s m σ _ _ E en ao R F q fun items inv I St σ₂ s₂ hit st hI hσI R₂ S₂ q₂ => ?_))
  (fun _ s' hq => wpAny_pure (wpAny_pure hq)) fun _ _ e => e)
 refine comp_core (RR := fun acc C' => compPost (model C.prog C.w) A E (some (assign (.Name (Str.ofString x) p) env)) (fun _ s' => P .next s') acc C') ok (has_fv ok en F) ht hB hT en ao R S₂ R₂ (F.step R S₂) hit st hI hσI q₂ ?_
 intro D C' ys ws mm σ' s' hmm hC' hD hDC hσD hσC hp hv R' hly S' SI q'
 have hC0 : s.heap.objs.size ≤ C' := Nat.le_trans S₂.size hC'
 have hD0 : s.heap.objs.size ≤ D := Nat.le_trans S₂.size hD
 have R₃ := R'.enter (D := D) (o := .list ys) (R.baseNone (get_none_of_size hD0)) ⟨by exact Nat.le_trans hly (by decide), ws, hp, hv⟩
 have S₃ := S'.enter (o := .list ys) hD0
 have F₃ := F.step R S₃
 have hCL : C' ≠ env.locals := fun e => by
  obtain ⟨mL, hmL, _⟩ := F.ns
  exact absurd hmL.lt (by rw [← e]; exact Nat.not_lt.mpr hC0)
 refine wpAny_assign_Name (store_local en R₃ F₃ hx (.ref D) fun s₄ R₄ F₄ S₄ => ?_)
 have hσ₃C : upd σ' D (.list ys) C' = Option.none := by rw [upd_ne (Ne.symm hDC)]; exact hσC
 have hmm4 : s₄.heap.Ns C' mm := Like.ns hmm fun o e => S₄.keepL C' o e hσ₃C hCL
 refine ⟨mm, hmm4, fun h'' hs'' => ?_⟩
 have nT : ∀ o, s₄.heap.get? C' = some o → ¬ IsT o ∧ ∀ v, o.data ≠ .cell v := fun o ho => by
  obtain ⟨o', es, ep, ho', hd', _⟩ := hmm4; rw [ho'] at ho; cases ho; exact ⟨by simp [IsT, hd'], by simp [hd']⟩
 obtain ⟨oC, hoC⟩ : ∃ o, s₄.heap.get? C' = some o := let ⟨o', _, _, ho', _⟩ := hmm4; ⟨o', ho'⟩
 have R₅ := draw_rel (tk := s₄.toks) R₄ hs''.extBut hσ₃C (R.baseNone (get_none_of_size hC0)) ⟨oC, hoC, nT oC hoC⟩
 have F₅ := draw_frame F₄ hs''.extBut ⟨oC, hoC, nT oC hoC⟩ hCL
 have S₅ : Step (fun b => b = env.locals ∨ b = C') (upd σ' D (.list ys)) (upd σ' D (.list ys)) s'.heap h'' := (S₄.mono fun _ _ _ z => .inl z).trans (.of (fun b o e _ q => hs''.extBut b o (fun z => q (.inr z)) e) (Nat.le_of_eq hs''.1.symm) fun _ a b => absurd a b)
 have S₆ : Step (Own env) σ (upd σ' D (.list ys)) s.heap h'' := ((S₃.mono fun _ _ _ z => z.elim).trans S₅).mono fun b o e z => z.elim .inl fun z => absurd (Heap.lt_size e) (by rw [z]; exact Nat.not_lt.mpr hC0)
 exact hP .next .next _ _ _ .next R₅ F₅ S₆ (q' D hσD)
end
end Mine
end
noncomputable section
namespace Mine
open PySem
section
variable {C : Cx} {sc : Scope} {k : Nat}
noncomputable def isSlice : Expr → Bool
 | .Slice .. => true
 | _ => false
theorem item_tree {A : Around} {s : Shared} {slice : Expr} {o i : Value} {T id : String} {P E : Value → Shared → Prop} (hsl : isSlice slice = false) (hT : s.TypeIs o T)
  (hl : typeLookup (.type T) "__getitem__" = pure (some (.builtin id))) (hg : wpAny (model C.prog C.w) A (getItem o i) P E s) :
  wpAny (model C.prog C.w) A (getitemInPython o >>= fun b => subscripted slice b o i) P E s := by
 refine wpAny_bind ?_
 rw [getitemInPython_of_ne hT.not_modules]
 refine wpAny_bind (wpAny_specialOf hT hl ?_)
 refine wpAny_pure ?_
 have : subscripted slice false o i = operate [o, i] (getItem o i) := by
  unfold subscripted
  cases slice <;> first | rfl | cases hsl
 rw [this]
 exact wpAny_operating hg
noncomputable def idx (i : Int) (n : Nat) : Option Nat := if 0 ≤ i then (if i < n then some i.toNat else Option.none) else (if -(n : Int) ≤ i then some (i + n).toNat else Option.none)
noncomputable def opItem (ns : List Int) : O2
 | .str x, .int i, σ, Q => x.length < 16777217 ∧ ∃ j c, idx i x.length = some j ∧ x.cps.toList[j]? = some c ∧ Q (.str ⟨#[c]⟩) σ
 | .script, .int i, σ, Q => ∃ j n, 0 ≤ i ∧ idx i ns.length = some j ∧ ns[j]? = some n ∧ Q (.int n) σ
 | .tup vs, .int i, σ, Q => vs.length < 16777217 ∧ ∃ j v, idx i vs.length = some j ∧ vs[j]? = some v ∧ Q v σ
 | .ref a, .int i, σ, Q => ∃ xs j v, σ a = some (.list xs) ∧ idx i xs.length = some j ∧ xs[j]? = some v ∧ Q v σ
 | _, _, _, _ => False
theorem idx_seq {i : Int} {n j : Nat} (h : idx i n = some j) : seqIndex? i n = some j := by
 unfold idx at h
 unfold seqIndex?
 split at h
 ·split at h
  ·cases h
   rename_i h1 h2
   simp [Int.not_lt.mpr h1, h1, h2]
  ·cases h
 ·split at h
  ·cases h
   rename_i h1 h2
   have : i < 0 := by exact Int.not_le.mp h1
   simp only [this, if_true]
   rw [if_pos (by simp only [Bool.and_eq_true, decide_eq_true_eq]; omega)]
  ·cases h
theorem idx_lt {i : Int} {n j : Nat} (h : idx i n = some j) : j < n ∧ -(n : Int) ≤ i ∧ i < n := by
 unfold idx at h
 split at h
 ·split at h
  ·cases h; omega
  ·cases h
 ·split at h
  ·cases h; omega
  ·cases h
theorem get_list {A : Around} {s : Shared} {a : Addr} {ws : List Value} {i : Int} {t : Tok} {j : Nat} {w : Value} {P E : Value → Shared → Prop} (hl : s.heap.IsList a ws.toArray) (hi : idx i ws.length = some j) (hw : ws[j]? = some w) (hz : ws.length ≤ 16777216) (q : P w s) :
  wpAny (model C.prog C.w) A (getItem (.ref a) (.int i t)) P E s := by
 have hlt := idx_lt hi
 by_cases h0 : 0 ≤ i
 ·have : j = i.toNat := by unfold idx at hi; rw [if_pos h0] at hi; split at hi <;> cases hi; rfl
  subst this
  exact wpAny_getItem_list hl h0 (by omega) (by simpa using hw) q
 ·have : j = (i + ws.length).toNat := by unfold idx at hi; rw [if_neg h0] at hi; split at hi <;> cases hi; rfl
  subst this
  refine wpAny_getItem_list_neg hl (by exact Int.not_le.mp h0) (by simp; exact hlt.2.1) (by omega) (by simpa using hw) q
theorem ok_item (O : C.Ok) {slice : Expr} (hsl : isSlice slice = false) : Op2 C k (fun o i => getitemInPython o >>= fun b => subscripted slice b o i) (opItem C.ns) := by
 intro A s σ a b wa wb Q P E ao R va vb q hP
 cases a <;> first | exact q.elim | skip
 all_goals (cases b <;> first | exact q.elim | skip)
 ·rename_i x i
  cases va; cases vb
  obtain ⟨hx, j, c, hj, hc, q⟩ := q
  refine item_tree hsl (typeIs_str _ _ _) F.slot_str_getitem.lookup ?_
  have hlt := idx_lt hj
  have e : Txt.charAt x i = some c := by
   unfold Txt.charAt
   rw [idx_seq hj]
   simpa using hc
  refine SB.getItem ?_ (by rw [e]; rfl) ?_
  ·unfold fitsSsize; simp; omega
  ·have e2 : Txt.item x i = ⟨#[c]⟩ := by unfold Txt.item; rw [e]; rfl
   rw [e2]
   exact hP _ _ σ _ (.str _ _) (R.tok _) Step.refl q
 ·rename_i aa i
  cases va; cases vb
  obtain ⟨xs, j, v, hx, hj, hv, q⟩ := q
  obtain ⟨hz, ws, h1, h2⟩ := R.view aa _ hx
  obtain ⟨w, hw, hr⟩ := h2.get hv
  exact item_tree hsl h1.isList.typeIs slot_list_getitem.lookup (get_list h1.isList (by rw [← h2.length]; exact hj) hw (by rw [← h2.length]; exact hz) (hP _ _ σ s hr R Step.refl q))
 ·rename_i i
  cases va; cases vb
  obtain ⟨j, n, h0, hj, hv, q⟩ := q
  obtain ⟨ws, h1, h2, h3⟩ := O.script
  obtain ⟨t, ht⟩ := h3 j n hv
  have hl : s.heap.IsList C.aS ws := h1.at fun o e => R.base _ _ e
  have hl' : s.heap.IsList C.aS ws.toList.toArray := by simpa using hl
  exact item_tree hsl hl.typeIs slot_list_getitem.lookup (get_list hl' (by rw [h2]; exact hj) ht (by rw [h2]; have := O.few; omega) (hP _ _ σ s (.int n t) R Step.refl q))
 ·rename_i vs i
  cases vb
  cases va with
  | @tup _ at' ws ht hvs =>
   obtain ⟨hz, j, v, hj, hv, q⟩ := q
   obtain ⟨w, hw, hr⟩ := hvs.get hv
   have hlt := idx_lt hj
   have htt : PyProof.Rows.IsTup s.heap at' ws.toArray := ht
   refine item_tree hsl ht.typeIs (PyProof.Rows.slot_tuple_getitem).lookup (PyProof.Rows.getItem_tuple htt (by omega) (by omega) (by rw [List.size_toArray, ← hvs.length]; exact idx_seq hj) (by simpa using hw) (hP _ _ σ s hr R Step.refl q))
noncomputable def clip (n : Nat) (lo hi : Option Int) : Nat × Nat := (lo.elim 0 (clipAt n), hi.elim n (clipAt n) - lo.elim 0 (clipAt n))
noncomputable def pyCut {α : Type} (l : List α) (lo hi : Option Int) : List α := (l.drop (clip l.length lo hi).1).take (clip l.length lo hi).2
noncomputable def opCut (ns : List Int) (lo hi : Option Int) : O1
 | .str x, σ, Q => x.length ≤ 16777216 ∧ Q (.str ⟨(pyCut x.cps.toList lo hi).toArray⟩) σ
 | .ref a, σ, Q => ∃ xs, σ a = some (.list xs) ∧ newL (pyCut xs lo hi) σ Q
 | .script, σ, Q => newL ((pyCut ns lo hi).map .int) σ Q
 | _, _, _ => False
structure HP (C : Cx) (sc : Scope) (k : Nat) (e : Option Expr) (T : Loc → View → (Option Int → View → Prop) → Prop) : Prop where
 run : ∀ (env : Env) (A : Around) (s : Shared) (m : Loc) (σ : View) (Q : Option Int → View → Prop) (P : Value → Shared → Prop) (E : Value → Shared → Prop),
  EnvOk env sc → AOk C A k → RelG C σ s → FrameRel C env m σ s.heap → T m σ Q →
  (∀ i p σ' s', i = Option.map Prod.fst p → RelG C σ' s' → Step no σ σ' s.heap s'.heap → Q i σ' → P (partValue p) s') →
  wpAny (model C.prog C.w) A (evalPart e env) P E s
noncomputable def pNone : Loc → View → (Option Int → View → Prop) → Prop := fun _ σ Q => Q Option.none σ
noncomputable def pSome (T : ET) : Loc → View → (Option Int → View → Prop) → Prop := fun m σ Q => T m σ fun v σ' => ∃ i, v = .int i ∧ Q (some i) σ'
theorem HP.none : HP C sc k Option.none pNone := ⟨fun env A s m σ Q P E en ao R F q hP => wpAny_pure (hP Option.none Option.none σ s rfl R Step.refl q)⟩
theorem HP.some {e : Expr} {T : ET} (he : HE C sc k e T) : HP C sc k (some e) (pSome T) := ⟨fun env A s m σ Q P E en ao R F q hP =>
 he.run env A s m σ _ _ E en ao R F q fun v w σ' s' hv R' S' q' => by
  obtain ⟨i, rfl, q'⟩ := q'
  cases hv with
  | int i t => exact hP (Option.some i) (Option.some (i, t)) σ' s' rfl R' S' q'⟩
theorem cut_len {α : Type} (l : List α) (lo hi : Option Int) : (pyCut l lo hi).length ≤ l.length := by
 unfold pyCut; rw [List.length_take, List.length_drop]; exact Nat.le_trans (Nat.min_le_right _ _) (Nat.sub_le _ _)
theorem VRels.cut {aS : Addr} {h : Heap} {vs : List V} {ws : List Value} (x : VRels aS h vs ws) (a b : Nat) : VRels aS h ((vs.drop a).take b) ((ws.drop a).take b) := by
 have hd : ∀ (a : Nat) {vs : List V} {ws : List Value}, VRels aS h vs ws → VRels aS h (vs.drop a) (ws.drop a) := by
  intro a
  induction a with
  | zero => intro vs ws x; exact x
  | succ a ih => intro vs ws x; cases x with
   | nil => exact .nil
   | cons _ r => exact ih r
 have ht : ∀ (b : Nat) {vs : List V} {ws : List Value}, VRels aS h vs ws → VRels aS h (vs.take b) (ws.take b) := by
  intro b
  induction b with
  | zero => intro vs ws x; exact .nil
  | succ b ih => intro vs ws x; cases x with
   | nil => exact .nil
   | cons a r => exact .cons a (ih r)
 exact ht b (hd a x)
theorem strCut (x : Str) (lo hi : Option Int) : ((Builtin.Str.strSliceIndices lo hi 1 x.length).filterMap (x.cps[·]?)) = pyCut x.cps.toList lo hi := by
 have e : Builtin.Str.strSliceIndices lo hi 1 x.length = sliceRange ((lo.elim 0 (clipAt x.length) : Nat) : Int) ((hi.elim x.length (clipAt x.length) : Nat) : Int) 1 := by
  unfold Builtin.Str.strSliceIndices
  cases lo <;> cases hi <;> simp [clipAt_cast]
 rw [e, sliceRange_one, pick_run]
 unfold pyCut clip
 simp [Str.length]
noncomputable def eCut (ns : List Int) (T : ET) (L U : Loc → View → (Option Int → View → Prop) → Prop) : ET := fun m σ Q => T m σ fun v σ₁ => L m σ₁ fun lo σ₂ => U m σ₂ fun hi σ₃ => opCut ns lo hi v σ₃ Q
theorem HE.cut (O : C.Ok) {value : Expr} {lower upper : Option Expr} {p pos : Pos} {T : ET} {L U : Loc → View → (Option Int → View → Prop) → Prop} (hv : HE C sc k value T) (hl : HP C sc k lower L) (hu : HP C sc k upper U) :
  HE C sc k (.Subscript value (.Slice lower upper Option.none p) pos) (eCut C.ns T L U) := by
 refine ⟨?_⟩; intro env A s m σ Q P E en ao R F q hP
 rw [eval_Subscript]
 refine wpAny_bind (hv.run env A s m σ _ _ E en ao R F q fun v w σ₁ s₁ va R₁ S₁ q₁ => wpAny_bind (wpAny_holding (wpAny_Slice ?_)))
 have F₁ := F.step R S₁
 refine hl.run env A s₁ m σ₁ _ _ E en ao R₁ F₁ q₁ fun lo pl σ₂ s₂ el R₂ S₂ q₂ => ?_
 refine hu.run env A s₂ m σ₂ _ _ E en ao R₂ (F₁.step R₁ S₂) q₂ fun hi pu σ₃ s₃ eu R₃ S₃ q₃ => ?_
 rw [evalPart_none]
 refine wpAny_pure (wpAny_bind (wpAny_standAt ?_))
 have va₃ := (va.keep (S₂.tupsN R₁)).keep (S₃.tupsN R₂)
 have S₁₃ := (S₁.trans S₂).trans S₃
 have Rs : RelG C σ₃ { s₃ with heap := s₃.heap.push { cls := .type "slice", data := .fields #[partValue pl, partValue pu, .none] } } := R₃.grow (tk := s₃.toks) push_old
 have part : ∀ p : Option (Int × Tok), IsPart (partValue p) (p.map (·.1)) := fun p => by
  cases p with
  | none => exact .none
  | some x => exact .int _ _
 have go : ∀ {T id : String} {o : Value} {s : Shared}, s.TypeIs o T → typeLookup (.type T) "__getitem__" = pure (some (.builtin id)) → ∀ {i : Value}, wpAny (model C.prog C.w) A (getItem o i) P E s →
   wpAny (model C.prog C.w) A ((getitemInPython o >>= fun b => subscripted (.Slice lower upper Option.none p) b o i) >>= fun r => letTemporaryGo value o r >>= fun _ => pure r) P E s := fun {T id o s} hT hl {i} hg => by
  refine wpAny_bind (wpAny_bind ?_)
  rw [getitemInPython_of_ne hT.not_modules]
  refine wpAny_bind (wpAny_specialOf hT hl (wpAny_pure ?_))
  show wpAny _ A (operate [i, o] (getItem o i)) _ _ _
  exact wpAny_operating (wpAny_mono hg (fun r s' hr => wpAny_bind (wpAny_letTemporaryGo (wpAny_pure hr))) fun _ _ x => x)
 have fin : ∀ {o i : Value} {s : Shared}, wpAny (model C.prog C.w) A ((getitemInPython o >>= fun b => subscripted (.Slice lower upper Option.none p) b o i) >>= fun r => letTemporaryGo value o r >>= fun _ => pure r) P E s →
   wpAny (model C.prog C.w) A (getitemInPython o >>= fun b => subscripted (.Slice lower upper Option.none p) b o i >>= fun r => letTemporaryGo value o r >>= fun _ => pure r) P E s := fun h => by rwa [bind_assoc] at h
 have pick : ∀ (ws : List Value), slicePick ws.toArray lo hi Option.none = (pyCut ws lo hi).toArray := fun ws => by
  rw [slicePick_plain]; simp [pyCut, clip]
 have lists : ∀ (a : Addr) (vs : List V) (ws : List Value), s₃.heap.IsList a ws.toArray → VRels C.aS s₃.heap vs ws → vs.length ≤ 16777216 → newL (pyCut vs lo hi) σ₃ Q →
   wpAny (model C.prog C.w) A (getitemInPython (.ref a) >>= fun b => subscripted (.Slice lower upper Option.none p) b (.ref a) (.ref s₃.heap.objs.size) >>= fun r => letTemporaryGo value (.ref a) r >>= fun _ => pure r) P E { s₃ with heap := s₃.heap.push { cls := .type "slice", data := .fields #[partValue pl, partValue pu, .none] } } := fun a vs ws hla hvs hz qn => by
  refine fin (go (hla.push _).typeIs slot_list_getitem.lookup (wpAny_getItem_list_slice (lo := lo) (hi := hi) (st := Option.none) (hla.push _) (Heap.IsSliceOf.new ..) (el ▸ part pl) (eu ▸ part pu) .none (by simp) ?_ (by rw [List.size_toArray, ← hvs.length, sizeLine_eq]; exact hz)))
  rw [pick]
  have hn := size_none (s₃.heap.push { cls := .type "slice", data := .fields #[partValue pl, partValue pu, .none] })
  refine hP _ _ (upd σ₃ _ (.list (pyCut vs lo hi))) _ (.ref _) (Rs.add (tk := s₃.toks) push_old hn ⟨Nat.le_trans (cut_len vs lo hi) hz, pyCut ws lo hi, ⟨_, Heap.get?_push_size _ rfl⟩, ?_⟩) ((S₁₃.trans .push).trans .addPush) (qn _ (Rs.freshNone hn))
  have := (hvs.cut (clip vs.length lo hi).1 (clip vs.length lo hi).2).keep (h' := (s₃.heap.push { cls := .type "slice", data := .fields #[partValue pl, partValue pu, .none] }).push { cls := .type "list", data := .seq (pyCut ws lo hi).toArray }) fun _ _ e _ => push_old _ _ (push_old _ _ e)
  have e2 : pyCut ws lo hi = (ws.drop (clip vs.length lo hi).1).take (clip vs.length lo hi).2 := by unfold pyCut; rw [hvs.length]
  rw [← e2] at this
  exact this
 show wpAny _ A (getitemInPython w >>= fun b => subscripted (.Slice lower upper Option.none p) b w (.ref s₃.heap.objs.size) >>= fun r => letTemporaryGo value w r >>= fun _ => pure r) P E _
 cases va₃ with
 | none => exact q₃.elim
 | bool => exact q₃.elim
 | int => exact q₃.elim
 | ty => exact q₃.elim
 | tup => exact q₃.elim
 | script =>
  obtain ⟨ws, h1, h2, h3⟩ := O.script
  have hl : s₃.heap.IsList C.aS ws.toList.toArray := by simpa using (h1.at fun o e => R₃.base _ _ e)
  have hvs : VRels C.aS s₃.heap (C.ns.map .int) ws.toList := by
   have : ∀ (ns : List Int) (l : List Value), l.length = ns.length → (∀ (i : Nat) n, ns[i]? = Option.some n → ∃ t, l[i]? = Option.some (Value.int n t)) → VRels C.aS s₃.heap (ns.map .int) l := by
    intro ns
    induction ns with
    | nil => intro l hl _; cases l with | nil => exact .nil | cons => simp at hl
    | cons n r ih => intro l hl h; cases l with
     | nil => simp at hl
     | cons w r' =>
      obtain ⟨t, ht⟩ := h 0 n rfl
      simp at ht; subst ht
      exact .cons (.int n t) (ih r' (by simpa using hl) fun i n hi => h (i + 1) n (by simpa using hi))
   exact this _ _ h2 h3
  refine lists _ _ _ hl hvs (by have := O.few; simp; exact Nat.le_trans this (by decide)) ?_
  have e : pyCut (C.ns.map V.int) lo hi = (pyCut C.ns lo hi).map .int := by unfold pyCut; simp [List.map_take, List.map_drop]
  rw [e]; exact q₃
 | ref a =>
  obtain ⟨xs, hx, qn⟩ := q₃
  obtain ⟨hz, ws, h1, h2⟩ := R₃.view a _ hx
  exact lists a xs ws h1.isList h2 hz qn
 | str x t =>
  obtain ⟨hx, q₃⟩ := q₃
  refine fin (go (typeIs_str _ x t) _root_.PySem.F.slot_str_getitem.lookup (wpAny_getItem_str_slice (l := pl) (u := pu) (st := Option.none) ⟨_, Heap.get?_push_size _ rfl, rfl, rfl⟩ rfl ?_))
  have e1 : slicePicked x pl pu Option.none = Builtin.Str.strSliceIndices lo hi 1 x.length := by unfold slicePicked; rw [el, eu]; rfl
  have e2 := strCut x lo hi
  unfold sliceMade
  rw [e1, e2]
  have res : ∀ t' tk, P (.str ⟨(pyCut x.cps.toList lo hi).toArray⟩ t') { s₃ with heap := s₃.heap.push { cls := .type "slice", data := .fields #[partValue pl, partValue pu, .none] }, toks := tk } := fun t' tk =>
   hP _ _ σ₃ _ (.str _ _) (R₃.grow push_old) (S₁₃.trans .push) q₃
  split
  ·rename_i hc
   have hlen : (Builtin.Str.strSliceIndices lo hi 1 x.length).length = x.length := by simpa using hc
   have : (⟨(pyCut x.cps.toList lo hi).toArray⟩ : Str) = x := by
    have hh : (pyCut x.cps.toList lo hi) = x.cps.toList := by
     have l1 : (pyCut x.cps.toList lo hi).length = x.cps.toList.length := by
      have e : Builtin.Str.strSliceIndices lo hi 1 x.length = sliceRange ((lo.elim 0 (clipAt x.length) : Nat) : Int) ((hi.elim x.length (clipAt x.length) : Nat) : Int) 1 := by
       unfold Builtin.Str.strSliceIndices
       cases lo <;> cases hi <;> simp [clipAt_cast]
      rw [e, sliceRange_one] at hlen
      simp at hlen
      unfold pyCut clip
      have hxl : x.cps.toList.length = x.length := by simp [Str.length]
      rw [List.length_take, List.length_drop, hxl]
      dsimp only
      have hle : hi.elim x.length (clipAt x.length) ≤ x.length := by
       cases hi with
       | none => exact Nat.le_refl _
       | some i =>
        have := clipAt_cast x.length i
        simp only [Option.elim]
        omega
      omega
     unfold pyCut at l1 ⊢
     rw [List.length_take, List.length_drop] at l1
     have a0 : (clip x.cps.toList.length lo hi).1 = 0 ∨ x.cps.toList.length = 0 := by omega
     rcases a0 with a0 | a0
     ·rw [a0] at l1 ⊢; rw [List.drop_zero]; exact List.take_of_length_le (by exact Nat.le_of_not_lt fun hg => lin [(x.length), (min (clip x.cps.toList.length lo hi).snd (x.cps.toList.length - 0)), ((clip x.cps.toList.length lo hi).snd)] [(1, (.v 0), (.v 1)), (1, (.v 1), (.v 2)), (1, (.a (.v 2) (.n 1)), (.v 0))] rfl (Nat.le_of_eq (Eq.symm l1)) (Nat.min_le_left ((clip x.cps.toList.length lo hi).snd) (x.cps.toList.length - 0)) hg)
     ·have : x.cps.toList = [] := List.length_eq_zero_iff.mp a0
      rw [this]; simp
    rw [hh]
   have r := res t s₃.toks
   rw [this] at r
   exact r
  ·refine ⟨?_, res _ _⟩
   show (pyCut x.cps.toList lo hi).toArray.size ≤ sizeLine
   rw [List.size_toArray, sizeLine_eq]
   have := cut_len x.cps.toList lo hi
   have hxl : x.cps.toList.length = x.length := by simp [Str.length]
   omega
end
end Mine
end
noncomputable section
namespace Mine
open PySem
section
variable {C : Cx} {sc : Scope} {k : Nat}
noncomputable def eMeth (ty : V → View → Prop) (op : Spec) (T : ET) (L : LT) : ET := fun m σ Q => T m σ fun o σ₁ => ty o σ₁ ∧ L m σ₁ fun vs σ₂ => op (o :: vs) σ₂ Q
noncomputable def TyOk (C : Cx) (T : String) (ty : V → View → Prop) : Prop := ∀ (o : V) (wo : Value) (σ : View) (s : Shared), RelG C σ s → VRel C.aS s.heap o wo → ty o σ → s.TypeIs wo T ∧ ∀ a, wo = .ref a → ∃ ob, s.heap.get? a = some ob ∧ ob.dict = Option.none
theorem HE.meth {T id : String} {name : Str} {o : Expr} {apos pos : Pos} {es : List Expr} {ty : V → View → Prop} {op : Spec} {To : ET} {L : LT} (hty : TyOk C T ty) (pa : PlainAttrs T) (slot : Slot T name id) (hmd : typeOf (.builtin id) = pure (.type "method_descriptor"))
  (hop : OpN C k (fun ws => PySem.call (.builtin id) ws) op) (ho : HE C sc k o To) (hl : HL C sc k es L) (hp : plainArgs es = true)
  (hbase : ∀ env, attributeBase o name env (eval o env) = eval o env) (hline : (apos.endLine == pos.line) = true) (hfew : es.length < 30) : HE C sc k (.Call (.Attribute o name apos) es [] pos) (eMeth ty op To L) := by
 refine ⟨?_⟩; intro env A s m σ Q P E en ao R F q hP
 have hall : (backTo pos (starEach es env)).all (fun x => !x.1) = true := by
  have := starEach_any (env := env) (pos := pos) hp
  rw [List.any_eq_false] at this
  rw [List.all_eq_true]
  intro x hx
  have := this x hx
  simp at this
  simp [this]
 refine wpAny_Call_method (hbase env) (by rw [hall]; simp [backToKw, keywordEach]; exact hfew) hline pa slot hmd ?_
 refine ho.run env A s m σ _ _ E en ao R F q fun v w σ₁ s₁ hv R₁ S₁ q₁ => ?_
 obtain ⟨h1, h2⟩ := hty v w σ₁ s₁ R₁ hv q₁.1
 refine ⟨h1, h2, Calls.callWith_builtin (starEach_any hp) (evalArgs_of hp (hl.run env A s₁ m σ₁ pos _ _ E en ao R₁ (F.step R S₁) q₁.2 fun vs ws σ₂ s₂ hvs R₂ S₂ q₂ => ?_))⟩
 exact hop A s₂ σ₂ (v :: vs) (w :: ws) Q P E ao R₂ (.cons (hv.keep (S₂.tupsN R₁)) hvs) q₂ fun v' w' σ' s' hv' R' S' q' => hP v' w' σ' s' hv' R' ((S₁.trans S₂).trans S') q'
noncomputable def tyStr : V → View → Prop
 | .str _, _ => True
 | _, _ => False
theorem tyStr_ok : TyOk C "str" tyStr := by
 intro o wo σ s R hv h
 cases hv <;> first | exact h.elim | skip
 exact ⟨typeIs_str _ _ _, fun a e => by cases e⟩
noncomputable def tyList : V → View → Prop
 | .ref a, σ => ∃ xs, σ a = some (.list xs)
 | _, _ => False
theorem tyList_ok : TyOk C "list" tyList := by
 intro o wo σ s R hv h
 cases hv <;> first | exact h.elim | skip
 obtain ⟨xs, hx⟩ := h
 obtain ⟨_, ws, h1, h2⟩ := R.view _ _ hx
 refine ⟨h1.isList.typeIs, fun b e => ?_⟩
 cases e
 obtain ⟨n, hn⟩ := h1
 exact ⟨_, hn, rfl⟩
theorem VRels.inv1 {aS : Addr} {h : Heap} {a : V} {ws : List Value} (x : VRels aS h [a] ws) : ∃ wa, ws = [wa] ∧ VRel aS h a wa := by
 cases x with
 | cons h1 r => cases r; exact ⟨_, rfl, h1⟩
theorem VRels.inv2 {aS : Addr} {h : Heap} {a b : V} {ws : List Value} (x : VRels aS h [a, b] ws) : ∃ wa wb, ws = [wa, wb] ∧ VRel aS h a wa ∧ VRel aS h b wb := by
 cases x with
 | cons h1 r => obtain ⟨wb, rfl, h2⟩ := r.inv1; exact ⟨_, _, rfl, h1, h2⟩
noncomputable def spStarts : Spec
 | [.str x, .str y], σ, Q => Q (.bool (Txt.startswith x y)) σ
 | _, _, _ => False
theorem ok_starts : OpN C k (fun ws => PySem.call (.builtin "str.startswith") ws) spStarts := by
 intro A s σ vs ws Q P E ao R hv q hP
 unfold spStarts at q
 split at q
 ·obtain ⟨wa, wb, rfl, h1, h2⟩ := hv.inv2
  cases h1; cases h2
  exact SC.startswith (hP _ _ σ s (.bool _) R Step.refl q)
 ·exact q.elim
theorem strs_of {aS : Addr} {h : Heap} : ∀ {ys : List Str} {ws : List Value}, VRels aS h (ys.map .str) ws → ∃ l : List (Str × Tok), ws = strValues l ∧ l.map (·.1) = ys
 | [], _, r => ⟨[], r.inv0, rfl⟩
 | y :: ys, _, r => by
  obtain ⟨w, ws, rfl, h1, r2⟩ := r.invC
  obtain ⟨t, rfl⟩ := h1.invStr
  obtain ⟨l, rfl, rfl⟩ := strs_of r2
  exact ⟨(y, t) :: l, rfl, rfl⟩
theorem strs_rel {aS : Addr} {h : Heap} : ∀ (l : List (Str × Tok)), VRels aS h ((l.map (·.1)).map .str) (strValues l)
 | [] => .nil
 | (x, t) :: l => .cons (.str x t) (strs_rel l)
noncomputable def spJoin : Spec
 | [.str x, .ref a], σ, Q => ∃ ys : List Str, σ a = some (.list (ys.map .str)) ∧ (ys.map (·.length)).sum + ys.length * x.length ≤ 16777216 ∧ Q (.str (Str.join x ys)) σ
 | _, _, _ => False
theorem foldl_len (x : Str) : ∀ (l : List Str) (n : Nat), l.foldl (fun a y => a + y.length + x.length) n = n + (l.map (·.length)).sum + l.length * x.length
 | [], n => by simp
 | y :: r, n => by
  rw [List.foldl_cons, foldl_len x r]
  simp [Nat.add_mul]; exact Nat.le_antisymm (Nat.le_of_not_lt fun hg => lin [n, (y.length), (x.length), ((List.map (fun x => x.length) r).sum), (r.length * x.length)] [(1, (.a (.a (.a (.v 0) (.a (.v 1) (.v 3))) (.a (.v 4) (.v 2))) (.n 1)), (.a (.a (.a (.a (.v 0) (.v 1)) (.v 2)) (.v 3)) (.v 4)))] rfl hg) (Nat.le_of_not_lt fun hg => lin [n, (y.length), (x.length), ((List.map (fun x => x.length) r).sum), (r.length * x.length)] [(1, (.a (.a (.a (.a (.a (.v 0) (.v 1)) (.v 2)) (.v 3)) (.v 4)) (.n 1)), (.a (.a (.v 0) (.a (.v 1) (.v 3))) (.a (.v 4) (.v 2))))] rfl hg)
theorem glued_join (x : Str) : ∀ ys : List Str, Builtin.Str.glued x ys = Str.join x ys := by
 have key : ∀ (r : List Str) (acc : Array Nat), (⟨r.foldl (fun acc p => acc ++ x.cps ++ p.cps) acc⟩ : Str) = match r with | [] => ⟨acc⟩ | _ => (⟨acc⟩ : Str) ++ x ++ Str.join x r := by
  intro r
  induction r with
  | nil => intro acc; rfl
  | cons y r ih =>
   intro acc
   rw [List.foldl_cons, ih]
   cases r with
   | nil => rfl
   | cons z r =>
    show (⟨acc ++ x.cps ++ y.cps⟩ : Str) ++ x ++ Str.join x (z :: r) = (⟨acc⟩ : Str) ++ x ++ (y ++ x ++ Str.join x (z :: r))
    have : ∀ a b : Str, a ++ b = ⟨a.cps ++ b.cps⟩ := fun _ _ => rfl
    simp only [this, Array.append_assoc]
 intro ys
 cases ys with
 | nil => rfl
 | cons y r =>
  unfold Builtin.Str.glued
  simp only [List.drop_one, List.tail_cons, List.headD_cons]
  rw [key]
  cases r with
  | nil => rfl
  | cons z r => rfl
theorem ok_join : OpN C k (fun ws => PySem.call (.builtin "str.join") ws) spJoin := by
 intro A s σ vs ws Q P E ao R hv q hP
 unfold spJoin at q
 split at q
 ·rename_i x a
  obtain ⟨wa, wb, rfl, h1, h2⟩ := hv.inv2
  cases h1; cases h2
  obtain ⟨ys, hy, hl, q⟩ := q
  obtain ⟨_, ws, h3, h4⟩ := R.view a _ hy
  obtain ⟨l, rfl, e⟩ := strs_of h4
  refine SC.join (texts := ys) h3.isList e ?_ fun t' tk => ?_
  ·unfold JoinOk Builtin.Str.tooLong
   rw [← Array.foldl_toList, foldl_len]
   rw [sizeLine_eq]
   simp
   exact hl
  ·have : Txt.join x ys = Str.join x ys := glued_join x ys
   rw [this]
   exact hP _ _ σ _ (.str _ _) (R.tok _) Step.refl q
 ·exact q.elim
noncomputable def spSplit : Spec
 | [.str x, .str y], σ, Q => (y.length = 1 ∧ x.length ≤ 1048576) ∧ newL ((Txt.split x y).map .str) σ Q
 | _, _, _ => False
theorem push_list {A : Around} {s : Shared} {σ : View} {xs : List V} {ws : List Value} {tk : Nat} {Q : V → View → Prop} {P : Value → Shared → Prop} (R : RelG C σ s) (hv : VRels C.aS s.heap xs ws) (hz : xs.length ≤ 16777216) (q : newL xs σ Q) (hP : Aft C σ s Q P) :
  P (.ref s.heap.objs.size) { s with heap := s.heap.push { cls := .type "list", data := .seq ws.toArray }, toks := tk } := by
 have hn := size_none s.heap
 exact hP _ _ (upd σ s.heap.objs.size (.list xs)) _ (.ref _) (R.add (tk := tk) push_old hn ⟨hz, ws, ⟨_, Heap.get?_push_size _ rfl⟩, hv.keep fun _ _ e _ => push_old _ _ e⟩) .addPush (q _ (R.freshNone hn))
theorem ok_split : OpN C k (fun ws => PySem.call (.builtin "str.split") ws) spSplit := by
 intro A s σ vs ws Q P E ao R hv q hP
 unfold spSplit at q
 split at q
 ·rename_i x y
  obtain ⟨wa, wb, rfl, h1, h2⟩ := hv.inv2
  cases h1 with | str _ t => cases h2 with | str _ u =>
  obtain ⟨⟨hy, hx⟩, q⟩ := q
  have hy0 : (y.length == 0) = false := by simp [hy]
  have hsz : (Builtin.Str.partsBetween x (Builtin.Str.occurrences x y 0 x.length (x.length + 1)) y.length).length ≤ 1048578 := by
   rw [length_partsBetween]
   have := StrLaws.occ_length_le x y 0 x.length (x.length + 1)
   omega
  have single : Txt.split x y = [x] → P (.ref s.heap.objs.size) { s with heap := s.heap.push { cls := .type "list", data := .seq [Value.str x t].toArray } } := fun e => by
   rw [e] at q
   exact push_list (A := A) (tk := s.toks) R (.cons (.str x t) .nil) (by simp) q hP
  cases h1 : (decide (x.length < y.length) || decide (Builtin.Str.strKind x < Builtin.Str.strKind y))
  ·cases hf : (Builtin.Str.occurrences x y 0 x.length (x.length + 1)).isEmpty
   ·refine call_meets _root_.PySem.F.slot_str_split (typeIs_str _ _ _) _root_.PySem.F.entry_str_split (_root_.PySem.F.args_str_split_2 _ _) (meets_str_split_sep x y t u h1 hy0 hf (by rw [sizeLine_eq]; exact Nat.le_trans hx (by decide)) (by rw [sizeLine_eq]; exact Nat.le_trans hsz (by decide))) ?_
    have e : Txt.split x y = Builtin.Str.partsBetween x (Builtin.Str.occurrences x y 0 x.length (x.length + 1)) y.length := by unfold Txt.split; rw [h1, hf]; rfl
    rw [e] at q
    show wants P E _ { s with toks := _, heap := s.heap.push { cls := .type "list", data := .seq (strsFrom s.toks (Builtin.Str.partsBetween x (Builtin.Str.occurrences x y 0 x.length (x.length + 1)) y.length)).toArray } }
    rw [strsFrom_eq]
    refine push_list (A := A) R ?_ (by rw [List.length_map]; exact Nat.le_trans hsz (by decide)) q hP
    have := strs_rel (aS := C.aS) (h := s.heap) (numbered s.toks (Builtin.Str.partsBetween x (Builtin.Str.occurrences x y 0 x.length (x.length + 1)) y.length))
    rw [numbered_texts] at this
    exact this
   ·exact call_meets _root_.PySem.F.slot_str_split (typeIs_str _ _ _) _root_.PySem.F.entry_str_split (_root_.PySem.F.args_str_split_2 _ _) (meets_str_split_not_found x y t u h1 hy0 hf) (single (by unfold Txt.split; rw [h1, hf]; rfl))
  ·exact call_meets _root_.PySem.F.slot_str_split (typeIs_str _ _ _) _root_.PySem.F.entry_str_split (_root_.PySem.F.args_str_split_2 _ _) (meets_str_split_cannot_occur x y t u h1) (single (by unfold Txt.split; rw [h1]; rfl))
 ·exact q.elim
noncomputable def lenRef (σ : View) (Q : V → View → Prop) : Option AObj → Prop
 | some (.list xs) => Q (.int xs.length) σ
 | some (.dict kvs _) => Q (.int kvs.length) σ
 | some (.idict kvs _) => Q (.int kvs.length) σ
 | _ => False
noncomputable def spLen (ns : List Int) : Spec
 | [.str x], σ, Q => x.length ≤ 16777216 ∧ Q (.int x.length) σ
 | [.ref a], σ, Q => lenRef σ Q (σ a)
 | [.tup vs], σ, Q => vs.length ≤ 16777216 ∧ Q (.int vs.length) σ
 | [.script], σ, Q => Q (.int ns.length) σ
 | _, _, _ => False
theorem big63 {n : Nat} (h : n ≤ 16777216) : (n : Int) < 2 ^ 63 := by omega
theorem ok_len (O : C.Ok) : OpN C k (fun ws => PySem.call (.builtin "len") ws) (spLen C.ns) := by
 intro A s σ vs ws Q P E ao R hv q hP
 cases vs with
 | nil => exact (show False from q).elim
 | cons v r =>
 cases r with
 | cons u r => cases v <;> exact (show False from q).elim
 | nil =>
 obtain ⟨wa, rfl, h1⟩ := hv.inv1
 have fin : ∀ (n : Int) (t tk : Tok), Q (.int n) σ → P (.int n t) { s with toks := tk } := fun n t tk q => hP _ _ σ _ (.int _ _) (R.tok _) Step.refl q
 clear hP
 cases h1 with
 | str x t => exact _root_.PySem.P.len_str (Int.not_le.mpr (big63 q.1)) (fin _ _ _ q.2)
 | ref a =>
  have q : lenRef σ Q (σ a) := q
  cases hx : σ a with
  | none => rw [hx] at q; exact q.elim
  | some o =>
   rw [hx] at q
   cases o with
   | list xs =>
    obtain ⟨hz, ws, h1, h2⟩ := R.view _ _ hx
    have e := h2.length
    refine Calls.call_len_list h1.isList (by rw [List.size_toArray, ← e]; exact big63 hz) ?_
    rw [List.size_toArray, ← e]
    exact fin _ _ _ q
   | dict kvs ep =>
    obtain ⟨hz, ws, h1, h2⟩ := R.view _ _ hx
    have e := h2.length
    refine call_len_dict (O.noMods (R.apart _ (by rw [hx]; simp))) h1.dictOf (by rw [← e]; omega) ?_
    rw [← e]
    exact fin _ _ _ q
   | idict kvs ep =>
    obtain ⟨hz, ws, h1, h2⟩ := R.view _ _ hx
    have e := h2.length
    refine call_len_dict (O.noMods (R.apart _ (by rw [hx]; simp))) h1.dictOf (by rw [← e]; omega) ?_
    rw [← e]
    exact fin _ _ _ q
   | _ => exact (show False from q).elim
 | @tup vs a ws ht hvs =>
  have e := hvs.length
  refine PyProof.Rows.len_tuple (show PyProof.Rows.IsTup s.heap a ws.toArray from ht) (by rw [List.size_toArray, ← e]; exact big63 q.1) ?_
  rw [List.size_toArray, ← e]
  exact fin _ _ _ q.2
 | script =>
  obtain ⟨ws, h1, h2, h3⟩ := O.script
  have hl : s.heap.IsList C.aS ws := h1.at fun o e => R.base _ _ e
  have e : (ws.size : Int) = C.ns.length := by rw [← h2]; simp
  refine Calls.call_len_list hl (by rw [e]; have := O.few; omega) ?_
  rw [e]
  exact fin _ _ _ q
 | _ => exact (show False from q).elim
noncomputable def isi : V → View → String → Option Bool
 | .bool _, _, T => if T = "bool" then some true else if T = "int" then some true else if T ∈ ["str", "list", "dict", "tuple"] then some false else Option.none
 | .int _, _, T => if T = "int" then some true else if T ∈ ["bool", "str", "list", "dict", "tuple"] then some false else Option.none
 | .str _, _, T => if T = "str" then some true else if T ∈ ["bool", "int", "list", "dict", "tuple"] then some false else Option.none
 | .tup _, _, T => if T = "tuple" then some true else if T ∈ ["bool", "int", "list", "dict", "str"] then some false else Option.none
 | .ref a, σ, T => match σ a with
  | some (.list _) => if T = "list" then some true else if T ∈ ["bool", "int", "tuple", "dict", "str"] then some false else Option.none
  | some (.dict _ _) => if T = "dict" then some true else if T ∈ ["bool", "int", "tuple", "list", "str"] then some false else Option.none
  | _ => Option.none
 | _, _, _ => Option.none
noncomputable def spIsi : Spec
 | [v, .ty T], σ, Q => ∃ r, isi v σ T = some r ∧ Q (.bool r) σ
 | _, _, _ => False
theorem all5 {M : String → Prop} {a b c d e : String} (h1 : M a) (h2 : M b) (h3 : M c) (h4 : M d) (h5 : M e) : ∀ T ∈ [a, b, c, d, e], M T := by
 intro T h
 simp only [List.mem_cons, List.not_mem_nil, or_false] at h
 rcases h with rfl | rfl | rfl | rfl | rfl <;> assumption
theorem all4 {M : String → Prop} {a b c d : String} (h1 : M a) (h2 : M b) (h3 : M c) (h4 : M d) : ∀ T ∈ [a, b, c, d], M T := by
 intro T h
 simp only [List.mem_cons, List.not_mem_nil, or_false] at h
 rcases h with rfl | rfl | rfl | rfl <;> assumption
theorem isi_kind {M : String → Prop} {r : Bool} {T t : String} {l : List String} (hr : (if T = t then some true else if T ∈ l then some false else Option.none) = some r) (h1 : r = true → M t) (h2 : r = false → ∀ T ∈ l, M T) : M T := by
 split at hr
 ·rename_i e; cases hr; rw [e]; exact h1 rfl
 ·split at hr
  ·rename_i e; cases hr; exact h2 rfl T e
  ·cases hr
theorem isi_kind2 {M : String → Prop} {r : Bool} {T t u : String} {l : List String} (hr : (if T = t then some true else if T = u then some true else if T ∈ l then some false else Option.none) = some r) (h1 : r = true → M t) (h3 : r = true → M u) (h2 : r = false → ∀ T ∈ l, M T) : M T := by
 split at hr
 ·rename_i e; cases hr; rw [e]; exact h1 rfl
 ·exact isi_kind hr h3 h2
theorem ok_isi : OpN C k (fun ws => PySem.call (.builtin "isinstance") ws) spIsi := by
 intro A s σ vs ws Q P E ao R hv q hP
 unfold spIsi at q
 split at q
 ·rename_i v T
  obtain ⟨wa, wb, rfl, h1, h2⟩ := hv.inv2
  cases h2
  obtain ⟨r, hr, q⟩ := q
  have p0 : r = true → P (.bool true) s := fun e => hP _ _ σ _ (.bool true) R Step.refl (e ▸ q)
  have p1 : r = false → P (.bool false) { s with toks := s.toks + 1 } := fun e => hP _ _ σ _ (.bool false) (R.tok _) Step.refl (e ▸ q)
  unfold isi at hr
  split at hr
  ·cases h1
   refine isi_kind2 (M := fun T => wpAny (model C.prog C.w) A (PySem.call (.builtin "isinstance") [_, .type T]) P E s) hr ?_ ?_ ?_
   ·intro e; exact IsiPair.bool_bool (p0 e)
   ·intro e; exact IsiPair.bool_int (p0 e)
   ·intro e; refine all4 ?_ ?_ ?_ ?_
    ·exact IsiPair.bool_str (p1 e)
    ·exact IsiPair.bool_list (p1 e)
    ·exact IsiPair.bool_dict (p1 e)
    ·exact IsiPair.bool_tuple (p1 e)
  ·cases h1
   refine isi_kind (M := fun T => wpAny (model C.prog C.w) A (PySem.call (.builtin "isinstance") [_, .type T]) P E s) hr ?_ ?_
   ·intro e; exact IsiPair.int_int (p0 e)
   ·intro e; refine all5 ?_ ?_ ?_ ?_ ?_
    ·exact IsiPair.int_bool (p1 e)
    ·exact IsiPair.int_str (p1 e)
    ·exact IsiPair.int_list (p1 e)
    ·exact IsiPair.int_dict (p1 e)
    ·exact IsiPair.int_tuple (p1 e)
  ·cases h1
   refine isi_kind (M := fun T => wpAny (model C.prog C.w) A (PySem.call (.builtin "isinstance") [_, .type T]) P E s) hr ?_ ?_
   ·intro e; exact IsiPair.str_str (p0 e)
   ·intro e; refine all5 ?_ ?_ ?_ ?_ ?_
    ·exact IsiPair.str_bool (p1 e)
    ·exact IsiPair.str_int (p1 e)
    ·exact IsiPair.str_list (p1 e)
    ·exact IsiPair.str_dict (p1 e)
    ·exact IsiPair.str_tuple (p1 e)
  ·cases h1 with
   | @tup _ a ws ht hvs =>
   obtain ⟨o, ho, hc, _⟩ := ht
   refine isi_kind (M := fun T => wpAny (model C.prog C.w) A (PySem.call (.builtin "isinstance") [_, .type T]) P E s) hr ?_ ?_
   ·intro e; exact IsiPair.tuple_tuple ho hc (p0 e)
   ·intro e; refine all5 ?_ ?_ ?_ ?_ ?_
    ·exact IsiPair.tuple_bool ho hc (p1 e)
    ·exact IsiPair.tuple_int ho hc (p1 e)
    ·exact IsiPair.tuple_list ho hc (p1 e)
    ·exact IsiPair.tuple_dict ho hc (p1 e)
    ·exact IsiPair.tuple_str ho hc (p1 e)
  ·cases h1
   split at hr
   ·rename_i hx
    obtain ⟨hz, ws, ⟨n, hn⟩, h2⟩ := R.view _ _ hx
    refine isi_kind (M := fun T => wpAny (model C.prog C.w) A (PySem.call (.builtin "isinstance") [_, .type T]) P E s) hr ?_ ?_
    ·intro e; exact IsiPair.list_list hn rfl (p0 e)
    ·intro e; refine all5 ?_ ?_ ?_ ?_ ?_
     ·exact IsiPair.list_bool hn rfl (p1 e)
     ·exact IsiPair.list_int hn rfl (p1 e)
     ·exact IsiPair.list_tuple hn rfl (p1 e)
     ·exact IsiPair.list_dict hn rfl (p1 e)
     ·exact IsiPair.list_str hn rfl (p1 e)
   ·rename_i hx
    obtain ⟨hz, ws, ⟨o, es, hn, hc, _⟩, h2⟩ := R.view _ _ hx
    refine isi_kind (M := fun T => wpAny (model C.prog C.w) A (PySem.call (.builtin "isinstance") [_, .type T]) P E s) hr ?_ ?_
    ·intro e; exact IsiPair.dict_dict hn hc.1 (p0 e)
    ·intro e; refine all5 ?_ ?_ ?_ ?_ ?_
     ·exact IsiPair.dict_bool hn hc.1 (p1 e)
     ·exact IsiPair.dict_int hn hc.1 (p1 e)
     ·exact IsiPair.dict_tuple hn hc.1 (p1 e)
     ·exact IsiPair.dict_list hn hc.1 (p1 e)
     ·exact IsiPair.dict_str hn hc.1 (p1 e)
   ·cases hr
  ·cases hr
 ·exact q.elim
noncomputable def spMin : Spec
 | [.int a, .int b], σ, Q => Q (.int (min a b)) σ
 | _, _, _ => False
noncomputable def spInt : Spec
 | [.bool b], σ, Q => Q (.int (if b then 1 else 0)) σ
 | _, _, _ => False
theorem ok_int : OpN C k (fun ws => PySem.call (.type "int") ws) spInt := by
 intro A s σ vs ws Q P E ao R hv q hP
 unfold spInt at q
 split at q
 ·obtain ⟨wa, rfl, h1⟩ := hv.inv1
  cases h1
  exact call_int_bool (hP _ _ σ _ (.int _ _) (R.tok _) Step.refl q)
 ·exact q.elim
noncomputable def spStr : Spec
 | [.int i], σ, Q => i.natAbs.log2 < 1920 ∧ Q (.str (Str.ofString (toString i))) σ
 | _, _, _ => False
theorem ok_str : OpN C k (fun ws => PySem.call (.type "str") ws) spStr := by
 intro A s σ vs ws Q P E ao R hv q hP
 unfold spStr at q
 split at q
 ·obtain ⟨wa, rfl, h1⟩ := hv.inv1
  cases h1
  exact _root_.PySem.P.str_of_int q.1 (hP _ _ σ _ (.str _ _) (R.tok _) Step.refl q.2)
 ·exact q.elim
end
end Mine
end
noncomputable section
namespace Mine
open PySem
section
variable {C : Cx} {sc : Scope} {k : Nat}
noncomputable def opAdd : O2
 | .int x, .int y, σ, Q => Q (.int (x + y)) σ
 | .str x, .str y, σ, Q => x.length + y.length ≤ 16777216 ∧ Q (.str (x ++ y)) σ
 | .ref a, .ref b, σ, Q => ∃ xs ys, σ a = some (.list xs) ∧ σ b = some (.list ys) ∧ xs.length + ys.length ≤ 16777216 ∧ newL (xs ++ ys) σ Q
 | _, _, _, _ => False
theorem ok_add : Op2 C k (binaryOp .Add) opAdd := by
 intro A s σ a b wa wb Q P E ao R va vb q hP
 cases a <;> first | exact q.elim | skip
 all_goals (cases b <;> first | exact q.elim | skip)
 ·cases va; cases vb
  exact _root_.PySem.P.add_int (hP _ _ σ _ (.int _ _) (R.tok _) Step.refl q)
 ·cases va; cases vb
  exact SB.add (fun t' tk => hP _ _ σ _ (.str _ _) (R.tok _) Step.refl q.2) (by rw [sizeLine_eq]; exact q.1)
 ·rename_i a b
  cases va; cases vb
  obtain ⟨xs, ys, hx, hy, hz, q⟩ := q
  obtain ⟨_, ws, ⟨n, h1⟩, h2⟩ := R.view _ _ hx
  obtain ⟨_, us, ⟨n', h3⟩, h4⟩ := R.view _ _ hy
  have e1 := h2.length
  have e2 := h4.length
  have e : ws.toArray ++ us.toArray = (ws ++ us).toArray := by simp
  refine concat_meets ⟨_, h1, rfl⟩ ⟨_, h3, rfl⟩ noFill_list_add seq_list_add _root_.PySem.F.slot_list_add _root_.PySem.F.entry_list_add (_root_.PySem.F.args_list_add_2 _ _)
   (PyProof.Rows.list_addW a b ws.toArray us.toArray n n' Option.none Option.none #[] #[] (by rw [List.size_toArray, List.size_toArray, sizeLine_eq]; exact Nat.le_of_not_lt fun hg => lin [(xs.length), (ys.length), (ws.length), (us.length)] [(1, (.a (.v 0) (.v 1)), (.n 16777216)), (1, (.v 2), (.v 0)), (1, (.v 3), (.v 1)), (1, (.a (.n 16777216) (.n 1)), (.a (.v 2) (.v 3)))] rfl hz (Nat.le_of_eq (Eq.symm e1)) (Nat.le_of_eq (Eq.symm e2)) hg)) ⟨h1, h3, ?_⟩
  rw [e]
  exact push_list (A := A) (tk := s.toks) R (h2.append h4) (by rw [List.length_append]; exact hz) q hP
noncomputable def all2 (f : V → V → Option Bool) : List V → List V → Option Bool
 | [], [] => some true
 | a :: as, b :: bs => match f a b, all2 f as bs with
  | some x, some y => some (x && y)
  | _, _ => Option.none
 | _, _ => Option.none
theorem eqAt0 {A : Around} {s : Shared} {a b : V} {wa wb : Value} {r : Bool} (h : veq0 a b = some r) (va : VRel C.aS s.heap a wa) (vb : VRel C.aS s.heap b wb) : SeqAt.EqAt A s wa wb r := by
 unfold veq0 at h
 split at h <;> cases h <;> cases va <;> cases vb
 ·exact SeqAt.EqAt.same _
 ·exact SeqAt.EqAt.none_str _ _
 ·exact SeqAt.EqAt.str_none _ _
 ·exact SeqAt.EqAt.bool_bool _ _
 ·rw [← beq_dec]; exact SeqAt.EqAt.int_int _ _ _ _
 ·rw [← beq_dec]; exact SeqAt.EqAt.str_str _ _ _ _
theorem veq0_self {s : Shared} {a b : V} {w : Value} {r : Bool} (h : veq0 a b = some r) (va : VRel C.aS s.heap a w) (vb : VRel C.aS s.heap b w) : r = true := by
 unfold veq0 at h
 split at h <;> cases h <;> cases va <;> cases vb <;> simp
noncomputable def anyEq (x : V) : List V → Option Bool
 | [] => some false
 | y :: r => match veq0 y x, anyEq x r with
  | some a, some b => some (a || b)
  | _, _ => Option.none
noncomputable def eqv : Value → Value → Bool
 | .none, .none => true
 | .bool a, .bool b => a == b
 | .int a _, .int b _ => decide (a = b)
 | .str a _, .str b _ => decide (a = b)
 | _, _ => false
theorem eqv_of {s : Shared} {a b : V} {wa wb : Value} {r : Bool} (h : veq0 a b = some r) (va : VRel C.aS s.heap a wa) (vb : VRel C.aS s.heap b wb) : eqv wa wb = r := by
 unfold veq0 at h
 split at h <;> cases h <;> cases va <;> cases vb <;> rfl
theorem any_rel {s : Shared} {A : Around} {x : V} {wx : Value} (hx : VRel C.aS s.heap x wx) : ∀ {ys : List V} {ws : List Value} {r : Bool}, anyEq x ys = some r → VRels C.aS s.heap ys ws →
  (∀ w ∈ ws, SeqAt.EqAt A s w wx (eqv w wx)) ∧ ws.any (fun w => eqv w wx) = r
 | [], _, r, h, hn => by cases h; rw [hn.inv0]; exact ⟨fun _ hw => (nomatch hw), rfl⟩
 | y :: ys, _, r, h, hc => by
  obtain ⟨w, ws, rfl, hy, hr⟩ := hc.invC
  unfold anyEq at h
  split at h
  ·rename_i a b h1 h2
   cases h
   obtain ⟨i1, i2⟩ := any_rel (A := A) hx h2 hr
   refine ⟨fun w' hw => ?_, ?_⟩
   ·rcases List.mem_cons.mp hw with rfl | hw
    ·rw [eqv_of h1 hy hx]; exact eqAt0 h1 hy hx
    ·exact i1 w' hw
   ·rw [List.any_cons, i2, eqv_of h1 hy hx]
  ·cases h
noncomputable def opInL : O2
 | x, .ref a, σ, Q => ∃ ys r, σ a = some (.list ys) ∧ anyEq x ys = some r ∧ Q (.bool r) σ
 | x, .tup ys, σ, Q => ∃ r, anyEq x ys = some r ∧ Q (.bool r) σ
 | _, _, _, _ => False
theorem ok_inL : Op2 C k (compareOp .In) opInL := by
 intro A s σ a b wa wb Q P E ao R va vb q hP
 cases b <;> first | exact q.elim | skip
 ·cases vb
  obtain ⟨ys, r, hy, hr, q⟩ := q
  obtain ⟨_, ws, h1, h2⟩ := R.view _ _ hy
  obtain ⟨i1, i2⟩ := any_rel (A := A.in1) va hr h2
  refine SeqAt.in_listAt (fun w => eqv w wa) h1.isList (fun y hy => i1 y (by simpa using hy)) ?_
  rw [← Array.any_toList, i2]
  exact hP _ _ σ s (.bool r) R Step.refl q
 ·cases vb with | @tup _ p ws ht hvs =>
  obtain ⟨r, hr, q⟩ := q
  obtain ⟨i1, i2⟩ := any_rel (A := A.in1) va hr hvs
  refine SeqAt.in_tupleAt (fun w => eqv w wa) ht (fun y hy => i1 y (by simpa using hy)) ?_
  rw [← Array.any_toList, i2]
  exact hP _ _ σ s (.bool r) R Step.refl q
noncomputable def spAppend : Spec
 | [.ref a, v], σ, Q => ∃ xs, σ a = some (.list xs) ∧ xs.length < 16777216 ∧ Q .none (upd σ a (.list (xs ++ [v])))
 | _, _, _ => False
theorem ok_append : OpN C k (fun ws => PySem.call (.builtin "list.append") ws) spAppend := by
 intro A s σ vs ws Q P E ao R hv q hP
 unfold spAppend at q
 split at q
 ·rename_i a v
  obtain ⟨wa, wb, rfl, h1, h2⟩ := hv.inv2
  cases h1
  obtain ⟨xs, hx, hz, q⟩ := q
  obtain ⟨_, ws, h3, h4⟩ := R.view _ _ hx
  have e := h4.length
  refine wpAny_list_append_plain h3 (fun h' hp' hs' => ?_) (by rw [List.size_toArray, ← e, sizeLine_eq]; (rename_i zz0; exact zz0))
  obtain ⟨n, hn⟩ := h3
  have kt : TupKeep s.heap h' := fun b o eb ht => hs'.extBut b o (by rintro rfl; rw [hn] at eb; cases eb; simp [IsT] at ht) eb
  refine hP .none .none (upd σ a (.list (xs ++ [v]))) _ .none (R.change (tk := s.toks) hx hs' ⟨by simp; exact Nat.le_of_lt_succ hz, ws ++ [wb], by simpa using hp', (h4.append (.cons h2 .nil)).keep kt⟩) (.change hx hs') q
 ·exact q.elim
noncomputable def sSetItem (op : V → V → V → View → (View → Prop) → Prop) (T To Ti : ET) : ST := fun m σ Q => T m σ fun v σ₁ => To m σ₁ fun o σ₂ => Ti m σ₂ fun i σ₃ => op o i v σ₃ fun σ₄ => Q .next m σ₄
noncomputable def OpSet (C : Cx) (k : Nat) (op : V → V → V → View → (View → Prop) → Prop) : Prop :=
 ∀ (A : Around) (s : Shared) (σ : View) (o i v : V) (wo wi w : Value) (Q : View → Prop) (P : Unit → Shared → Prop) (E : Value → Shared → Prop), AOk C A k → RelG C σ s → VRel C.aS s.heap o wo → VRel C.aS s.heap i wi → VRel C.aS s.heap v w → op o i v σ Q →
  (∀ σ' s', RelG C σ' s' → Step no σ σ' s.heap s'.heap → Q σ' → P () s') → wpAny (model C.prog C.w) A (setItem wo wi w) P E s
theorem HS1.setItem {o i value : Expr} {p pos : Pos} {op : V → V → V → View → (View → Prop) → Prop} {T To Ti : ET} (hop : OpSet C k op) (hv : HE C sc k value T) (ho : HE C sc k o To) (hi : HE C sc k i Ti)
  (hs : ∀ env, EnvOk env sc → swapsWith value (some (.Subscript o i p)) pos.line env = pure false) : HS1 C sc k (.Assign [.Subscript o i p] value pos) (sSetItem op T To Ti) := by
 refine ⟨?_⟩; intro env A s m σ Q P E en ao R F q hP
 refine wpAny_Assign_Subscript (hv.run env A s m σ _ _ E en ao R F q fun v w σ₁ s₁ v1 R₁ S₁ q₁ => ?_) (hs env en)
 have F₁ := F.step R S₁
 refine ho.run env A s₁ m σ₁ _ _ E en ao R₁ F₁ q₁ fun o wo σ₂ s₂ v2 R₂ S₂ q₂ => ?_
 have F₂ := F₁.step R₁ S₂
 refine hi.run env A s₂ m σ₂ _ _ E en ao R₂ F₂ q₂ fun i wi σ₃ s₃ v3 R₃ S₃ q₃ => ?_
 have F₃ := F₂.step R₂ S₃
 have k₂ := S₂.tupsN R₁
 have k₃ := S₃.tupsN R₂
 refine hop A s₃ σ₃ o i v wo wi w _ _ E ao R₃ (v2.keep k₃) v3 ((v1.keep k₂).keep k₃) q₃ fun σ₄ s₄ R₄ S₄ q₄ => ?_
 have S := ((S₁.trans S₂).trans S₃).trans S₄
 exact hP .next .next m σ₄ s₄ .next R₄ (F.step R S) S.own q₄
noncomputable def namesAt (l : List (String × Pos)) : List Expr := l.map fun p => Expr.Name (Str.ofString p.1) p.2
theorem each_cons (p : String × Pos) (l : List (String × Pos)) (env : Env) : assignEach (namesAt (p :: l)) env = (false, assign (.Name (Str.ofString p.1) p.2) env) :: assignEach (namesAt l) env := rfl
theorem each_len (env : Env) : ∀ (l : List (String × Pos)), (assignEach (namesAt l) env).length = l.length ∧ (assignEach (namesAt l) env).findIdx? (·.1) = Option.none
 | [] => ⟨rfl, rfl⟩
 | p :: r => by
  rw [each_cons]
  refine ⟨by simp [(each_len env r).1], ?_⟩
  rw [List.findIdx?_cons]
  simp [(each_len env r).2]
theorem FrameRel.grow {env : Env} {m : Loc} {σ : View} {h h' : Heap} (F : FrameRel C env m σ h) (keep : ∀ b o, h.get? b = some o → h'.get? b = some o) : FrameRel C env m σ h' := by
 have kt : TupKeep h h' := fun b o e _ => keep b o e
 have kc : ∀ c v, h.IsCell c v → h'.IsCell c v := fun c v ⟨o, ho, hd⟩ => ⟨o, keep c o ho, hd⟩
 obtain ⟨mm, hn, hv⟩ := F.ns
 refine ⟨⟨mm, hn.keeps keep, fun x v e k => ?_⟩, fun x v e => ?_, fun n c e => ?_, F.sepL, F.baseL, F.baseC, F.dist, F.has⟩
 ·obtain ⟨w, h1, h2⟩ := hv x v e k; exact ⟨w, h1, h2.keep kt⟩
 ·rcases F.cel x v e with q | ⟨q, c, w, h1, h2, h3⟩
  ·exact .inl q
  ·exact .inr ⟨q, c, w, h1, kc _ _ h2, h3.keep kt⟩
 ·obtain ⟨v, hv⟩ := F.cells n c e; exact ⟨v, kc _ _ hv⟩
end
end Mine
end
noncomputable section
namespace Mine
open PySem PySem.W PyProof.Rows PySem.Calls
noncomputable def bodyAt (p : Program) (n : Nat) : List Stmt := match p.main.body[n]? with | some (.FunctionDef _ _ b _ _ _ _ _ _ _) => b | _ => []
noncomputable def scopeAt (p : Program) (n : Nat) : Scope := match p.main.body[n]? with | some (.FunctionDef _ _ _ _ _ _ s _ _ _) => s | _ => default
noncomputable def parsAt (p : Program) (n : Nat) : Arguments := match p.main.body[n]? with | some (.FunctionDef _ a _ _ _ _ _ _ _ _) => a | _ => default
noncomputable def posAt (p : Program) (n : Nat) : Pos := match p.main.body[n]? with | some (.FunctionDef _ _ _ _ _ _ _ _ _ q) => q | _ => default
noncomputable def FnAt (C : Cx) (j : Nat) (f : String) (spec : Spec) : Prop :=
 ∃ a o fd, C.mg (Str.ofString f) = some (.ref a) ∧ C.hB.get? a = some o ∧ o.data = .func fd ∧ FnSound C j a spec
structure Gl (C : Cx) (p : Program) : Prop where
 ok : C.Ok
 mb : ∀ x : Str, x ≠ "__name__" → C.mb x = bootBuiltins x
 free : ∀ x ∈ ["len", "range", "min", "max", "isinstance", "bool", "str", "int", "list", "dict", "set", "sorted", "tuple", "sum", "type"], C.mg (Str.ofString x) = Option.none
 fn : ∀ d ∈ recsOf p, ∃ a o pm code doc, C.mg d.name = some (.ref a) ∧ C.hB.get? a = some o ∧ o.data = .func (docDef d.name d.params d.body d.scope pm code doc) ∧ C.hB.CodeRec code d.name
variable {C : Cx} {p : Program}
theorem Gl.blt (G : Gl C p) {x : String} {v : Value} (h : bootBuiltins (Str.ofString x) = some v) (hx : x ≠ "__name__") : C.mb (Str.ofString x) = some v := by
 rw [G.mb _ (fun e => hx (ofString_inj e)), h]
theorem HE.callAt (G : Gl C p) {sc : Scope} {k : Nat} {f : String} {np pos : Pos} {es : List Expr} {L : LT} {spec : Spec} {j : Nat} (hf : FnAt C j f spec) (hj : j < k)
  (hn : sc.names.lookup (Str.ofString f) = some .globalImplicit) (hdb : (Str.ofString f == ("__debug__" : Str)) = false)
  (hl : HL C sc k es L) (hp : plainArgs es = true) : HE C sc k (.Call (.Name (Str.ofString f) np) es [] pos) (eCall spec L) := by
 obtain ⟨a, o, fd, h1, h2, h3, h4⟩ := hf
 exact HE.call G.ok h4 hj hn h1 h2 h3 hdb hl hp
theorem FnAt.mk (G : Gl C p) (i n : Nat) {f : String} {xs : List String} {j : Nat} {spec : Spec} {T : ST}
  (hm : (recsOf p)[i]? = some ⟨Str.ofString f, parsAt p n, bodyAt p n, scopeAt p n, posAt p n⟩)
  (hk : (scopeAt p n).kind = .function) (hfr : ((scopeAt p n).names.all fun q => q.2 != .free) = true) (hco : (scopeAt p n).isCoroutine = false) (hgen : (scopeAt p n).isGenerator = false)
  (hbind : ∀ (ws : List Value) (pm code doc : Value), ws.length = xs.length → bindArgs (docDef (Str.ofString f) (parsAt p n) (bodyAt p n) (scopeAt p n) pm code doc) ⟨ws, []⟩ = pure ((xs.map Str.ofString).zip ws))
  (hloc : (xs.all fun x => (scopeAt p n).names.lookup (Str.ofString x) == some .local || (scopeAt p n).names.lookup (Str.ofString x) == some .cell) = true)
  (hT : HS C (scopeAt p n) j (bodyAt p n) T)
  (hspec : ∀ vs σ Q, spec vs σ Q → vs.length = xs.length ∧ T (bindM xs vs none') σ fun f _ σ' => match f with | .ret v => Q v σ' | .next => Q .none σ' | _ => False) : FnAt C j f spec := by
 obtain ⟨a, o, pm, code, doc, h1, h2, h3, h4⟩ := G.fn _ (List.mem_of_getElem? hm)
 refine ⟨a, o, _, h1, h2, h3, FnSound.mk G.ok (xs := xs) h2 h3 h4 rfl rfl rfl rfl rfl hk ?_ hco hgen (fun ws hw => hbind ws pm code doc hw) ?_ hT hspec⟩
 ·intro q hq
  have := List.all_eq_true.mp hfr q hq
  simpa using this
 ·intro x hx
  have := List.all_eq_true.mp hloc x hx
  simp only [Bool.or_eq_true, beq_iff_eq] at this
  exact this
theorem ints_get {vs : List Value} {ns : List Int} (h : IntsAre vs ns) : vs.length = ns.length ∧ ∀ (i : Nat) n, ns[i]? = some n → ∃ t, vs[i]? = some (Value.int n t) := by
 induction h with
 | nil => exact ⟨rfl, fun i n e => by simp at e⟩
 | cons a t h ih =>
  refine ⟨by simp [ih.1], fun i n e => ?_⟩
  cases i with
  | zero => simp at e; subst e; exact ⟨_, rfl⟩
  | succ i => simpa using ih.2 i n (by simpa using e)
theorem Cx.ok_of {C : Cx} (hz : C.held = none) {vs : List Value} {loose : List Str} {mean : ExcName → Option Value} (T : Top p loose mean C.mg C.mb C.hB) (hi : importsNone p = true) (hL : C.hB.IsList C.aS vs.toArray) (hI : IntsAre vs C.ns) (hn : ¬ (63 : Int) < (C.ns.length : Int)) : C.Ok where
 g := T.g
 b := T.b
 nolimit := T.nolimit
 mods := by obtain ⟨mm, ⟨o, _, _, ho, _⟩, _⟩ := (T.seer hi).mods; exact ⟨o, ho⟩
 few := by omega
 heldOk := fun e he => by rw [hz] at he; cases he
 script := ⟨_, hL, by simpa using (ints_get hI).1, by simpa using (ints_get hI).2⟩
theorem Gl.of {C : Cx} {loose : List Str} {mean : ExcName → Option Value} (T : Top p loose mean C.mg C.mb C.hB) (ok : C.Ok)
  (hf : (["len", "range", "min", "max", "isinstance", "bool", "str", "int", "list", "dict", "set", "sorted", "tuple", "sum", "type"].all fun x : String => !(startupNames ++ loose ++ (recsOf p).map (·.name) ++ (litsOf p).map (·.1) ++ (clssOf p loose).map (·.name)).contains (Str.ofString x)) = true) : Gl C p where
 ok := ok
 mb := T.builtins
 fn := T.fn
 free := fun x hx => by
  have := List.all_eq_true.mp hf x hx
  simp only [Bool.not_eq_true', List.contains_eq_mem, decide_eq_false_iff_not, List.mem_append, not_or] at this
  obtain ⟨⟨⟨⟨h1, h2⟩, h3⟩, h4⟩, h5⟩ := this
  exact T.free _ h1 h2 h3 h4 h5
end Mine
end
noncomputable section
namespace Mine
open PySem PySem.W PyProof.Rows PySem.Calls
section
variable {C : Cx} {p : Program} {sc : Scope} {k : Nat}
theorem bb_len : bootBuiltins (Str.ofString "len") = some (.builtin "len") := by decide +kernel
theorem bb_isi : bootBuiltins (Str.ofString "isinstance") = some (.builtin "isinstance") := by decide +kernel
theorem bb_range : bootBuiltins (Str.ofString "range") = some (.type "range") := by decide +kernel
theorem bb_str : bootBuiltins (Str.ofString "str") = some (.type "str") := by decide +kernel
theorem bb_int : bootBuiltins (Str.ofString "int") = some (.type "int") := by decide +kernel
theorem bb_list : bootBuiltins (Str.ofString "list") = some (.type "list") := by decide +kernel
theorem bb_dict : bootBuiltins (Str.ofString "dict") = some (.type "dict") := by decide +kernel
theorem bb_tuple : bootBuiltins (Str.ofString "tuple") = some (.type "tuple") := by decide +kernel
theorem HE.len (G : Gl C p) {np pos : Pos} {es : List Expr} {L : LT} (hn : sc.names.lookup (Str.ofString "len") = some .globalImplicit) (hl : HL C sc k es L) (hp : plainArgs es = true) : HE C sc k (.Call (.Name (Str.ofString "len") np) es [] pos) (eCall (spLen C.ns) L) :=
 HE.builtin G.ok (ok_len G.ok) hn (G.free _ (by decide)) (G.blt bb_len (by decide)) rfl hl hp
theorem HE.isi (G : Gl C p) {np pos : Pos} {es : List Expr} {L : LT} (hn : sc.names.lookup (Str.ofString "isinstance") = some .globalImplicit) (hl : HL C sc k es L) (hp : plainArgs es = true) : HE C sc k (.Call (.Name (Str.ofString "isinstance") np) es [] pos) (eCall spIsi L) :=
 HE.builtin G.ok ok_isi hn (G.free _ (by decide)) (G.blt bb_isi (by decide)) rfl hl hp
theorem HE.intC (G : Gl C p) {np pos : Pos} {es : List Expr} {L : LT} (hn : sc.names.lookup (Str.ofString "int") = some .globalImplicit) (hl : HL C sc k es L) (hp : plainArgs es = true) : HE C sc k (.Call (.Name (Str.ofString "int") np) es [] pos) (eCall spInt L) :=
 HE.btype G.ok ok_int hn (G.free _ (by decide)) (G.blt bb_int (by decide)) rfl hl hp
theorem HE.strC (G : Gl C p) {np pos : Pos} {es : List Expr} {L : LT} (hn : sc.names.lookup (Str.ofString "str") = some .globalImplicit) (hl : HL C sc k es L) (hp : plainArgs es = true) : HE C sc k (.Call (.Name (Str.ofString "str") np) es [] pos) (eCall spStr L) :=
 HE.btype G.ok ok_str hn (G.free _ (by decide)) (G.blt bb_str (by decide)) rfl hl hp
theorem HI.rng (G : Gl C p) (hz : C.held = Option.none) {np pos : Pos} {es : List Expr} {L : LT} (hn : sc.names.lookup (Str.ofString "range") = some .globalImplicit) (hl : HL C sc k es L) (hp : plainArgs es = true) : HI C sc k (.Call (.Name (Str.ofString "range") np) es [] pos) (iRange L) :=
 HI.range G.ok hz hl hp hn (G.free _ (by decide)) (G.blt bb_range (by decide))
theorem HE.gStr (G : Gl C p) {pos : Pos} (h : sc.names.lookup (Str.ofString "str") = some .globalImplicit) : HE C sc k (.Name (Str.ofString "str") pos) (eVal (.ty "str")) := HE.gty G.ok h (G.free _ (by decide)) (G.blt bb_str (by decide)) rfl
theorem HE.gList (G : Gl C p) {pos : Pos} (h : sc.names.lookup (Str.ofString "list") = some .globalImplicit) : HE C sc k (.Name (Str.ofString "list") pos) (eVal (.ty "list")) := HE.gty G.ok h (G.free _ (by decide)) (G.blt bb_list (by decide)) rfl
theorem HE.gDict (G : Gl C p) {pos : Pos} (h : sc.names.lookup (Str.ofString "dict") = some .globalImplicit) : HE C sc k (.Name (Str.ofString "dict") pos) (eVal (.ty "dict")) := HE.gty G.ok h (G.free _ (by decide)) (G.blt bb_dict (by decide)) rfl
theorem HE.gTuple (G : Gl C p) {pos : Pos} (h : sc.names.lookup (Str.ofString "tuple") = some .globalImplicit) : HE C sc k (.Name (Str.ofString "tuple") pos) (eVal (.ty "tuple")) := HE.gty G.ok h (G.free _ (by decide)) (G.blt bb_tuple (by decide)) rfl
theorem HE.split {o : Expr} {apos pos : Pos} {es : List Expr} {To : ET} {L : LT} (ho : HE C sc k o To) (hl : HL C sc k es L) (hp : plainArgs es = true)
  (hbase : ∀ env, attributeBase o (Str.ofString "split") env (eval o env) = eval o env) (hline : (apos.endLine == pos.line) = true) (hfew : es.length < 30) : HE C sc k (.Call (.Attribute o (Str.ofString "split") apos) es [] pos) (eMeth tyStr spSplit To L) :=
 HE.meth tyStr_ok F.plainAttrs_str F.slot_str_split F.type_str_split ok_split ho hl hp hbase hline hfew
theorem HE.join {o : Expr} {apos pos : Pos} {es : List Expr} {To : ET} {L : LT} (ho : HE C sc k o To) (hl : HL C sc k es L) (hp : plainArgs es = true)
  (hbase : ∀ env, attributeBase o (Str.ofString "join") env (eval o env) = eval o env) (hline : (apos.endLine == pos.line) = true) (hfew : es.length < 30) : HE C sc k (.Call (.Attribute o (Str.ofString "join") apos) es [] pos) (eMeth tyStr spJoin To L) :=
 HE.meth tyStr_ok F.plainAttrs_str F.slot_str_join F.type_str_join ok_join ho hl hp hbase hline hfew
theorem HE.starts {o : Expr} {apos pos : Pos} {es : List Expr} {To : ET} {L : LT} (ho : HE C sc k o To) (hl : HL C sc k es L) (hp : plainArgs es = true)
  (hbase : ∀ env, attributeBase o (Str.ofString "startswith") env (eval o env) = eval o env) (hline : (apos.endLine == pos.line) = true) (hfew : es.length < 30) : HE C sc k (.Call (.Attribute o (Str.ofString "startswith") apos) es [] pos) (eMeth tyStr spStarts To L) :=
 HE.meth tyStr_ok F.plainAttrs_str F.slot_str_startswith F.type_str_startswith ok_starts ho hl hp hbase hline hfew
theorem HE.append {o : Expr} {apos pos : Pos} {es : List Expr} {To : ET} {L : LT} (ho : HE C sc k o To) (hl : HL C sc k es L) (hp : plainArgs es = true)
  (hbase : ∀ env, attributeBase o (Str.ofString "append") env (eval o env) = eval o env) (hline : (apos.endLine == pos.line) = true) (hfew : es.length < 30) : HE C sc k (.Call (.Attribute o (Str.ofString "append") apos) es [] pos) (eMeth tyList spAppend To L) :=
 HE.meth tyList_ok F.plainAttrs_list F.slot_list_append F.type_list_append ok_append ho hl hp hbase hline hfew
theorem HE.item (G : Gl C p) {value slice : Expr} {pos : Pos} {T U : ET} (hv : HE C sc k value T) (hi : HE C sc k slice U) (hs : isSlice slice = false) : HE C sc k (.Subscript value slice pos) (eBin (opItem C.ns) T U) :=
 HE.sub hv hi (ok_item G.ok hs)
noncomputable def compOk (sc cs : Scope) (fv gs : List String) : Bool :=
 cs.kind == .function && cs.names.all (fun y => y.2 != .cell) && cs.names.all (fun y => y.2 != .local || cs.names.lookup y.1 == some .local) && decide (cs.names.map (·.1)).Nodup &&
 cs.names.all (fun q => q.2 != .free || fv.any fun x => Str.ofString x == q.1) && fv.all (fun x => cs.names.contains (Str.ofString x, NameKind.free) && (sc.names.lookup (Str.ofString x) == some .cell || sc.names.lookup (Str.ofString x) == some .free)) && gs.all fun x => !fv.contains x
theorem CompOk.of {sc cs : Scope} {fv : List String} {g : Tgt} (h : compOk sc cs fv g.names = true) : CompOk sc cs fv g := by
 unfold compOk at h
 simp only [Bool.and_eq_true, List.all_eq_true, Bool.or_eq_true, bne_iff_ne, beq_iff_eq, decide_eq_true_eq, List.any_eq_true, Bool.not_eq_true', List.contains_eq_mem, decide_eq_false_iff_not] at h
 obtain ⟨⟨⟨⟨⟨⟨h1, h2⟩, h3⟩, h4⟩, h5⟩, h6⟩, h7⟩ := h
 refine ⟨h1, h2, fun y hy e => (h3 y hy).elim (fun n => absurd e n) id, h4, fun q hq e => (h5 q hq).elim (fun n => absurd e n) id, fun x hx => ⟨(h6 x hx).1, (h6 x hx).2⟩, h7⟩
theorem swaps_local {elt : Expr} {gens : List Comprehension} {cs : Scope} {pos : Pos} {t : Str} {q : Pos} {line : Nat} (h : sc.names.lookup t = some .local) (hl : (q.line == pos.line) = true) (hn : (cs.names.any fun y => y.1 == t && (y.2 == .local || y.2 == .cell)) = false) :
  ∀ env, EnvOk env sc → swapsWith (.ListComp elt gens cs pos) (some (.Name t q)) line env = pure true := by
 intro env en
 unfold swapsWith
 have e : env.kindOf t = some .local := en.of h
 have e2 : env.blockKind = .function := by unfold Env.blockKind; rw [en.k]; rfl
 have e3 : (Expr.ListComp elt gens cs pos).pos.line = pos.line := rfl
 simp only [e, e2, e3, hl, hn]
 rfl
end
end Mine
end
noncomputable section
namespace Mine
open PySem PySem.W PyProof.Rows PySem.Calls
noncomputable def Grow (σ σ' : View) : Prop := ∀ b o, σ b = some o → σ' b = some o
theorem Grow.refl {σ : View} : Grow σ σ := fun _ _ e => e
theorem Grow.trans {σ₁ σ₂ σ₃ : View} (h : Grow σ₁ σ₂) (h' : Grow σ₂ σ₃) : Grow σ₁ σ₃ := fun b o e => h' b o (h b o e)
theorem Grow.upd {σ σ' : View} {a : Addr} {o : AObj} (h : Grow σ σ') (ha : σ' a = Option.none) : Grow σ (upd σ' a o) := fun b o' e => by
 rw [upd_old ha (h b o' e)]
noncomputable def newG (xs : List V) (σ : View) (Q : V → View → Prop) : Prop := ∀ a σ', Grow σ σ' → σ a = Option.none → σ' a = some (.list xs) → Q (.ref a) σ'
theorem Grow.none {σ σ' : View} (h : Grow σ σ') {a : Addr} (ha : σ' a = Option.none) : σ a = Option.none := by
 cases e : σ a with
 | none => rfl
 | some o => rw [h a o e] at ha; cases ha
theorem compL_filter {g : Tgt} {inv : View → Prop} {B : BT} {T : ET} {m : Loc} (P : View → Prop) (hinv : ∀ σ, P σ → inv σ) (f : V → Option V) :
  ∀ (items acc : List V) (σ : View) (Q : List V → View → Prop), acc.length + items.length ≤ 1048576 →
  (∀ v ∈ items, ∀ σ (Q₁ : V → View → Prop) (Q₂ : View → Prop), P σ → (∀ σ' y, P σ' → f v = some y → Q₁ y σ') → (∀ σ', P σ' → f v = Option.none → Q₂ σ') → ∃ m', bindT g v m = some m' ∧ B m' σ fun b σ₁ => if b then T m' σ₁ Q₁ else Q₂ σ₁) →
  P σ → (∀ σ', P σ' → Q (acc ++ items.filterMap f) σ') → compL g inv B T m items acc σ Q
 | [], acc, σ, Q, hz, step, p, q => by
  simp only [compL]
  exact ⟨hinv σ p, by simpa using q σ p⟩
 | v :: r, acc, σ, Q, hz, step, p, q => by
  simp only [compL]
  simp at hz
  obtain ⟨m', h1, h2⟩ := step v (.head _) σ (fun y σ₂ => acc.length < 1048576 ∧ compL g inv B T m r (acc ++ [y]) σ₂ Q) (fun σ₁ => compL g inv B T m r acc σ₁ Q) p
   (fun σ' y p' e => ⟨by exact Nat.lt_of_le_of_lt (Nat.le_add_right _ _) hz, compL_filter P hinv f r (acc ++ [y]) σ' Q (by simp; exact Nat.le_of_not_lt fun hg => lin [(acc.length), (r.length)] [(1, (.a (.v 0) (.a (.v 1) (.n 1))), (.n 1048576)), (1, (.a (.n 1048576) (.n 1)), (.a (.a (.v 0) (.n 1)) (.v 1)))] rfl hz hg) (fun v hv => step v (.tail _ hv)) p' fun σ'' p'' => by simpa [e] using q σ'' p''⟩)
   (fun σ' p' e => compL_filter P hinv f r acc σ' Q (by exact Nat.le_of_lt hz) (fun v hv => step v (.tail _ hv)) p' fun σ'' p'' => by simpa [e] using q σ'' p'')
  exact ⟨hinv σ p, m', h1, h2⟩
theorem forL_inv {g : Tgt} {inv : View → Prop} {T : ST} (I : Nat → Loc → View → Prop) (R : V → Loc → View → Prop) (hinv : ∀ i m σ, I i m σ → inv σ) (items : List V) {Q : Fl → Loc → View → Prop}
  (step : ∀ i v m σ Q', items[i]? = some v → I i m σ → (∀ m' σ', I (i + 1) m' σ' → Q' .next m' σ') → (∀ m' σ', I (i + 1) m' σ' → Q' .cont m' σ') → (∀ u m' σ', R u m' σ' → Q' (.ret u) m' σ') → ∃ m', bindT g v m = some m' ∧ T m' σ Q')
  (done : ∀ m σ, I items.length m σ → Q .next m σ) (ret : ∀ u m σ, R u m σ → Q (.ret u) m σ) : ∀ (m : Loc) (σ : View), I 0 m σ → forL g inv T items m σ Q := by
 have key : ∀ (n : Nat) (i : Nat) (m : Loc) (σ : View), n = items.length - i → i ≤ items.length → I i m σ → forL g inv T (items.drop i) m σ Q := by
  intro n
  induction n with
  | zero =>
   intro i m σ hn hi h
   have : i = items.length := by exact Nat.le_antisymm (Nat.le_of_not_lt fun hg => lin [i, (items.length)] [(1, (.v 0), (.v 1)), (1, (.a (.v 1) (.n 1)), (.v 0))] rfl hi hg) (Nat.le_of_not_lt fun hg => lin [(items.length - i), i, (items.length)] [(1, (.v 0), (.n 0)), (1, (.v 2), (.a (.v 0) (.v 1))), (1, (.a (.v 1) (.n 1)), (.v 2))] rfl (Nat.le_of_eq (Eq.symm hn)) (sub_lo (items.length) (i)) hg)
   subst this
   rw [List.drop_length]
   exact ⟨hinv _ _ _ h, done m σ h⟩
  | succ n ih =>
   intro i m σ hn hi h
   have hlt : i < items.length := by exact Nat.lt_of_not_le fun hg => lin [n, (items.length - i), i, (items.length)] [(1, (.a (.v 0) (.n 1)), (.v 1)), (1, (.a (.v 1) (.v 2)), (.v 3)), (1, (.v 3), (.v 2))] rfl (Nat.le_of_eq hn) (sub_hi (Nat.le_of_not_lt fun hg => lin [i, (items.length)] [(1, (.v 0), (.v 1)), (1, (.a (.v 1) (.n 1)), (.v 0))] rfl hi hg)) hg
   rw [List.drop_eq_getElem_cons hlt]
   simp only [forL]
   refine ⟨hinv _ _ _ h, step i _ m σ _ (List.getElem?_eq_getElem hlt) h (fun m' σ' h' => ih (i + 1) m' σ' (by exact Nat.le_antisymm (Nat.le_of_not_lt fun hg => lin [n, (items.length - i), i, (items.length), (items.length - (i + 1))] [(1, (.a (.v 0) (.n 1)), (.v 1)), (1, (.a (.v 1) (.v 2)), (.v 3)), (1, (.v 3), (.a (.v 4) (.a (.v 2) (.n 1)))), (1, (.a (.v 4) (.n 1)), (.v 0))] rfl (Nat.le_of_eq hn) (sub_hi (Nat.le_of_not_lt fun hg => lin [i, (items.length)] [(1, (.a (.v 0) (.n 1)), (.v 1)), (1, (.a (.v 1) (.n 1)), (.v 0))] rfl hlt hg)) (sub_lo (items.length) (i + 1)) hg) (Nat.le_of_not_lt fun hg => lin [n, (items.length - i), i, (items.length), (items.length - (i + 1))] [(1, (.v 1), (.a (.v 0) (.n 1))), (1, (.v 3), (.a (.v 1) (.v 2))), (1, (.a (.v 4) (.a (.v 2) (.n 1))), (.v 3)), (1, (.a (.v 0) (.n 1)), (.v 4))] rfl (Nat.le_of_eq (Eq.symm hn)) (sub_lo (items.length) (i)) (sub_hi (Nat.le_of_not_lt fun hg => lin [i, (items.length)] [(1, (.a (.v 0) (.n 1)), (.v 1)), (1, (.a (.v 1) (.n 1)), (.a (.v 0) (.n 1)))] rfl hlt hg)) hg)) (by exact hlt) h') (fun m' σ' h' => ih (i + 1) m' σ' (by exact Nat.le_antisymm (Nat.le_of_not_lt fun hg => lin [n, (items.length - i), i, (items.length), (items.length - (i + 1))] [(1, (.a (.v 0) (.n 1)), (.v 1)), (1, (.a (.v 1) (.v 2)), (.v 3)), (1, (.v 3), (.a (.v 4) (.a (.v 2) (.n 1)))), (1, (.a (.v 4) (.n 1)), (.v 0))] rfl (Nat.le_of_eq hn) (sub_hi (Nat.le_of_not_lt fun hg => lin [i, (items.length)] [(1, (.a (.v 0) (.n 1)), (.v 1)), (1, (.a (.v 1) (.n 1)), (.v 0))] rfl hlt hg)) (sub_lo (items.length) (i + 1)) hg) (Nat.le_of_not_lt fun hg => lin [n, (items.length - i), i, (items.length), (items.length - (i + 1))] [(1, (.v 1), (.a (.v 0) (.n 1))), (1, (.v 3), (.a (.v 1) (.v 2))), (1, (.a (.v 4) (.a (.v 2) (.n 1))), (.v 3)), (1, (.a (.v 0) (.n 1)), (.v 4))] rfl (Nat.le_of_eq (Eq.symm hn)) (sub_lo (items.length) (i)) (sub_hi (Nat.le_of_not_lt fun hg => lin [i, (items.length)] [(1, (.a (.v 0) (.n 1)), (.v 1)), (1, (.a (.v 1) (.n 1)), (.a (.v 0) (.n 1)))] rfl hlt hg)) hg)) (by exact hlt) h') fun u m' σ' h' => ret u m' σ' h'⟩
 intro m σ h
 have := key items.length 0 m σ (by exact rfl) (by exact Nat.zero_le _) h
 simpa using this
@[simp] theorem put_at (m : Loc) (x y : String) (v : V) : put m x v y = if y = x then some v else m y := rfl
@[simp] theorem only_at (fv : List String) (m : Loc) (x : String) : only fv m x = if x ∈ fv then m x else Option.none := rfl
theorem len1 {ws : List Value} (h : ws.length = 1) : ∃ a, ws = [a] := List.length_eq_one_iff.mp h
theorem lenS {n : Nat} {ws : List Value} (h : ws.length = n + 1) : ∃ a r, ws = a :: r ∧ r.length = n := by
 cases ws with
 | nil => cases h
 | cons a r => exact ⟨a, r, rfl, Nat.succ.inj h⟩
theorem len2 {ws : List Value} (h : ws.length = 2) : ∃ a b, ws = [a, b] := by
 obtain ⟨a, r, rfl, g⟩ := lenS h
 obtain ⟨b, rfl⟩ := len1 g
 exact ⟨a, b, rfl⟩
theorem len3 {ws : List Value} (h : ws.length = 3) : ∃ a b c, ws = [a, b, c] := by
 obtain ⟨a, r, rfl, g⟩ := lenS h
 obtain ⟨b, c, rfl⟩ := len2 g
 exact ⟨a, b, c, rfl⟩
theorem range_get {a : Int} {n i : Nat} {v : V} (h : (rangeL a n)[i]? = some v) : i < n ∧ v = .int (a + i) := by
 unfold rangeL at h
 rw [List.getElem?_map] at h
 obtain ⟨j, hj, rfl⟩ := Option.map_eq_some_iff.mp h
 obtain ⟨hlt, hji⟩ := List.getElem?_eq_some_iff.mp hj
 simp at hji hlt
 subst hji
 exact ⟨hlt, rfl⟩
theorem range_len (a : Int) (n : Nat) : (rangeL a n).length = n := by simp [rangeL]
noncomputable def cell (ns : List Int) (k : Int) : Int := ns.getD k.toNat 0
noncomputable def kont (U : ST) (Q : Fl → Loc → View → Prop) : Fl → Loc → View → Prop := fun f m σ => match f with
 | .next => U m σ Q
 | f => Q f m σ
theorem seq_eq (T U : ST) (m : Loc) (σ : View) (Q : Fl → Loc → View → Prop) : sSeq T U m σ Q = T m σ (kont U Q) := by
 unfold sSeq kont; rfl
@[simp] theorem kont_next (U : ST) (Q : Fl → Loc → View → Prop) (m : Loc) (σ : View) : kont U Q .next m σ = U m σ Q := rfl
@[simp] theorem kont_cont (U : ST) (Q : Fl → Loc → View → Prop) (m : Loc) (σ : View) : kont U Q .cont m σ = Q .cont m σ := rfl
@[simp] theorem kont_brk (U : ST) (Q : Fl → Loc → View → Prop) (m : Loc) (σ : View) : kont U Q .brk m σ = Q .brk m σ := rfl
@[simp] theorem kont_ret (U : ST) (Q : Fl → Loc → View → Prop) (v : V) (m : Loc) (σ : View) : kont U Q (.ret v) m σ = Q (.ret v) m σ := rfl
noncomputable def fin (Q : V → View → Prop) : Fl → Loc → View → Prop := fun f _ σ' => match f with | .ret v => Q v σ' | .next => Q .none σ' | _ => False
@[simp] theorem fin_ret (Q : V → View → Prop) (v : V) (m : Loc) (σ : View) : fin Q (.ret v) m σ = Q v σ := rfl
@[simp] theorem fin_next (Q : V → View → Prop) (m : Loc) (σ : View) : fin Q .next m σ = Q .none σ := rfl
section
variable {m : Loc} {σ : View} {Q : V → View → Prop} {R : Fl → Loc → View → Prop} {B : Bool → View → Prop} {K : List V → View → Prop} {J : List V → (View → Prop) → View → Prop} {O : Option Int → View → Prop} {ns : List Int}
@[simp] theorem sSet_eq {x : String} {T : ET} : sSet x T m σ R = T m σ fun v σ' => R .next (put m x v) σ' := rfl
@[simp] theorem sRet_eq {T : ET} : sRet T m σ R = T m σ fun v σ' => R (.ret v) m σ' := rfl
@[simp] theorem sIf_eq {b : BT} {T U : ST} : sIf b T U m σ R = b m σ fun b σ' => if b then T m σ' R else U m σ' R := rfl
@[simp] theorem sNil_eq : sNil m σ R = R .next m σ := rfl
@[simp] theorem sExpr_eq {T : ET} : sExpr T m σ R = T m σ fun _ σ' => R .next m σ' := rfl
@[simp] theorem sFor_eq {g : Tgt} {I : IT} {T : ST} : sFor g I T m σ R = I m σ fun items inv σ' => forL g inv T items m σ' R := rfl
@[simp] theorem sSetItem_eq {op : V → V → V → View → (View → Prop) → Prop} {T To Ti : ET} : sSetItem op T To Ti m σ R = T m σ fun v σ₁ => To m σ₁ fun o σ₂ => Ti m σ₂ fun i σ₃ => op o i v σ₃ fun σ₄ => R .next m σ₄ := rfl
@[simp] theorem eName_eq {x : String} : eName x m σ Q = ∃ v, m x = some v ∧ Q v σ := rfl
@[simp] theorem eVal_eq {v : V} : eVal v m σ Q = Q v σ := rfl
@[simp] theorem eBin_eq {op : O2} {T U : ET} : eBin op T U m σ Q = T m σ fun a σ₁ => U m σ₁ fun b σ₂ => op a b σ₂ Q := rfl
@[simp] theorem eCall_eq {spec : Spec} {L : LT} : eCall spec L m σ Q = L m σ fun vs σ' => spec vs σ' Q := rfl
@[simp] theorem eMeth_eq {ty : V → View → Prop} {op : Spec} {T : ET} {L : LT} : eMeth ty op T L m σ Q = T m σ fun o σ₁ => ty o σ₁ ∧ L m σ₁ fun vs σ₂ => op (o :: vs) σ₂ Q := rfl
@[simp] theorem lNil_eq : lNil m σ K = K [] σ := rfl
@[simp] theorem lCons_eq {T : ET} {L : LT} : lCons T L m σ K = T m σ fun v σ₁ => L m σ₁ fun vs σ₂ => K (v :: vs) σ₂ := rfl
@[simp] theorem eTup_eq {L : LT} : eTup L m σ Q = L m σ fun vs σ₁ => vs.length ≤ 1000 ∧ Q (.tup vs) σ₁ := rfl
@[simp] theorem eList_eq {L : LT} : eList L m σ Q = L m σ fun vs σ₁ => vs.length ≤ 1000 ∧ newL vs σ₁ Q := rfl
@[simp] theorem tNot_eq {T : BT} : tNot T m σ B = T m σ fun b σ' => B (!b) σ' := rfl
@[simp] theorem tAnd_eq {T U : BT} : tAnd T U m σ B = T m σ fun b σ' => if b then U m σ' B else B false σ' := rfl
@[simp] theorem tOr_eq {T U : BT} : tOr T U m σ B = T m σ fun b σ' => if b then B true σ' else U m σ' B := rfl
@[simp] theorem tT_eq : tT m σ B = B true σ := rfl
@[simp] theorem tF_eq : tF m σ B = B false σ := rfl
@[simp] theorem eComp_eq {fv : List String} {g : Tgt} {I : IT} {b : BT} {T : ET} : eComp fv g I b T m σ Q = I m σ fun items inv σ' => compL g inv b T (only fv m) items [] σ' fun ys σ'' => newL ys σ'' Q := rfl
@[simp] theorem iOf_eq {T : ET} : iOf ns T m σ J = T m σ fun v σ' => iterOf ns v σ' J := rfl
@[simp] theorem iRange_eq {L : LT} : iRange L m σ J = L m σ fun vs σ' => rangeOf vs σ' J := rfl
@[simp] theorem eCut_eq {T : ET} {L U : Loc → View → (Option Int → View → Prop) → Prop} : eCut ns T L U m σ Q = T m σ fun v σ₁ => L m σ₁ fun lo σ₂ => U m σ₂ fun hi σ₃ => opCut ns lo hi v σ₃ Q := rfl
@[simp] theorem pNone_eq : pNone m σ O = O Option.none σ := rfl
@[simp] theorem pSome_eq {T : ET} : pSome T m σ O = T m σ fun v σ' => ∃ i, v = .int i ∧ O (some i) σ' := rfl
@[simp] theorem bindT_name {x : String} {v : V} : bindT (.name x) v m = some (put m x v) := rfl
@[simp] theorem bindM_cons {x : String} {xs : List String} {v : V} {vs : List V} : bindM (x :: xs) (v :: vs) m = bindM xs vs (put m x v) := rfl
@[simp] theorem bindM_nil {vs : List V} : bindM [] vs m = m := by cases vs <;> rfl
@[simp] theorem none_at {x : String} : none' x = Option.none := rfl
end
noncomputable def isB (v : V) (F : Bool → Prop) : Prop := ∃ b, v = .bool b ∧ F b
@[simp] theorem isB_bool (c : Bool) (F : Bool → Prop) : isB (.bool c) F = F c := propext ⟨fun ⟨_, e, h⟩ => by cases e; exact h, fun h => ⟨c, rfl, h⟩⟩
@[simp] theorem tBool_eq (T : ET) (m : Loc) (σ : View) (Q : Bool → View → Prop) : tBool T m σ Q = T m σ (fun v σ' => isB v fun b => Q b σ') := rfl
@[simp] theorem eAnd_eq (T U : ET) (m : Loc) (σ : View) (Q : V → View → Prop) : eAnd T U m σ Q = T m σ (fun v σ' => isB v fun b => if b then U m σ' Q else Q (.bool false) σ') := rfl
@[simp] theorem tCmp2_eq (o1 o2 : O2) (T U W : ET) (m : Loc) (σ : View) (Q : Bool → View → Prop) : tCmp2 o1 o2 T U W m σ Q = T m σ (fun a σ₁ => U m σ₁ fun b σ₂ => o1 a b σ₂ fun v σ₃ => isB v fun x => if x then W m σ₃ fun c σ₄ => o2 b c σ₄ fun u σ₅ => isB u fun y => Q y σ₅ else Q false σ₃) := rfl
section
variable {σ : View} {Q : V → View → Prop} {ns : List Int}
@[simp] theorem add_int {x y : Int} : opAdd (.int x) (.int y) σ Q = Q (.int (x + y)) σ := rfl
@[simp] theorem add_str {x y : Str} : opAdd (.str x) (.str y) σ Q = (x.length + y.length ≤ 16777216 ∧ Q (.str (x ++ y)) σ) := rfl
@[simp] theorem sub_int {x y : Int} : opSub (.int x) (.int y) σ Q = Q (.int (x - y)) σ := rfl
@[simp] theorem mul_int {x y : Int} : opMul (.int x) (.int y) σ Q = ((Short x ∨ Short y) ∧ Q (.int (x * y)) σ) := rfl
@[simp] theorem mod_int {x y : Int} : opMod (.int x) (.int y) σ Q = (0 < y ∧ Q (.int (x % y)) σ) := rfl
@[simp] theorem div_int {x y : Int} : opDiv (.int x) (.int y) σ Q = ((0 < y ∧ y < 1073741824) ∧ Q (.int (x / y)) σ) := rfl
@[simp] theorem lt_int {x y : Int} : opLt (.int x) (.int y) σ Q = Q (.bool (decide (x < y))) σ := rfl
@[simp] theorem le_int {x y : Int} : opLe (.int x) (.int y) σ Q = Q (.bool (decide (x ≤ y))) σ := rfl
@[simp] theorem gt_int {x y : Int} : opGt (.int x) (.int y) σ Q = Q (.bool (decide (y < x))) σ := rfl
theorem eq_one {α : Type} {a : α} {F : α → Prop} : (∃ r, some a = some r ∧ F r) = F a := by simp
@[simp] theorem eq_int {x y : Int} : opEq0 (.int x) (.int y) σ Q = Q (.bool (decide (x = y))) σ := eq_one
@[simp] theorem eq_str {x y : Str} : opEq0 (.str x) (.str y) σ Q = Q (.bool (decide (x = y))) σ := eq_one
@[simp] theorem eq_bool {x y : Bool} : opEq0 (.bool x) (.bool y) σ Q = Q (.bool (x == y)) σ := eq_one
@[simp] theorem eq_nn : opEq0 .none .none σ Q = Q (.bool true) σ := eq_one
@[simp] theorem eq_ns {y : Str} : opEq0 .none (.str y) σ Q = Q (.bool false) σ := eq_one
@[simp] theorem eq_sn {y : Str} : opEq0 (.str y) .none σ Q = Q (.bool false) σ := eq_one
@[simp] theorem ne_int {x y : Int} : opNe0 (.int x) (.int y) σ Q = Q (.bool (!decide (x = y))) σ := eq_one
@[simp] theorem ne_str {x y : Str} : opNe0 (.str x) (.str y) σ Q = Q (.bool (!decide (x = y))) σ := eq_one
@[simp] theorem ne_bool {x y : Bool} : opNe0 (.bool x) (.bool y) σ Q = Q (.bool (!(x == y))) σ := eq_one
@[simp] theorem ne_nn : opNe0 .none .none σ Q = Q (.bool false) σ := eq_one
@[simp] theorem ne_ns {y : Str} : opNe0 .none (.str y) σ Q = Q (.bool true) σ := eq_one
@[simp] theorem ne_sn {y : Str} : opNe0 (.str y) .none σ Q = Q (.bool true) σ := eq_one
@[simp] theorem in_str {x y : Str} : opInS (.str y) (.str x) σ Q = Q (.bool (Txt.contains x y)) σ := rfl
@[simp] theorem notin_str {x y : Str} : opNotInS (.str y) (.str x) σ Q = Q (.bool (!Txt.contains x y)) σ := rfl
@[simp] theorem len_str {x : Str} : spLen ns [.str x] σ Q = (x.length ≤ 16777216 ∧ Q (.int x.length) σ) := rfl
@[simp] theorem len_script : spLen ns [.script] σ Q = Q (.int ns.length) σ := rfl
@[simp] theorem len_tup {vs : List V} : spLen ns [.tup vs] σ Q = (vs.length ≤ 16777216 ∧ Q (.int vs.length) σ) := rfl
theorem len_list {a : Addr} {xs : List V} (h : σ a = some (.list xs)) : spLen ns [.ref a] σ Q = Q (.int xs.length) σ := by show lenRef σ Q (σ a) = _; rw [h]; rfl
@[simp] theorem min_int {x y : Int} : spMin [.int x, .int y] σ Q = Q (.int (min x y)) σ := rfl
@[simp] theorem int_bool {b : Bool} : spInt [.bool b] σ Q = Q (.int (if b then 1 else 0)) σ := rfl
@[simp] theorem str_int {i : Int} : spStr [.int i] σ Q = (i.natAbs.log2 < 1920 ∧ Q (.str (Str.ofString (toString i))) σ) := rfl
@[simp] theorem starts_str {x y : Str} : spStarts [.str x, .str y] σ Q = Q (.bool (Txt.startswith x y)) σ := rfl
@[simp] theorem split_str {x y : Str} : spSplit [.str x, .str y] σ Q = ((y.length = 1 ∧ x.length ≤ 1048576) ∧ newL ((Txt.split x y).map .str) σ Q) := rfl
theorem join_list {x : Str} {a : Addr} {ys : List Str} (h : σ a = some (.list (ys.map .str))) (hl : (ys.map (·.length)).sum + ys.length * x.length ≤ 16777216) (q : Q (.str (Str.join x ys)) σ) : spJoin [.str x, .ref a] σ Q := ⟨ys, h, hl, q⟩
theorem isi_list {a : Addr} {xs : List V} (h : σ a = some (.list xs)) : spIsi [.ref a, .ty "list"] σ Q = Q (.bool true) σ := by
 simp [spIsi, Mine.isi, h]
@[simp] theorem isi_str {b : Str} : spIsi [.str b, .ty "str"] σ Q = Q (.bool true) σ := by simp [spIsi, Mine.isi]
@[simp] theorem isi_tup {vs : List V} : spIsi [.tup vs, .ty "tuple"] σ Q = Q (.bool true) σ := by simp [spIsi, Mine.isi]
theorem isi_dict {a : Addr} {kvs : List (Str × V)} {ep : Nat} (h : σ a = some (.dict kvs ep)) : spIsi [.ref a, .ty "dict"] σ Q = Q (.bool true) σ := by
 simp [spIsi, Mine.isi, h]
@[simp] theorem tyStr_str {x : Str} : tyStr (.str x) σ = True := rfl
@[simp] theorem range_1 {n : Int} {R : List V → (View → Prop) → View → Prop} : rangeOf [.int n] σ R = ((-(2 ^ 62) ≤ n ∧ n < 2 ^ 62) ∧ R (rangeL 0 n.toNat) (fun _ => True) σ) := rfl
@[simp] theorem range_2 {a b : Int} {R : List V → (View → Prop) → View → Prop} : rangeOf [.int a, .int b] σ R = ((-(2 ^ 62) ≤ a ∧ a < 2 ^ 62 ∧ -(2 ^ 62) ≤ b ∧ b < 2 ^ 62) ∧ R (rangeL a (b - a).toNat) (fun _ => True) σ) := rfl
@[simp] theorem iter_str {x : Str} {R : List V → (View → Prop) → View → Prop} : iterOf ns (.str x) σ R = R (signs x) (fun _ => True) σ := rfl
theorem iter_list {a : Addr} {xs : List V} (h : σ a = some (.list xs)) {R : List V → (View → Prop) → View → Prop} : iterOf ns (.ref a) σ R = R xs (fun σ => σ a = some (.list xs)) σ := by unfold iterOf; simp [h]
theorem item_list {a : Addr} {xs : List V} {i : Int} {v : V} (h : σ a = some (.list xs)) (h0 : 0 ≤ i) (hv : xs[i.toNat]? = some v) (q : Q v σ) : opItem ns (.ref a) (.int i) σ Q := by
 refine ⟨xs, i.toNat, v, h, ?_, hv, q⟩
 have hlt := (List.getElem?_eq_some_iff.mp hv).1
 unfold idx
 rw [if_pos h0, if_pos (by omega)]
theorem item_str {x : Str} {i : Int} {c : Nat} (hz : x.length < 16777217) (h0 : 0 ≤ i) (hv : x.cps.toList[i.toNat]? = some c) (q : Q (.str ⟨#[c]⟩) σ) : opItem ns (.str x) (.int i) σ Q := by
 refine ⟨hz, i.toNat, c, ?_, hv, q⟩
 have hlt := (List.getElem?_eq_some_iff.mp hv).1
 have : x.length = x.cps.toList.length := by simp [Str.length]
 unfold idx
 rw [if_pos h0, if_pos (by rw [this]; omega)]
theorem cut_list {a : Addr} {xs : List V} {lo hi : Option Int} (h : σ a = some (.list xs)) (q : newL (pyCut xs lo hi) σ Q) : opCut ns lo hi (.ref a) σ Q := ⟨xs, h, q⟩
theorem cell_item {k : Int} (h0 : 0 ≤ k) (h : k < ns.length) (q : Q (.int (cell ns k)) σ) : opItem ns .script (.int k) σ Q := by
 refine ⟨k.toNat, ns.getD k.toNat 0, h0, ?_, ?_, q⟩
 ·unfold idx; rw [if_pos h0, if_pos h]
 ·rw [List.getD_eq_getElem?_getD]
  cases e : ns[k.toNat]? with
  | none => rw [List.getElem?_eq_none_iff] at e; omega
  | some n => rfl
theorem cell_out {k : Int} (h0 : 0 ≤ k) (h : ¬ k < ns.length) : cell ns k = 0 := by
 unfold cell
 rw [List.getD_eq_getElem?_getD, List.getElem?_eq_none (by omega)]; rfl
theorem clip_nat {n : Int} {k : Nat} (h0 : 0 ≤ n) : clipAt k n = min n.toNat k := by
 unfold clipAt
 rw [if_neg (Int.not_lt.mpr h0)]
 obtain ⟨m, rfl⟩ := Int.eq_ofNat_of_zero_le h0
 by_cases h : m ≤ k
 ·rw [Int.min_eq_left (Int.ofNat_le.mpr h), Int.max_eq_right (Int.natCast_nonneg _), Int.toNat_natCast, Nat.min_eq_left h]
 ·have h' : k ≤ m := Nat.le_of_not_le h
  rw [Int.min_eq_right (Int.ofNat_le.mpr h'), Int.max_eq_right (Int.natCast_nonneg _), Int.toNat_natCast, Int.toNat_natCast, Nat.min_eq_right h']
theorem cut_take {α : Type} (l : List α) {n : Int} (h0 : 0 ≤ n) : pyCut l Option.none (some n) = l.take n.toNat := by
 unfold pyCut clip
 simp only [Option.elim]
 rw [clip_nat h0, List.drop_zero, Nat.sub_zero, ← List.take_eq_take_min]
theorem cut_drop {α : Type} (l : List α) {n : Int} (h0 : 0 ≤ n) : pyCut l (some n) Option.none = l.drop n.toNat := by
 unfold pyCut clip
 simp only [Option.elim]
 rw [clip_nat h0]
 by_cases h : n.toNat ≤ l.length
 ·rw [Nat.min_eq_left h, List.take_of_length_le (by simp)]
 ·rw [Nat.min_eq_right (by exact Nat.le_of_not_lt fun hg => lin [(l.length), (n.toNat)] [(1, (.a (.v 0) (.n 1)), (.v 1)), (1, (.a (.v 1) (.n 1)), (.v 0))] rfl (Nat.lt_of_not_le h) hg), List.drop_length, List.drop_of_length_le (by exact Nat.le_of_not_lt fun hg => lin [(l.length), (n.toNat)] [(1, (.a (.v 0) (.n 1)), (.v 1)), (1, (.a (.v 1) (.n 1)), (.v 0))] rfl (Nat.lt_of_not_le h) hg)]; simp
end
end Mine
end
noncomputable section
namespace Mine
open PySem PySem.W PyProof.Rows PySem.Calls
abbrev cl (x : Str) : List Nat := x.cps.toList
theorem cl_inj {x y : Str} (h : cl x = cl y) : x = y := by
 cases x; cases y; simp [cl] at h; rw [h]
theorem cl_append (x y : Str) : cl (x ++ y) = cl x ++ cl y := by
 show (x.cps ++ y.cps).toList = _; simp
theorem cl_len (x : Str) : x.length = (cl x).length := by simp [Str.length]
noncomputable def jn (c : Nat) : List (List Nat) → List Nat
 | [] => []
 | [x] => x
 | x :: y :: r => x ++ c :: jn c (y :: r)
theorem cl_join (c : Nat) : ∀ xs : List Str, cl (Str.join ⟨#[c]⟩ xs) = jn c (xs.map cl)
 | [] => rfl
 | [x] => rfl
 | x :: y :: r => by
  have ih := cl_join c (y :: r)
  simp only [List.map_cons] at ih
  simp only [List.map_cons, jn, Str.join, cl_append, ih]
  rw [List.append_assoc]; rfl
noncomputable def Free (c : Nat) (xs : List (List Nat)) : Prop := ∀ x ∈ xs, c ∉ x
theorem cut_eq {c : Nat} : ∀ {x y a b : List Nat}, c ∉ x → c ∉ y → x ++ c :: a = y ++ c :: b → x = y ∧ a = b
 | [], [], a, b, _, _, h => by simp at h; exact ⟨rfl, h⟩
 | [], d :: y, a, b, _, hy, h => by simp at h; exact absurd (h.1 ▸ List.mem_cons_self ..) hy
 | d :: x, [], a, b, hx, _, h => by simp at h; exact absurd (h.1 ▸ List.mem_cons_self ..) hx
 | d :: x, e :: y, a, b, hx, hy, h => by
  simp at h hx hy
  obtain ⟨rfl, h⟩ := h
  obtain ⟨rfl, rfl⟩ := cut_eq hx.2 hy.2 h
  exact ⟨rfl, rfl⟩
theorem jn_inj {c : Nat} : ∀ {xs ys : List (List Nat)}, Free c xs → Free c ys → xs ≠ [] → ys ≠ [] → jn c xs = jn c ys → xs = ys
 | [], _, _, _, h, _, _ => absurd rfl h
 | _, [], _, _, _, h, _ => absurd rfl h
 | [x], [y], _, _, _, _, e => by simp [jn] at e; rw [e]
 | [x], y :: z :: r, fx, _, _, _, e => by
  simp only [jn] at e
  exact absurd (by rw [e]; simp) (fx x (.head _))
 | x :: z :: r, [y], _, fy, _, _, e => by
  simp only [jn] at e
  exact absurd (by rw [← e]; simp) (fy y (.head _))
 | x :: z :: r, y :: u :: q, fx, fy, _, _, e => by
  simp only [jn] at e
  obtain ⟨rfl, e'⟩ := cut_eq (fx x (.head _)) (fy y (.head _)) e
  rw [jn_inj (fun a h => fx a (.tail _ h)) (fun a h => fy a (.tail _ h)) (by simp) (by simp) e']
noncomputable def Fr (x : Str) : Prop := 47 ∉ cl x
theorem sl_eq : Str.ofString "/" = ⟨#[47]⟩ := by decide +kernel
theorem free_map {xs : List Str} (h : ∀ x ∈ xs, Fr x) : Free 47 (xs.map cl) := fun a ha => by
 obtain ⟨x, hx, rfl⟩ := List.mem_map.mp ha; exact h x hx
theorem map_cl_inj : ∀ {xs ys : List Str}, xs.map cl = ys.map cl → xs = ys
 | [], [], _ => rfl
 | [], _ :: _, h => by simp at h
 | _ :: _, [], h => by simp at h
 | x :: xs, y :: ys, h => by simp only [List.map_cons, List.cons.injEq] at h; rw [cl_inj h.1, map_cl_inj h.2]
theorem join_inj {xs ys : List Str} (fx : ∀ x ∈ xs, Fr x) (fy : ∀ y ∈ ys, Fr y) (nx : xs ≠ []) (ny : ys ≠ []) (h : Str.join (Str.ofString "/") xs = Str.join (Str.ofString "/") ys) : xs = ys := by
 refine map_cl_inj (jn_inj (free_map fx) (free_map fy) (by simpa using nx) (by simpa using ny) ?_)
 rw [← cl_join, ← cl_join, ← sl_eq, h]
theorem split_join {xs : List Str} (fx : ∀ x ∈ xs, Fr x) (nx : xs ≠ []) : Txt.split (Str.join (Str.ofString "/") xs) (Str.ofString "/") = xs := by
 refine join_inj ?_ fx ?_ nx (StrLaws.join_split _ _)
 ·intro y hy
  rw [sl_eq] at hy
  exact StrLaws.split_free _ 47 y hy
 ·intro e
  have := PyProof.Rows.split_pos (Str.join (Str.ofString "/") xs) (Str.ofString "/")
  rw [e] at this; simp at this
theorem starts_iff (x y : Str) : Txt.startswith x y = true ↔ cl y <+: cl x := by
 unfold Txt.startswith
 rw [StrLaws.subAt_eq, cl_len, cl_len, List.prefix_iff_eq_take]
 simp
 constructor
 ·rintro ⟨_, h⟩; exact h.symm
 ·intro h; refine ⟨?_, h.symm⟩
  have := congrArg List.length h
  simp at this
  omega
noncomputable def joinLen (xs : List Str) : Nat := (xs.map (·.length)).sum + xs.length
theorem join_len_le : ∀ (xs : List Str), (Str.join (Str.ofString "/") xs).length ≤ joinLen xs
 | [] => by simp [Str.join, joinLen, Str.length, Str.empty]
 | [x] => by simp [Str.join, joinLen]
 | x :: y :: r => by
  have ih := join_len_le (y :: r)
  have e : (Str.join (Str.ofString "/") (x :: y :: r)).length = x.length + 1 + (Str.join (Str.ofString "/") (y :: r)).length := by
   have : Str.join (Str.ofString "/") (x :: y :: r) = x ++ Str.ofString "/" ++ Str.join (Str.ofString "/") (y :: r) := rfl
   rw [this, cl_len, cl_append, cl_append, List.length_append, List.length_append, ← cl_len, ← cl_len, ← cl_len, sl_eq]
   rfl
  rw [e]
  simp [joinLen] at ih ⊢
  omega
theorem sl_len : (Str.ofString "/").length = 1 := by rw [sl_eq]; rfl
end Mine
end
noncomputable section
namespace Mine
open PySem PySem.W PyProof.Rows PySem.Calls
noncomputable def GStr (C : Cx) (x : String) (v : Str) : Prop := ∃ t, C.mg (Str.ofString x) = some (.str v t)
noncomputable def GInt (C : Cx) (x : String) (v : Int) : Prop := ∃ t, C.mg (Str.ofString x) = some (.int v t)
section
variable {C : Cx} {p : Program} {sc : Scope} {k : Nat}
theorem HE.gstr (O : C.Ok) {x : String} {pos : Pos} {v : Str} (h : sc.names.lookup (Str.ofString x) = some .globalImplicit) (hg : GStr C x v) (hd : (Str.ofString x == ("__debug__" : Str)) = false) : HE C sc k (.Name (Str.ofString x) pos) (eVal (.str v)) := by
 obtain ⟨t, e⟩ := hg
 exact HE.glob O h e (fun _ => .str v t) hd
theorem HE.gint (O : C.Ok) {x : String} {pos : Pos} {v : Int} (h : sc.names.lookup (Str.ofString x) = some .globalImplicit) (hg : GInt C x v) (hd : (Str.ofString x == ("__debug__" : Str)) = false) : HE C sc k (.Name (Str.ofString x) pos) (eVal (.int v)) := by
 obtain ⟨t, e⟩ := hg
 exact HE.glob O h e (fun _ => .int v t) hd
theorem GStr.of {loose : List Str} {mean : ExcName → Option Value} (T : Top p loose mean C.mg C.mb C.hB) {x : String} {v : Str} (h : valOf p (Str.ofString x) = some (.str v)) : GStr C x v := by
 obtain ⟨w, h1, h2⟩ := T.const _ _ h
 cases h2 C.hB with
 | str _ t => exact ⟨t, h1⟩
theorem GInt.of {loose : List Str} {mean : ExcName → Option Value} (T : Top p loose mean C.mg C.mb C.hB) {x : String} {v : Int} (h : valOf p (Str.ofString x) = some (.int v)) : GInt C x v := by
 obtain ⟨w, h1, h2⟩ := T.const _ _ h
 cases h2 C.hB with
 | int _ t => exact ⟨t, h1⟩
noncomputable def opMulS : O2
 | .str x, .int n, σ, Q => MulOk x n ∧ Q (.str (Txt.mul x n)) σ
 | _, _, _, _ => False
theorem ok_mulS : Op2 C k (binaryOp .Mult) opMulS := by
 intro A s σ a b wa wb Q P E ao R va vb q hP
 cases a <;> first | exact q.elim | skip
 cases b <;> first | exact q.elim | skip
 cases va; cases vb
 exact SB.mul q.1 fun t' k => hP _ _ σ _ (.str _ _) (R.tok _) Step.refl q.2
end
@[simp] theorem mulS_eq {σ : View} {Q : V → View → Prop} {x : Str} {n : Int} : opMulS (.str x) (.int n) σ Q = (MulOk x n ∧ Q (.str (Txt.mul x n)) σ) := rfl
end Mine
end
noncomputable section
namespace Mine
open PySem PySem.W PyProof.Rows PySem.Calls
noncomputable def vstored {K : Type} [DecidableEq K] (kvs : List (K × V)) (k : K) (v : V) : List (K × V) :=
 if kvs.any (fun kv => kv.1 = k) then kvs.map (fun kv => if kv.1 = k then (kv.1, v) else kv) else kvs ++ [(k, v)]
noncomputable def vget {K : Type} [DecidableEq K] (kvs : List (K × V)) (k : K) : Option V := (kvs.find? fun kv => kv.1 = k).map (·.2)
noncomputable def vout {K : Type} [DecidableEq K] (kvs : List (K × V)) (k : K) : List (K × V) := kvs.filter fun kv => decide (kv.1 ≠ k)
section
variable {aS : Addr} {h : Heap}
variable {K : Type} [DecidableEq K] {a a' : List (K × V)} {b b' : List (K × Value)} {k : K}
theorem PRel.any (k : K) (x : PRel aS h a b) : (a.any fun kv => kv.1 = k) = (b.any fun kv => kv.1 = k) :=
 x.ind (P := fun a b => (a.any fun kv => kv.1 = k) = (b.any fun kv => kv.1 = k)) rfl fun _ _ _ _ _ _ _ ih => by simp only [List.any_cons, ih]
theorem PRel.append (x : PRel aS h a b) (y : PRel aS h a' b') : PRel aS h (a ++ a') (b ++ b') :=
 x.ind (P := fun a b => PRel aS h (a ++ a') (b ++ b')) y fun _ _ _ _ _ v _ ih => by rw [List.cons_append, List.cons_append]; exact ⟨rfl, v, ih⟩
theorem PRel.mapSet {v : V} {w : Value} (hv : VRel aS h v w) (x : PRel aS h a b) : PRel aS h (a.map fun kv => if kv.1 = k then (kv.1, v) else kv) (b.map fun kv => if kv.1 = k then (kv.1, w) else kv) :=
 x.ind (P := fun a b => PRel aS h (a.map fun kv => if kv.1 = k then (kv.1, v) else kv) (b.map fun kv => if kv.1 = k then (kv.1, w) else kv)) trivial fun x _ _ _ _ q _ ih => by
  rw [List.map_cons, List.map_cons]
  by_cases c : x = k
  ·rw [if_pos c, if_pos c]; exact ⟨rfl, hv, ih⟩
  ·rw [if_neg c, if_neg c]; exact ⟨rfl, q, ih⟩
theorem PRel.stored {v : V} {w : Value} (x : PRel aS h a b) (hv : VRel aS h v w) : PRel aS h (vstored a k v) (PySem.stored b k w) := by
 unfold vstored PySem.stored
 rw [x.any k]
 split
 ·exact x.mapSet hv
 ·exact x.append ⟨rfl, hv, trivial⟩
theorem PRel.find (x : PRel aS h a b) : ∀ {v : V}, vget a k = some v → ∃ w, valueAt b k = some w ∧ VRel aS h v w :=
 x.ind (P := fun a b => ∀ {v : V}, vget a k = some v → ∃ w, valueAt b k = some w ∧ VRel aS h v w) (fun e => by cases e) fun x _ z _ _ q _ ih v hv => by
  unfold vget at hv
  unfold valueAt
  by_cases c : x = k
  ·rw [List.find?_cons_of_pos (by simpa using c)] at hv
   rw [List.find?_cons_of_pos (by simpa using c)]
   cases hv; exact ⟨z, rfl, q⟩
  ·rw [List.find?_cons_of_neg (by simpa using c)] at hv
   rw [List.find?_cons_of_neg (by simpa using c)]
   exact ih hv
theorem PRel.none (x : PRel aS h a b) : (vget a k).isSome = (valueAt b k).isSome :=
 x.ind (P := fun a b => (vget a k).isSome = (valueAt b k).isSome) rfl fun x _ _ _ _ _ _ ih => by
  unfold vget valueAt
  by_cases c : x = k
  ·rw [List.find?_cons_of_pos (by simpa using c), List.find?_cons_of_pos (by simpa using c)]; rfl
  ·rw [List.find?_cons_of_neg (by simpa using c), List.find?_cons_of_neg (by simpa using c)]
   exact ih
theorem PRel.without (x : PRel aS h a b) : PRel aS h (vout a k) (PySem.without b k) :=
 x.ind (P := fun a b => PRel aS h (vout a k) (PySem.without b k)) trivial fun x _ _ _ _ q _ ih => by
  unfold vout PySem.without at *
  by_cases c : x = k
  ·rw [List.filter_cons_of_neg (by simpa using c), List.filter_cons_of_neg (by simpa using c)]; exact ih
  ·rw [List.filter_cons_of_pos (by simpa using c), List.filter_cons_of_pos (by simpa using c)]; exact ⟨rfl, q, ih⟩
end
section
variable {C : Cx} {p : Program} {sc : Scope} {k : Nat}
theorem key_is (x : Str) (t : Tok) : (strKind C.prog C.w).is x (.str x t) = true := by
 show Value.isStrOf x (.str x t) = true
 simp [Value.isStrOf]
noncomputable def newD (kvs : List (Str × V)) (σ : View) (Q : V → View → Prop) : Prop := ∀ a ep, σ a = Option.none → Q (.ref a) (upd σ a (.dict kvs ep))
noncomputable def eDict0 : ET := fun _ σ Q => newD [] σ Q
theorem HE.dict0 {pos : Pos} : HE C sc k (.Dict [] [] pos) eDict0 := by
 refine ⟨?_⟩; intro env A s m σ Q P E en ao R F q hP
 have hn := size_none s.heap
 obtain ⟨ep, hat⟩ := (Heap.DictOf.new (knd := strKind C.prog C.w) s.heap).dictAt
 refine wpAny_Dict_empty (hP (.ref s.heap.objs.size) (.ref s.heap.objs.size) (upd σ s.heap.objs.size (.dict [] ep)) _ (.ref _) ?_ .addPush (q _ ep (R.freshNone hn)))
 have := R.add (tk := s.toks) (a := s.heap.objs.size) (o := .dict [] ep) push_old hn (h' := s.heap.push { cls := .type "dict", data := .dict #[] }) ⟨by simp, [], hat, trivial⟩
 exact this
noncomputable def setD : V → V → V → View → (View → Prop) → Prop
 | .ref a, .str k, v, σ, Q => ∃ kvs ep, σ a = some (.dict kvs ep) ∧ kvs.length < 16777216 ∧ ∀ ep', Q (upd σ a (.dict (vstored kvs k v) ep'))
 | _, _, _, _, _ => False
theorem dict_notT {h : Heap} {a : Addr} {kws : List (Str × Value)} {ep : Nat} (x : h.DictAt (strKind C.prog C.w) a kws ep) : ∀ o, h.get? a = some o → ¬ IsT o := by
 intro o ho
 obtain ⟨o', es, ho', hc, hd, _⟩ := x
 rw [ho] at ho'; cases ho'
 simp [IsT, hd]
theorem vstored_len (kvs : List (Str × V)) (x : Str) (v : V) : (vstored kvs x v).length ≤ kvs.length + 1 := by
 unfold vstored; split <;> simp
theorem ok_setD : OpSet C k setD := by
 intro A s σ o i v wo wi w Q P E ao R vo vi vv q hP
 unfold setD at q
 split at q
 ·rename_i a x
  cases vo; cases vi
  obtain ⟨kvs, ep, hx, hz, q⟩ := q
  obtain ⟨_, kws, h1, h2⟩ := R.view _ _ hx
  have hl := h2.length
  refine wpAny_setItem_pairs (knd := strKind C.prog C.w) (key_is x _) h1.dictOf (fun h' hd' hs' => ?_) (by rw [sizeLine_eq, ← hl]; omega)
  obtain ⟨ep', hat⟩ := hd'.dictAt
  have kt : TupKeep s.heap h' := fun b o eb ht => hs'.extBut b o (by rintro rfl; exact dict_notT h1 o eb ht) eb
  have vl := vstored_len kvs x v
  exact hP (upd σ a (.dict (vstored kvs x v) ep')) _ (R.change (tk := s.toks + 1) hx hs' ⟨by omega, _, hat, (h2.stored vv).keep kt⟩) (.change hx hs') (q ep')
 ·exact q.elim
noncomputable def opInD : O2
 | .str x, .ref a, σ, Q => ∃ kvs ep, σ a = some (.dict kvs ep) ∧ Q (.bool (vget kvs x).isSome) σ
 | _, _, _, _ => False
theorem ok_inD (O : C.Ok) : Op2 C k (compareOp .In) opInD := by
 intro A s σ a b wa wb Q P E ao R va vb q hP
 unfold opInD at q
 split at q
 ·rename_i x a
  cases va; cases vb
  obtain ⟨kvs, ep, hx, q⟩ := q
  obtain ⟨_, kws, h1, h2⟩ := R.view _ _ hx
  refine wpAny_in_of (knd := strKind C.prog C.w) (key_is x _) (O.noMods (R.apart a (by rw [hx]; simp))) h1.dictOf.mapOf ?_
  rw [← h2.none]
  exact hP _ _ σ _ (.bool _) (R.tok _) Step.refl q
 ·exact q.elim
noncomputable def opItemD : O2
 | .ref a, .str x, σ, Q => ∃ kvs ep v, σ a = some (.dict kvs ep) ∧ vget kvs x = some v ∧ Q v σ
 | _, _, _, _ => False
noncomputable def spListD : Spec
 | [.ref a], σ, Q => match σ a with
  | some (.dict kvs _) => newL (kvs.map fun q => .str q.1) σ Q
  | some (.list xs) => newL xs σ Q
  | _ => False
 | _, _, _ => False
theorem items_rel {aS : Addr} {h : Heap} : ∀ (vs : List V) (ws : List Value), ws.length = vs.length → (∀ (j : Nat) (v : V) w, vs[j]? = some v → ws[j]? = some w → VRel aS h v w) → VRels aS h vs ws
 | [], [], _, _ => .nil
 | [], _ :: _, h, _ => by simp at h
 | _ :: _, [], h, _ => by simp at h
 | v :: vs, w :: ws, hl, hj => .cons (hj 0 v w rfl rfl) (items_rel vs ws (by simpa using hl) fun j v w e1 e2 => hj (j + 1) v w (by simpa using e1) (by simpa using e2))
theorem ok_listD (O : C.Ok) (hpl : C.held = Option.none) : OpN C k (fun ws => PySem.call (.type "list") ws) spListD := by
 intro A s σ vs ws Q P E ao R hv q hP
 unfold spListD at q
 split at q
 ·rename_i a
  obtain ⟨wa, rfl, h1⟩ := hv.inv1
  cases h1
  split at q
  ·rename_i kvs ep hx
   obtain ⟨hz, kws, h2, h3⟩ := R.view _ _ hx
   have hl := h3.length
   refine with_size (kdl_call (kdl_dict (knd := strKind C.prog C.w) (kvs := kws) (ep := ep) (O.noMods (R.apart a (by rw [hx]; simp)))) (ao.none hpl) h2 (kdl_size (by omega)) fun h' tk acc c hk hD hacc => ?_)
   intro hsz
   have hn := size_none s.heap
   have rel : VRels C.aS h' (kvs.map fun q => .str q.1) acc.toList := by
    refine items_rel _ _ (by simp [hacc.1, hl]) fun j v w e1 e2 => ?_
    rw [List.getElem?_map] at e1
    obtain ⟨⟨ky, u⟩, e3, rfl⟩ := Option.map_eq_some_iff.mp e1
    obtain ⟨k', x', e4, e5⟩ := hacc.2 j w (by rw [← Array.getElem?_toList]; exact e2)
    obtain ⟨w', e6, _⟩ := h3.get e3
    rw [e6] at e4; cases e4
    obtain ⟨t, rfl⟩ := Value.isStrOf_shape e5
    exact .str _ _
   refine hP (.ref s.heap.objs.size) _ (upd σ s.heap.objs.size (.list (kvs.map fun q => .str q.1))) _ (.ref _) (R.add (tk := tk) hk hn ⟨by simp; omega, acc.toList, ⟨c, by simpa using hD⟩, rel⟩) (.add hk hsz (Nat.le_refl _)) (q _ (R.freshNone hn))
  ·rename_i xs hx
   obtain ⟨hz, us, ⟨n, h2⟩, h3⟩ := R.view _ _ hx
   have hl := h3.length
   refine with_size (call_list_seq a (.inl rfl) h2 rfl rfl (fun h' c' hk hD => ?_) (by rw [List.size_toArray, sizeLine_eq]; omega))
   intro hsz
   have hn := size_none s.heap
   exact hP (.ref s.heap.objs.size) _ (upd σ s.heap.objs.size (.list xs)) _ (.ref _) (R.add (tk := s.toks) hk hn ⟨hz, us, ⟨c', by simpa using hD⟩, h3.keep fun b o e _ => hk b o e⟩) (.add hk hsz (Nat.le_refl _)) (q _ (R.freshNone hn))
  ·exact q.elim
 ·exact q.elim
end
end Mine
end
noncomputable section
namespace Mine
open PySem PySem.W PyProof.Rows PySem.Calls
section
variable {C : Cx} {p : Program} {sc : Scope} {k : Nat}
theorem ok_itemD {slice : Expr} (hsl : isSlice slice = false) : Op2 C k (fun o i => getitemInPython o >>= fun b => subscripted slice b o i) opItemD := by
 intro A s σ a b wa wb Q P E ao R va vb q hP
 unfold opItemD at q
 split at q
 ·rename_i a x
  cases va; cases vb
  obtain ⟨kvs, ep, v, hx, hv, q⟩ := q
  obtain ⟨_, kws, h1, h2⟩ := R.view _ _ hx
  obtain ⟨w, e1, e2⟩ := h2.find hv
  exact item_tree hsl h1.dictOf.typeIs slot_dict_getitem.lookup (wpAny_getItem_of (knd := strKind C.prog C.w) (key_is x _) h1.dictOf.mapOf e1 (hP _ _ σ _ e2 (R.tok _) Step.refl q))
 ·exact q.elim
theorem HE.itemD {value slice : Expr} {pos : Pos} {T U : ET} (hv : HE C sc k value T) (hi : HE C sc k slice U) (hs : isSlice slice = false) : HE C sc k (.Subscript value slice pos) (eBin opItemD T U) :=
 HE.sub hv hi (ok_itemD hs)
noncomputable def tyDict : V → View → Prop
 | .ref a, σ => ∃ kvs ep, σ a = some (.dict kvs ep)
 | _, _ => False
theorem tyDict_ok : TyOk C "dict" tyDict := by
 intro o wo σ s R hv h
 cases hv <;> first | exact h.elim | skip
 obtain ⟨kvs, ep, hx⟩ := h
 obtain ⟨_, ws, h1, h2⟩ := R.view _ _ hx
 exact ⟨h1.dictOf.typeIs, h1.dictOf.mapOf.noDict⟩
theorem vout_len (kvs : List (Str × V)) (x : Str) : (vout kvs x).length ≤ kvs.length := List.length_filter_le _ _
noncomputable def spPop : Spec
 | [.ref a, .str x], σ, Q => ∃ kvs ep v, σ a = some (.dict kvs ep) ∧ vget kvs x = some v ∧ ∀ ep', Q v (upd σ a (.dict (vout kvs x) ep'))
 | _, _, _ => False
theorem ok_pop : OpN C k (fun ws => PySem.call (.builtin "dict.pop") ws) spPop := by
 intro A s σ vs ws Q P E ao R hv q hP
 unfold spPop at q
 split at q
 ·rename_i a x
  obtain ⟨wa, wb, rfl, h1, h2⟩ := hv.inv2
  cases h1; cases h2
  obtain ⟨kvs, ep, v, hx, hv, q⟩ := q
  obtain ⟨hz, kws, h1, h2⟩ := R.view _ _ hx
  obtain ⟨w, e1, e2⟩ := h2.find hv
  have hl := h2.length
  refine call_meetsIn F.slot_dict_pop h1.dictOf.typeIs F.entry_dict_pop (F.args_dict_pop_2 _ _) (meets_dict_pop_there (strKind C.prog C.w) a (key_is x _) [] (.inl rfl) rfl) ⟨kws, w, h1.dictOf, by rw [sizeLine_eq]; omega, e1, fun h' hd' hs' => ?_⟩
  obtain ⟨ep', hat⟩ := hd'.dictAt
  have kt : TupKeep s.heap h' := fun b o eb ht => hs'.extBut b o (by rintro rfl; exact dict_notT h1 o eb ht) eb
  have vl := vout_len kvs x
  exact hP v w (upd σ a (.dict (vout kvs x) ep')) _ (e2.keep kt) (R.change (tk := s.toks + 1) hx hs' ⟨by omega, _, hat, h2.without.keep kt⟩) (.change hx hs') (q ep')
 ·exact q.elim
theorem HE.popD {o : Expr} {apos pos : Pos} {es : List Expr} {To : ET} {L : LT} (ho : HE C sc k o To) (hl : HL C sc k es L) (hp : plainArgs es = true)
  (hbase : ∀ env, attributeBase o (Str.ofString "pop") env (eval o env) = eval o env) (hline : (apos.endLine == pos.line) = true) (hfew : es.length < 30) : HE C sc k (.Call (.Attribute o (Str.ofString "pop") apos) es [] pos) (eMeth tyDict spPop To L) :=
 HE.meth tyDict_ok F.plainAttrs_dict F.slot_dict_pop F.type_dict_pop ok_pop ho hl hp hbase hline hfew
theorem HE.listC (G : Gl C p) (hpl : C.held = Option.none) {np pos : Pos} {es : List Expr} {L : LT} (hn : sc.names.lookup (Str.ofString "list") = some .globalImplicit) (hl : HL C sc k es L) (hp : plainArgs es = true) : HE C sc k (.Call (.Name (Str.ofString "list") np) es [] pos) (eCall spListD L) :=
 HE.btype G.ok (ok_listD G.ok hpl) hn (G.free _ (by decide)) (G.blt bb_list (by decide)) rfl hl hp
end
end Mine
end
noncomputable section
namespace Mine
open PySem PySem.W PyProof.Rows PySem.Calls
theorem compL_all {g : Tgt} {inv : View → Prop} {T : ET} {m : Loc} (P : View → Prop) (R : Nat → V → Prop) (hinv : ∀ σ, P σ → inv σ) :
  ∀ (items acc : List V) (n : Nat) (σ : View) (Q : List V → View → Prop), acc.length + items.length ≤ 1048576 →
  (∀ (i : Nat) v, items[i]? = some v → ∀ σ (Q' : V → View → Prop), P σ → (∀ y σ', P σ' → R (n + i) y → Q' y σ') → ∃ m', bindT g v m = some m' ∧ T m' σ Q') →
  P σ → (∀ ys σ', P σ' → ys.length = items.length → (∀ (i : Nat) y, ys[i]? = some y → R (n + i) y) → Q (acc ++ ys) σ') → compL g inv tT T m items acc σ Q
 | [], acc, n, σ, Q, hz, step, p, q => by
  simp only [compL]
  exact ⟨hinv σ p, by simpa using q [] σ p rfl (fun i y e => by simp at e)⟩
 | v :: r, acc, n, σ, Q, hz, step, p, q => by
  simp only [compL]
  simp at hz
  obtain ⟨m', h1, h2⟩ := step 0 v rfl σ (fun y σ₂ => acc.length < 1048576 ∧ compL g inv tT T m r (acc ++ [y]) σ₂ Q) p (fun y σ' p' hy => by
   refine ⟨by exact Nat.lt_of_le_of_lt (Nat.le_add_right _ _) hz, compL_all P R hinv r (acc ++ [y]) (n + 1) σ' Q (by simp; exact Nat.le_of_not_lt fun hg => lin [(acc.length), (r.length)] [(1, (.a (.v 0) (.a (.v 1) (.n 1))), (.n 1048576)), (1, (.a (.n 1048576) (.n 1)), (.a (.a (.v 0) (.n 1)) (.v 1)))] rfl hz hg) (fun i v e => ?_) p' fun ys σ'' p'' hl hR => ?_⟩
   ·have := step (i + 1) v (by simpa using e)
    rw [show n + (i + 1) = n + 1 + i by omega] at this
    exact this
   ·have := q (y :: ys) σ'' p'' (by simp [hl]) fun i z e => by
     cases i with
     | zero => simp at e; subst e; exact hy
     | succ i => rw [show n + (i + 1) = n + 1 + i by omega]; exact hR i z (by simpa using e)
    simpa using this)
  exact ⟨hinv σ p, m', h1, by simpa [tT] using h2⟩
section
variable {σ : View} {Q : V → View → Prop} {ns : List Int}
theorem add_list {a b : Addr} {xs ys : List V} (ha : σ a = some (.list xs)) (hb : σ b = some (.list ys)) (hz : xs.length + ys.length ≤ 16777216) (q : newL (xs ++ ys) σ Q) : opAdd (.ref a) (.ref b) σ Q := ⟨xs, ys, ha, hb, hz, q⟩
@[simp] theorem eDict0_eq {m : Loc} : eDict0 m σ Q = newD [] σ Q := rfl
theorem set_dict {a : Addr} {kvs : List (Str × V)} {ep : Nat} {x : Str} {v : V} {R : View → Prop} (h : σ a = some (.dict kvs ep)) (hz : kvs.length < 16777216) (q : ∀ ep', R (upd σ a (.dict (vstored kvs x v) ep'))) : setD (.ref a) (.str x) v σ R := ⟨kvs, ep, h, hz, q⟩
theorem in_dict {a : Addr} {kvs : List (Str × V)} {ep : Nat} {x : Str} (h : σ a = some (.dict kvs ep)) (q : Q (.bool (vget kvs x).isSome) σ) : opInD (.str x) (.ref a) σ Q := ⟨kvs, ep, h, q⟩
theorem item_dict {a : Addr} {kvs : List (Str × V)} {ep : Nat} {x : Str} {v : V} (h : σ a = some (.dict kvs ep)) (hv : vget kvs x = some v) (q : Q v σ) : opItemD (.ref a) (.str x) σ Q := ⟨kvs, ep, v, h, hv, q⟩
theorem pop_dict {a : Addr} {kvs : List (Str × V)} {ep : Nat} {x : Str} {v : V} (h : σ a = some (.dict kvs ep)) (hv : vget kvs x = some v) (q : ∀ ep', Q v (upd σ a (.dict (vout kvs x) ep'))) : spPop [.ref a, .str x] σ Q := ⟨kvs, ep, v, h, hv, q⟩
theorem listc_list {a : Addr} {xs : List V} (h : σ a = some (.list xs)) : spListD [.ref a] σ Q = newL xs σ Q := by unfold spListD; simp [h]
theorem tyDict_ref {a : Addr} {kvs : List (Str × V)} {ep : Nat} (h : σ a = some (.dict kvs ep)) : tyDict (.ref a) σ = True := by simp [tyDict, h]
theorem iter_dict {a : Addr} {kvs : List (Str × V)} {ep : Nat} (h : σ a = some (.dict kvs ep)) {R : List V → (View → Prop) → View → Prop} : iterOf ns (.ref a) σ R = R (kvs.map fun q => .str q.1) (fun σ => σ a = some (.dict kvs ep)) σ := by unfold iterOf; simp [h]
end
theorem vget_isSome (kvs : List (Str × V)) (x : Str) : (vget kvs x).isSome = decide (x ∈ kvs.map (·.1)) := by
 unfold vget
 rw [Option.isSome_map, Bool.eq_iff_iff, List.find?_isSome]
 simp
theorem vget_mem {kvs : List (Str × V)} {x : Str} (h : x ∈ kvs.map (·.1)) : ∃ v, vget kvs x = some v ∧ (x, v) ∈ kvs := by
 have := vget_isSome kvs x
 rw [decide_eq_true h] at this
 obtain ⟨v, hv⟩ := Option.isSome_iff_exists.mp this
 refine ⟨v, hv, ?_⟩
 unfold vget at hv
 obtain ⟨⟨k', v'⟩, h1, h2⟩ := Option.map_eq_some_iff.mp hv
 have h3 := List.find?_some h1
 have h4 := List.mem_of_find?_eq_some h1
 simp at h3 h2
 subst h3; subst h2; exact h4
theorem vstored_mem {kvs : List (Str × V)} {k : Str} {v : V} {q : Str × V} (h : q ∈ vstored kvs k v) : q = (k, v) ∨ q ∈ kvs := by
 unfold vstored at h
 split at h
 ·obtain ⟨r, hr, rfl⟩ := List.mem_map.mp h
  by_cases c : r.1 = k
  ·rw [if_pos c, c]; exact .inl rfl
  ·rw [if_neg c]; exact .inr hr
 ·rcases List.mem_append.mp h with h | h
  ·exact .inr h
  ·simp at h; exact .inl h
theorem vstored_keys (kvs : List (Str × V)) (k : Str) (v : V) : ∀ x, x ∈ (vstored kvs k v).map (·.1) ↔ x = k ∨ x ∈ kvs.map (·.1) := by
 intro x
 unfold vstored
 split
 ·rename_i h
  have e : (kvs.map fun kv => if kv.1 = k then (kv.1, v) else kv).map (·.1) = kvs.map (·.1) := by
   rw [List.map_map]; apply List.map_congr_left; intro q _; simp only [Function.comp]; split <;> rfl
  rw [e]
  have hk : k ∈ kvs.map (·.1) := by
   obtain ⟨q, hq, e⟩ := List.any_eq_true.mp h
   exact List.mem_map.mpr ⟨q, hq, by simpa using e⟩
  constructor
  ·exact .inr
  ·rintro (rfl | h)
   ·exact hk
   ·exact h
 ·simp only [List.map_append, List.mem_append, List.map_cons, List.map_nil, List.mem_singleton]
  constructor
  ·rintro (h | h)
   ·exact .inr h
   ·exact .inl h
  ·rintro (h | h)
   ·exact .inr h
   ·exact .inl h
theorem vstored_nodup {kvs : List (Str × V)} {k : Str} {v : V} (h : (kvs.map (·.1)).Nodup) : ((vstored kvs k v).map (·.1)).Nodup := by
 unfold vstored
 split
 ·have e : (kvs.map fun kv => if kv.1 = k then (kv.1, v) else kv).map (·.1) = kvs.map (·.1) := by
   rw [List.map_map]; apply List.map_congr_left; intro q _; simp only [Function.comp]; split <;> rfl
  rw [e]; exact h
 ·rename_i hn
  rw [List.map_append, List.nodup_append]
  refine ⟨h, by simp, ?_⟩
  intro a ha b hb
  simp at hb
  subst hb
  rintro rfl
  obtain ⟨q, hq, e⟩ := List.mem_map.mp ha
  exact hn (List.any_eq_true.mpr ⟨q, hq, by simpa using e⟩)
theorem vout_keys (kvs : List (Str × V)) (k : Str) : ∀ x, x ∈ (vout kvs k).map (·.1) ↔ x ≠ k ∧ x ∈ kvs.map (·.1) := by
 intro x
 unfold vout
 constructor
 ·intro h
  obtain ⟨q, hq, rfl⟩ := List.mem_map.mp h
  obtain ⟨h1, h2⟩ := List.mem_filter.mp hq
  exact ⟨by simpa using h2, List.mem_map.mpr ⟨q, h1, rfl⟩⟩
 ·rintro ⟨h1, h2⟩
  obtain ⟨q, hq, rfl⟩ := List.mem_map.mp h2
  exact List.mem_map.mpr ⟨q, List.mem_filter.mpr ⟨hq, by simpa using h1⟩, rfl⟩
theorem vout_nodup {kvs : List (Str × V)} {k : Str} (h : (kvs.map (·.1)).Nodup) : ((vout kvs k).map (·.1)).Nodup := h.sublist (List.filter_sublist.map _)
theorem vout_mem {kvs : List (Str × V)} {k : Str} {q : Str × V} (h : q ∈ vout kvs k) : q ∈ kvs := (List.mem_filter.mp h).1
end Mine
end
noncomputable section
namespace Mine
open PySem AutoSeq1 MeetsSeq MeetsSeq2 MeetsSeq3 SeqRoads2
noncomputable def EqW (C : Cx) (A : Around) (s : Shared) (y x : Value) (b : Bool) : Prop :=
 ∀ (E : Value → Shared → Prop) (Q : Bool → Shared → Prop), Q b s → wpAny (model C.prog C.w) A (eqBool y x) Q E s
noncomputable def EqWs (C : Cx) (A : Around) (s : Shared) : List Value → List Value → Bool → Prop
 | [], [], b => b = true
 | [], _ :: _, b => b = false
 | _ :: _, [], b => b = false
 | x :: xs, y :: ys, b => ∃ e, EqW C A s x y e ∧ ((e = true ∧ EqWs C A s xs ys b) ∨ (e = false ∧ b = false))
noncomputable def turnB (op : CmpOp) (b : Bool) : Bool := match op with | .Eq => b | _ => !b
noncomputable def CmpW (C : Cx) (A : Around) (s : Shared) (y x : Value) (b : Bool) : Prop :=
 ∀ (op : CmpOp) (E : Value → Shared → Prop) (Q : Value → Shared → Prop), op = .Eq ∨ op = .NotEq → Q (.bool (turnB op b)) s → wpAny (model C.prog C.w) A (richCompare op y x) Q E s
section
variable {C : Cx} {A : Around} {s : Shared}
theorem EqW.of_refs {l b : Addr} {k : Bool} (hne : l ≠ b) (h : CmpW C A s (.ref l) (.ref b) k) : EqW C A s (.ref l) (.ref b) k := fun E Q hq => by
 unfold eqBool
 refine wpAny_holding ?_
 refine wpAny_ite_split (fun hab => absurd (by have := eq_of_beq hab; injection this) hne) (fun _ => ?_)
 exact wpAny_bind (h .Eq E _ (.inl rfl) (wpAny_truthy_bool hq))
theorem EqW.at {y x : Value} {b : Bool} (h : SeqAt.EqAt A s y x b) : EqW C A s y x b := fun E Q hq => h C.prog C.w E Q hq
end
end Mine
end
noncomputable section
namespace Mine
open PySem AutoSeq1 MeetsSeq MeetsSeq2 MeetsSeq3 SeqRoads2
section
variable {C : Cx}
theorem EqWs.fin {A : Around} {s : Shared} {r : Bool} : ∀ {us vs : List Value}, [] = us.zip vs → EqWs C A s us vs r → r = decide (us.length = vs.length)
 | [], [], _, h => by cases (h : r = true); rfl
 | [], _ :: _, _, h => by cases (h : r = false); rfl
 | _ :: _, [], _, h => by cases (h : r = false); rfl
 | _ :: _, _ :: _, e, _ => by simp at e
theorem tup_eqW {A : Around} {s : Shared} {R : Result → Shared → Prop} (l b : Addr) (xs ys : List Value) (n n2 : Nat) (dd dd2 : Option Addr) (sl sl2 : Array (Option Value)) {r : Bool}
  (hl : s.heap.get? l = some { cls := .type "tuple", dict := dd, data := .seq xs.toArray n, slots := sl }) (hb : s.heap.get? b = some { cls := .type "tuple", dict := dd2, data := .seq ys.toArray n2, slots := sl2 })
  (he : EqWs C A.in1 s xs ys r) (h : R (.ok (.ret (.bool r))) s) :
  wpAny (model C.prog C.w) A.in1 (Builtin.«tuple.__eq__» ⟨[.ref l, .ref b], []⟩) (fun fin s' => match fin with | .done f => R (.ok f) s' | .again c' => c'.quiet = true ∧ codeAny (model C.prog C.w) A c' R s') (fun e s' => R (.error e) s') s := by
 obtain ⟨hp, g, d, tk, os⟩ := s
 have f2 := AutoSeq1.sub_tuple_tuple
 wp_walk using wpAny_loadPart' hl, wpAny_loadPart' hb, wpAny_forIn_list _ (fun rest b s' => b.1 = none ∧ s' = ⟨hp, g, d, tk, os⟩ ∧ ∃ us vs, rest = us.zip vs ∧ EqWs C A.in1 ⟨hp, g, d, tk, os⟩ us vs r ∧ (xs.length = ys.length ↔ us.length = vs.length)) _
 case turn =>
  rintro ⟨x, y⟩ rest b s' ⟨hb', rfl, us, vs, hz, hr, hlen⟩
  match us, vs, hz, hr with
  | [], _, hz, _ => simp at hz
  | _ :: _, [], hz, _ => simp at hz
  | u :: us, v :: vs, hz, ⟨e, h1, h2⟩ =>
   simp only [List.zip_cons_cons, List.cons.injEq, Prod.mk.injEq] at hz
   obtain ⟨⟨rfl, rfl⟩, rfl⟩ := hz
   dsimp only
   refine wpAny_bind (h1 _ _ ?_)
   rcases h2 with ⟨rfl, h2⟩ | ⟨rfl, h2⟩
   ·simp only [Bool.not_true, Bool.false_eq_true, if_false]
    exact wpAny_pure ⟨rfl, rfl, us, vs, rfl, h2, by simpa using hlen⟩
   ·subst h2
    simp only [Bool.not_false, if_true]
    refine wpAny_bind (wpAny_pure (wpAny_pure ?_))
    exact wpAny_pure h
 case fin =>
  rintro ⟨b1, b2⟩ s' ⟨hb', rfl, us, vs, hz, hr, hlen⟩
  simp only at hb'
  subst hb'
  have e := EqWs.fin hz hr
  dsimp only
  refine wpAny_pure ?_
  have e2 : Builtin.Tuple.tupleCompareSizes CmpOp.Eq xs.toArray.size ys.toArray.size = .bool r := by
   show Value.bool (xs.toArray.size == ys.toArray.size) = _
   rw [e, List.size_toArray, List.size_toArray]
   by_cases hq : xs.length = ys.length
   ·simp [hq, hlen.mp hq]
   ·have : ¬ us.length = vs.length := fun z => hq (hlen.mpr z)
    simp [hq, this]
  rw [e2]
  exact h
 case h => exact ⟨rfl, rfl, xs, ys, by simp, he, Iff.rfl⟩
theorem loop_eqW (l b : Addr) (xs ys : List Value) (n n2 : Nat) (dd dd2 : Option Addr) (sl sl2 : Array (Option Value)) (hsz : xs.length = ys.length) : ∀ (us vs : List Value) (i : Nat) {A : Around} {s : Shared} {R : Result → Shared → Prop} {r : Bool},
  us = xs.drop i → vs = ys.drop i → i ≤ xs.length →
  s.heap.get? l = some { cls := .type "list", dict := dd, data := .seq xs.toArray n, slots := sl } → s.heap.get? b = some { cls := .type "list", dict := dd2, data := .seq ys.toArray n2, slots := sl2 } →
  EqWs C A.in1 s us vs r → R (.ok (.ret (.bool r))) s →
  wpAny (model C.prog C.w) A.in1 (Builtin.«list.__eq__.loop» ⟨[.ref l, .ref b, rawInt i, rawInt 2], []⟩) (fun fin s' => match fin with | .done f => R (.ok f) s' | .again c' => c'.quiet = true ∧ codeAny (model C.prog C.w) A c' R s') (fun e s' => R (.error e) s') s := by
 intro us
 induction us with
 | nil =>
  intro vs i A s R r e1 e2 hi hl hb he h
  obtain ⟨hp, g, d, tk, os⟩ := s
  have hil : i = xs.length := by have := congrArg List.length e1; simp at this; omega
  have hv : vs = [] := by rw [e2]; exact List.drop_of_length_le (by exact Nat.le_of_not_lt fun hg => lin [(xs.length), (ys.length), i] [(1, (.v 1), (.v 0)), (1, (.v 0), (.v 2)), (1, (.a (.v 2) (.n 1)), (.v 1))] rfl (Nat.le_of_eq (Eq.symm hsz)) (Nat.le_of_eq (Eq.symm hil)) hg)
  subst hv
  cases (he : r = true)
  wp_walk using wpAny_loadPart' hl, wpAny_loadPart' hb
  have hi1 : xs.toArray[((i : Nat) : Int).toNat]? = none := by simp; exact Nat.le_of_eq hil.symm
  have hi2 : ys.toArray[((i : Nat) : Int).toNat]? = none := by simp; exact Nat.le_of_not_lt fun hg => lin [(xs.length), (ys.length), i] [(1, (.v 1), (.v 0)), (1, (.v 0), (.v 2)), (1, (.a (.v 2) (.n 1)), (.v 1))] rfl (Nat.le_of_eq (Eq.symm hsz)) (Nat.le_of_eq (Eq.symm hil)) hg
  rw [hi1, hi2]
  wp_walk using wpAny_loadPart' hl, wpAny_loadPart' hb
  show R (.ok (.ret (.bool (xs.toArray.size == ys.toArray.size)))) _
  simpa [hsz] using h
 | cons u us ih =>
  intro vs i A s R r e1 e2 hi hl hb he h
  obtain ⟨hp, g, d, tk, os⟩ := s
  have hlt : i < xs.length := by have := congrArg List.length e1; simp at this; omega
  have hlt2 : i < ys.length := by exact Nat.lt_of_lt_of_eq hlt hsz
  rw [List.drop_eq_getElem_cons hlt] at e1
  rw [List.drop_eq_getElem_cons hlt2] at e2
  injection e1 with e1 e3
  subst e2
  obtain ⟨e, h1, h2⟩ := he
  have hi1 : xs.toArray[((i : Nat) : Int).toNat]? = some u := by simp [hlt, e1]
  have hi2 : ys.toArray[((i : Nat) : Int).toNat]? = some ys[i] := by simp [hlt2]
  have hc : ((i : Int) + 1) = ((i + 1 : Nat) : Int) := by push_cast; rfl
  wp_walk using wpAny_loadPart' hl, wpAny_loadPart' hb
  rw [hi1, hi2]
  refine wpAny_bind (h1 _ _ ?_)
  rcases h2 with ⟨rfl, h2⟩ | ⟨rfl, h2⟩
  ·wp_walk
   rw [hc]
   exact ⟨plainId_quiet plain_eq_loop _, codeAny_builtin entry_eq_loop (by
    rw [Around.under_plainId plain_eq_loop _]
    exact ih (ys.drop (i + 1)) (i + 1) e3 rfl (by exact hlt) hl hb h2 h)⟩
  ·subst h2
   wp_walk using wpAny_loadPart' hl, wpAny_loadPart' hb
   rw [hi1, hi2]
   wp_walk
   simpa using h
theorem list_eqW {A : Around} {s : Shared} {R : Result → Shared → Prop} (l b : Addr) (xs ys : List Value) (n n2 : Nat) (dd dd2 : Option Addr) (sl sl2 : Array (Option Value)) {r : Bool}
  (hl : s.heap.get? l = some { cls := .type "list", dict := dd, data := .seq xs.toArray n, slots := sl }) (hb : s.heap.get? b = some { cls := .type "list", dict := dd2, data := .seq ys.toArray n2, slots := sl2 })
  (he : xs.length = ys.length → EqWs C A.in1 s xs ys r) (hne : xs.length ≠ ys.length → r = false) (h : R (.ok (.ret (.bool r))) s) :
  wpAny (model C.prog C.w) A.in1 (Builtin.«list.__eq__» ⟨[.ref l, .ref b], []⟩) (fun fin s' => match fin with | .done f => R (.ok f) s' | .again c' => c'.quiet = true ∧ codeAny (model C.prog C.w) A c' R s') (fun e s' => R (.error e) s') s := by
 obtain ⟨hp, g, d, tk, os⟩ := s
 have f3 := AutoSeq1.sub_list_list
 by_cases hsz : xs.length = ys.length
 ·have hn' : ¬ (xs.toArray.size != ys.toArray.size) = true := by simp [hsz]
  wp_walk using wpAny_loadPart' hl, wpAny_loadPart' hb
  exact ⟨plainId_quiet plain_eq_loop _, codeAny_builtin entry_eq_loop (by
   rw [Around.under_plainId plain_eq_loop _]
   exact loop_eqW l b xs ys n n2 dd dd2 sl sl2 hsz xs ys 0 rfl rfl (Nat.zero_le _) hl hb (he hsz) h)⟩
 ·have hc0 : (xs.toArray.size != ys.toArray.size) = true := by simpa using hsz
  cases hne hsz
  wp_walk using wpAny_loadPart' hl, wpAny_loadPart' hb
  exact h
theorem tup_neW {A : Around} {s : Shared} {R : Result → Shared → Prop} (l b : Addr) (xs ys : List Value) (n n2 : Nat) (dd dd2 : Option Addr) (sl sl2 : Array (Option Value)) {r : Bool}
  (hl : s.heap.get? l = some { cls := .type "tuple", dict := dd, data := .seq xs.toArray n, slots := sl }) (hb : s.heap.get? b = some { cls := .type "tuple", dict := dd2, data := .seq ys.toArray n2, slots := sl2 })
  (he : EqWs C A.in1 s xs ys r) (h : R (.ok (.ret (.bool (!r)))) s) :
  wpAny (model C.prog C.w) A.in1 (Builtin.«tuple.__ne__» ⟨[.ref l, .ref b], []⟩) (fun fin s' => match fin with | .done f => R (.ok f) s' | .again c' => c'.quiet = true ∧ codeAny (model C.prog C.w) A c' R s') (fun e s' => R (.error e) s') s := by
 obtain ⟨hp, g, d, tk, os⟩ := s
 have f2 := AutoSeq1.sub_tuple_tuple
 wp_walk using wpAny_loadPart' hl, wpAny_loadPart' hb, wpAny_forIn_list _ (fun rest b s' => b.1 = none ∧ s' = ⟨hp, g, d, tk, os⟩ ∧ ∃ us vs, rest = us.zip vs ∧ EqWs C A.in1 ⟨hp, g, d, tk, os⟩ us vs r ∧ (xs.length = ys.length ↔ us.length = vs.length)) _
 case turn =>
  rintro ⟨x, y⟩ rest b s' ⟨hb', rfl, us, vs, hz, hr, hlen⟩
  match us, vs, hz, hr with
  | [], _, hz, _ => simp at hz
  | _ :: _, [], hz, _ => simp at hz
  | u :: us, v :: vs, hz, ⟨e, h1, h2⟩ =>
   simp only [List.zip_cons_cons, List.cons.injEq, Prod.mk.injEq] at hz
   obtain ⟨⟨rfl, rfl⟩, rfl⟩ := hz
   dsimp only
   refine wpAny_bind (h1 _ _ ?_)
   rcases h2 with ⟨rfl, h2⟩ | ⟨rfl, h2⟩
   ·simp only [Bool.not_true, Bool.false_eq_true, if_false]
    exact wpAny_pure ⟨rfl, rfl, us, vs, rfl, h2, by simpa using hlen⟩
   ·subst h2
    simp only [Bool.not_false, if_true]
    refine wpAny_bind (wpAny_pure (wpAny_pure ?_))
    exact wpAny_pure h
 case fin =>
  rintro ⟨b1, b2⟩ s' ⟨hb', rfl, us, vs, hz, hr, hlen⟩
  simp only at hb'
  subst hb'
  have e := EqWs.fin hz hr
  dsimp only
  refine wpAny_pure ?_
  have e2 : Builtin.Tuple.tupleCompareSizes CmpOp.NotEq xs.toArray.size ys.toArray.size = .bool (!r) := by
   show Value.bool (xs.toArray.size != ys.toArray.size) = _
   rw [e, List.size_toArray, List.size_toArray]
   by_cases hq : xs.length = ys.length
   ·simp [hq, hlen.mp hq]
   ·have : ¬ us.length = vs.length := fun z => hq (hlen.mpr z)
    simp [hq, this]
  rw [e2]
  exact h
 case h => exact ⟨rfl, rfl, xs, ys, by simp, he, Iff.rfl⟩
theorem loop_neW (l b : Addr) (xs ys : List Value) (n n2 : Nat) (dd dd2 : Option Addr) (sl sl2 : Array (Option Value)) (hsz : xs.length = ys.length) : ∀ (us vs : List Value) (i : Nat) {A : Around} {s : Shared} {R : Result → Shared → Prop} {r : Bool},
  us = xs.drop i → vs = ys.drop i → i ≤ xs.length →
  s.heap.get? l = some { cls := .type "list", dict := dd, data := .seq xs.toArray n, slots := sl } → s.heap.get? b = some { cls := .type "list", dict := dd2, data := .seq ys.toArray n2, slots := sl2 } →
  EqWs C A.in1 s us vs r → R (.ok (.ret (.bool (!r)))) s →
  wpAny (model C.prog C.w) A.in1 (Builtin.«list.__eq__.loop» ⟨[.ref l, .ref b, rawInt i, rawInt 3], []⟩) (fun fin s' => match fin with | .done f => R (.ok f) s' | .again c' => c'.quiet = true ∧ codeAny (model C.prog C.w) A c' R s') (fun e s' => R (.error e) s') s := by
 intro us
 induction us with
 | nil =>
  intro vs i A s R r e1 e2 hi hl hb he h
  obtain ⟨hp, g, d, tk, os⟩ := s
  have hil : i = xs.length := by have := congrArg List.length e1; simp at this; omega
  have hv : vs = [] := by rw [e2]; exact List.drop_of_length_le (by exact Nat.le_of_not_lt fun hg => lin [(xs.length), (ys.length), i] [(1, (.v 1), (.v 0)), (1, (.v 0), (.v 2)), (1, (.a (.v 2) (.n 1)), (.v 1))] rfl (Nat.le_of_eq (Eq.symm hsz)) (Nat.le_of_eq (Eq.symm hil)) hg)
  subst hv
  cases (he : r = true)
  wp_walk using wpAny_loadPart' hl, wpAny_loadPart' hb
  have hi1 : xs.toArray[((i : Nat) : Int).toNat]? = none := by simp; exact Nat.le_of_eq hil.symm
  have hi2 : ys.toArray[((i : Nat) : Int).toNat]? = none := by simp; exact Nat.le_of_not_lt fun hg => lin [(xs.length), (ys.length), i] [(1, (.v 1), (.v 0)), (1, (.v 0), (.v 2)), (1, (.a (.v 2) (.n 1)), (.v 1))] rfl (Nat.le_of_eq (Eq.symm hsz)) (Nat.le_of_eq (Eq.symm hil)) hg
  rw [hi1, hi2]
  wp_walk using wpAny_loadPart' hl, wpAny_loadPart' hb
  show R (.ok (.ret (.bool (xs.toArray.size != ys.toArray.size)))) _
  simpa [hsz] using h
 | cons u us ih =>
  intro vs i A s R r e1 e2 hi hl hb he h
  obtain ⟨hp, g, d, tk, os⟩ := s
  have hlt : i < xs.length := by have := congrArg List.length e1; simp at this; omega
  have hlt2 : i < ys.length := by exact Nat.lt_of_lt_of_eq hlt hsz
  rw [List.drop_eq_getElem_cons hlt] at e1
  rw [List.drop_eq_getElem_cons hlt2] at e2
  injection e1 with e1 e3
  subst e2
  obtain ⟨e, h1, h2⟩ := he
  have hi1 : xs.toArray[((i : Nat) : Int).toNat]? = some u := by simp [hlt, e1]
  have hi2 : ys.toArray[((i : Nat) : Int).toNat]? = some ys[i] := by simp [hlt2]
  have hc : ((i : Int) + 1) = ((i + 1 : Nat) : Int) := by push_cast; rfl
  wp_walk using wpAny_loadPart' hl, wpAny_loadPart' hb
  rw [hi1, hi2]
  refine wpAny_bind (h1 _ _ ?_)
  rcases h2 with ⟨rfl, h2⟩ | ⟨rfl, h2⟩
  ·wp_walk
   rw [hc]
   exact ⟨plainId_quiet plain_eq_loop _, codeAny_builtin entry_eq_loop (by
    rw [Around.under_plainId plain_eq_loop _]
    exact ih (ys.drop (i + 1)) (i + 1) e3 rfl (by exact hlt) hl hb h2 h)⟩
  ·subst h2
   wp_walk using wpAny_loadPart' hl, wpAny_loadPart' hb
   rw [hi1, hi2]
   wp_walk
   simpa using h
theorem list_neW {A : Around} {s : Shared} {R : Result → Shared → Prop} (l b : Addr) (xs ys : List Value) (n n2 : Nat) (dd dd2 : Option Addr) (sl sl2 : Array (Option Value)) {r : Bool}
  (hl : s.heap.get? l = some { cls := .type "list", dict := dd, data := .seq xs.toArray n, slots := sl }) (hb : s.heap.get? b = some { cls := .type "list", dict := dd2, data := .seq ys.toArray n2, slots := sl2 })
  (he : xs.length = ys.length → EqWs C A.in1 s xs ys r) (hne : xs.length ≠ ys.length → r = false) (h : R (.ok (.ret (.bool (!r)))) s) :
  wpAny (model C.prog C.w) A.in1 (Builtin.«list.__ne__» ⟨[.ref l, .ref b], []⟩) (fun fin s' => match fin with | .done f => R (.ok f) s' | .again c' => c'.quiet = true ∧ codeAny (model C.prog C.w) A c' R s') (fun e s' => R (.error e) s') s := by
 obtain ⟨hp, g, d, tk, os⟩ := s
 have f3 := AutoSeq1.sub_list_list
 by_cases hsz : xs.length = ys.length
 ·have hn' : ¬ (xs.toArray.size != ys.toArray.size) = true := by simp [hsz]
  wp_walk using wpAny_loadPart' hl, wpAny_loadPart' hb
  exact ⟨plainId_quiet plain_eq_loop _, codeAny_builtin entry_eq_loop (by
   rw [Around.under_plainId plain_eq_loop _]
   exact loop_neW l b xs ys n n2 dd dd2 sl sl2 hsz xs ys 0 rfl rfl (Nat.zero_le _) hl hb (he hsz) h)⟩
 ·have hc0 : (xs.toArray.size != ys.toArray.size) = true := by simpa using hsz
  cases hne hsz
  wp_walk using wpAny_loadPart' hl, wpAny_loadPart' hb
  exact h
end
end Mine
end
noncomputable section
namespace Mine
open PySem PyProof.Rows
noncomputable def dfl : Keyed := (.none, .none)
noncomputable def tk {O : KeyOrd} (key : Keyed → O.α) (xs : Array Keyed) (i : Nat) : O.α := key (xs[i]?.getD dfl)
noncomputable def SIn {O : KeyOrd} (key : Keyed → O.α) (xs : Array Keyed) (i j : Nat) : Prop := ∀ p q, i ≤ p → p ≤ q → q < j → O.kle (tk key xs p) (tk key xs q)
noncomputable def NIn {O : KeyOrd} (key : Keyed → O.α) (xs : Array Keyed) (i j : Nat) : Prop := ∀ p q, i ≤ p → p ≤ q → q < j → O.kle (tk key xs q) (tk key xs p)
structure SB (kd : SortKind) (a₀ : Array Keyed) (st : SortSt) : Prop where
 perm : (arrOf st).Perm a₀
 kind : kindOf st = kd
 failed : failedOf st = none
structure Kept (lo : Nat) (st st' : SortSt) : Prop where
 pend : pendingOf st' = pendingOf st
 low : ∀ k, k < lo → (arrOf st')[k]? = (arrOf st)[k]?
noncomputable def LtOk (prog : Program) (w : World) (A : Around) (E : Value → Shared → Prop) (s : Shared) (kd : SortKind) (O : KeyOrd) (key : Keyed → O.α) (a₀ : Array Keyed) : Prop :=
 ∀ x y, x ∈ a₀.toList → y ∈ a₀.toList → ∀ (Q : Option Bool → SortSt → Prop) (st : SortSt), kindOf st = kd →
  Q (some (O.blt (key x) (key y))) st → wpS (model prog w) A E s (lt' x y) Q st
theorem Kept.refl {lo : Nat} {st : SortSt} : Kept lo st st := ⟨rfl, fun _ _ => rfl⟩
theorem Kept.trans {lo : Nat} {a b c : SortSt} (h : Kept lo a b) (k : Kept lo b c) : Kept lo a c :=
 ⟨k.pend.trans h.pend, fun i hi => (k.low i hi).trans (h.low i hi)⟩
section pure
variable {O : KeyOrd} {key : Keyed → O.α} {kd : SortKind} {a₀ : Array Keyed}
theorem SB.size {st : SortSt} (h : SB kd a₀ st) : (arrOf st).size = a₀.size := h.perm.size_eq
theorem SB.setArr {st : SortSt} (h : SB kd a₀ st) {xs : Array Keyed} (hp : xs.Perm (arrOf st)) : SB kd a₀ (setArr st xs) :=
 ⟨hp.trans h.perm, h.kind, h.failed⟩
theorem SB.at {st : SortSt} (h : SB kd a₀ st) {i : Nat} (hi : i < a₀.size) :
  ∃ x, (arrOf st)[i]? = some x ∧ x ∈ a₀.toList ∧ tk key (arrOf st) i = key x := by
 have hi' : i < (arrOf st).size := by rw [h.size]; exact hi
 have e : (arrOf st)[i]? = some (arrOf st)[i] := getElem?_pos _ i hi'
 refine ⟨_, e, (Array.perm_iff_toList_perm.mp h.perm).mem_iff.mp (by simp), ?_⟩
 unfold tk
 rw [e]
 rfl
theorem tk_congr {xs ys : Array Keyed} {i j : Nat} (h : xs[i]? = ys[j]?) : tk key xs i = tk key ys j := by unfold tk; rw [h]
theorem tk_bubble {xs : Array Keyed} {src d : Nat} (hs : src < xs.size) (hd : d ≤ src) (k : Nat) :
  tk key (bubble xs src d) k = if k = src - d then tk key xs src else if src - d < k ∧ k ≤ src then tk key xs (k - 1) else tk key xs k := by
 have e := getElem?_bubble hs d hd k
 split
 ·rename_i h; rw [if_pos h] at e; exact tk_congr e
 ·rename_i h
  rw [if_neg h] at e
  split
  ·rename_i h2; rw [if_pos h2] at e; exact tk_congr e
  ·rename_i h2; rw [if_neg h2] at e; exact tk_congr e
theorem tk_mirror {xs : Array Keyed} {i j : Nat} (hj : j ≤ xs.size) (k : Nat) :
  tk key (mirror xs i j ((j - i) / 2)) k = if i ≤ k ∧ k < j then tk key xs (i + j - 1 - k) else tk key xs k := by
 have e := getElem?_mirror_all (i := i) hj k
 split
 ·rename_i h; rw [if_pos h] at e; exact tk_congr e
 ·rename_i h; rw [if_neg h] at e; exact tk_congr e
theorem tk_mirror_same {xs : Array Keyed} {i j : Nat} (hj : j ≤ xs.size) (heq : ∀ k, i ≤ k → k < j → tk key xs k = tk key xs (j - 1)) (k : Nat) :
  tk key (mirror xs i j ((j - i) / 2)) k = tk key xs k := by
 rw [tk_mirror hj]
 split
 ·rw [heq _ (by (rename_i zz0; exact Nat.le_of_not_lt fun hg => lin [j, i, k, (i + j - 1 - k), (i + j - 1)] [(1, (.a (.v 2) (.n 1)), (.v 0)), (1, (.v 4), (.a (.v 3) (.v 2))), (1, (.a (.v 1) (.v 0)), (.a (.v 4) (.n 1))), (1, (.a (.v 3) (.n 1)), (.v 1))] rfl (zz0).2 (sub_lo (i + j - 1) (k)) (sub_lo (i + j) (1)) hg)) (by (rename_i zz0; exact Nat.lt_of_not_le fun hg => lin [j, i, k, (i + j - 1 - k), (i + j - 1)] [(1, (.v 1), (.v 2)), (1, (.a (.v 3) (.v 2)), (.v 4)), (1, (.a (.v 4) (.n 1)), (.a (.v 1) (.v 0))), (1, (.v 0), (.v 3))] rfl (zz0).1 (sub_hi (Nat.le_of_not_lt fun hg => lin [j, i, k, (i + j - 1)] [(1, (.a (.v 2) (.n 1)), (.v 0)), (1, (.a (.v 1) (.v 0)), (.a (.v 3) (.n 1))), (1, (.a (.v 3) (.n 1)), (.v 2))] rfl (zz0).2 (sub_lo (i + j) (1)) hg)) (sub_hi (Nat.le_of_not_lt fun hg => lin [j, i, k] [(1, (.v 1), (.v 2)), (1, (.a (.v 2) (.n 1)), (.v 0)), (1, (.a (.a (.v 1) (.v 0)) (.n 1)), (.n 1))] rfl (zz0).1 (zz0).2 hg)) hg)), heq k (by (rename_i zz0; exact zz0.1)) (by (rename_i zz0; exact zz0.2))]
 ·rfl
theorem kept_mirror {st : SortSt} {lo i j : Nat} (hj : j ≤ (arrOf st).size) (hi : lo ≤ i) : Kept lo st (setArr st (mirror (arrOf st) i j ((j - i) / 2))) :=
 ⟨rfl, fun k hk => by
  show (mirror (arrOf st) i j ((j - i) / 2))[k]? = _
  rw [getElem?_mirror_all hj, if_neg (by exact fun hg => lin [lo, i, k] [(1, (.v 0), (.v 1)), (1, (.a (.v 2) (.n 1)), (.v 0)), (1, (.v 1), (.v 2))] rfl hi hk (hg).1)]⟩
end pure
section walk
variable {prog : Program} {w : World} {A : Around} {E : Value → Shared → Prop} {s : Shared} {kd : SortKind} {O : KeyOrd} {key : Keyed → O.α} {a₀ : Array Keyed}
theorem ts_ltAt {st : SortSt} {i j : Nat} {Q : Option Bool → SortSt → Prop} (hL : LtOk prog w A E s kd O key a₀) (hB : SB kd a₀ st) (hi : i < a₀.size) (hj : j < a₀.size)
  (h : Q (some (O.blt (tk key (arrOf st) i) (tk key (arrOf st) j))) st) : wpS (model prog w) A E s (ltAt' i j) Q st := by
 obtain ⟨x, e1, m1, k1⟩ := hB.at (key := key) hi
 obtain ⟨y, e2, m2, k2⟩ := hB.at (key := key) hj
 rw [k1, k2] at h
 rw [ltAt'_eq]
 refine wpS_bind (wpS_get ?_)
 show wpS _ _ _ _ (do let x ← elem' (arrOf st) i; let y ← elem' (arrOf st) j; lt' x y) Q st
 rw [elem'_eq, elem'_eq, e1, e2]
 exact wpS_bind (wpS_pure (wpS_bind (wpS_pure (hL _ _ m1 m2 _ _ hB.kind h))))
theorem ts_rev {st : SortSt} {i j : Nat} {Q : Unit → SortSt → Prop} (h : Q () (setArr st (mirror (arrOf st) i j ((j - i) / 2)))) :
  wpS (model prog w) A E s (reverseSlice' i j) Q st := by
 rw [reverseSlice'_eq]
 exact wpS_modify h
theorem ts_forR {β γ : Type} {lo hi : Nat} {f : Nat → β → StateT SortSt Sem (ForInStep β)} {k : β → StateT SortSt Sem γ} {c : β} {st : SortSt} {Q : γ → SortSt → Prop} (I : Nat → β → SortSt → Prop) (P : β → SortSt → Prop)
  (hstep : ∀ F, F = f → ∀ i c st, lo ≤ i → i < hi → I i c st → wpS (model prog w) A E s (F i c) (fun r st' => match r with | .done c' => P c' st' | .yield c' => I (i + 1) c' st') st)
  (hend : ∀ c st, I (max lo hi) c st → P c st) (hinit : I lo c st) (hpost : ∀ K, K = k → ∀ c st, P c st → wpS (model prog w) A E s (K c) Q st) : wpS (model prog w) A E s (forIn [lo:hi] c f >>= k) Q st :=
 wpS_bind (wpS_mono (wpS_forRange I (hstep f rfl) hend hinit) (hpost k rfl))
theorem ts_for {β γ : Type} {lo hi : Nat} {f : Nat → β → StateT SortSt Sem (ForInStep β)} {k : β → StateT SortSt Sem γ} {c : β} {st : SortSt} {Q : γ → SortSt → Prop} (I : Nat → β → SortSt → Prop) (P : β → SortSt → Prop)
  (hstep : ∀ F, F = f → ∀ i c st, I i c st → wpS (model prog w) A E s (F i c) (fun r st' => match r with | .done c' => P c' st' | .yield c' => I (i + 1) c' st') st)
  (hend : ∀ c st, I (max lo hi) c st → P c st) (hinit : I lo c st) (hpost : ∀ K, K = k → ∀ c st, P c st → wpS (model prog w) A E s (K c) Q st) : wpS (model prog w) A E s (forIn [lo:hi] c f >>= k) Q st :=
 ts_forR I P (fun F e i c st _ _ => hstep F e i c st) hend hinit hpost
theorem ts_bindK {α β : Type} {m : StateT SortSt Sem α} {f : α → StateT SortSt Sem β} {Q : β → SortSt → Prop} {st : SortSt} (h : ∀ K, K = f → wpS (model prog w) A E s m (fun a st' => wpS (model prog w) A E s (K a) Q st') st) : wpS (model prog w) A E s (m >>= f) Q st := wpS_bind (h f rfl)
theorem ts_bin {st : SortSt} {lo n ok : Nat} {Q : Bool → SortSt → Prop} (hL : LtOk prog w A E s kd O key a₀) (hn : lo + n ≤ a₀.size) (hok : ok ≤ n) (hB : SB kd a₀ st)
  (hs : SIn key (arrOf st) lo (lo + ok))
  (h : ∀ st', SB kd a₀ st' → Kept lo st st' → SIn key (arrOf st') lo (lo + n) → Q true st') : wpS (model prog w) A E s (binarySort' lo n ok) Q st := by
 rw [binarySort'_eq]
 refine ts_forR (fun k c st' => c = (none, ()) ∧ SB kd a₀ st' ∧ Kept lo st st' ∧ SIn key (arrOf st') lo (lo + min k n))
  (fun c st' => c = (none, ()) ∧ SB kd a₀ st' ∧ Kept lo st st' ∧ SIn key (arrOf st') lo (lo + n)) ?step ?fin ?init ?post
 case post =>
  rintro K hKK c st' ⟨rfl, hB', hK, hs'⟩
  subst hKK
  exact wpS_pure (h st' hB' hK hs')
 case init =>
  refine ⟨rfl, hB, Kept.refl, fun i j hi hij hj => ?_⟩
  by_cases h1 : ok = 0
  ·have : i = j := by exact Nat.le_antisymm (Nat.le_of_not_lt fun hg => lin [i, j] [(1, (.v 0), (.v 1)), (1, (.a (.v 1) (.n 1)), (.v 0))] rfl hij hg) (Nat.le_of_not_lt fun hg => Or.elim (min_or (max ok 1) (n)) (fun hs0 => Or.elim (Mine.max_or (ok) (1)) (fun hs1 => lin [lo, ok, i, j, (min (max ok 1) n), (max ok 1)] [(1, (.v 0), (.v 2)), (1, (.a (.v 3) (.n 1)), (.a (.v 0) (.v 4))), (1, (.v 1), (.n 0)), (1, (.v 4), (.v 5)), (1, (.a (.v 2) (.n 1)), (.v 3)), (1, (.v 5), (.v 1))] rfl hi hj (Nat.le_of_eq h1) (Nat.min_le_left (max ok 1) (n)) hg hs1) (fun hs1 => lin [lo, i, j, (min (max ok 1) n), (max ok 1)] [(1, (.v 0), (.v 1)), (1, (.a (.v 2) (.n 1)), (.a (.v 0) (.v 3))), (1, (.v 3), (.v 4)), (1, (.a (.v 1) (.n 1)), (.v 2)), (1, (.v 4), (.n 1))] rfl hi hj (Nat.min_le_left (max ok 1) (n)) hg hs1)) (fun hs0 => Or.elim (Mine.max_or (ok) (1)) (fun hs1 => lin [lo, ok, i, j, (min (max ok 1) n), (max ok 1)] [(1, (.v 0), (.v 2)), (1, (.a (.v 3) (.n 1)), (.a (.v 0) (.v 4))), (1, (.v 1), (.n 0)), (1, (.v 4), (.v 5)), (1, (.a (.v 2) (.n 1)), (.v 3)), (1, (.v 5), (.v 1))] rfl hi hj (Nat.le_of_eq h1) (Nat.min_le_left (max ok 1) (n)) hg hs1) (fun hs1 => lin [lo, i, j, (min (max ok 1) n), (max ok 1)] [(1, (.v 0), (.v 1)), (1, (.a (.v 2) (.n 1)), (.a (.v 0) (.v 3))), (1, (.v 3), (.v 4)), (1, (.a (.v 1) (.n 1)), (.v 2)), (1, (.v 4), (.n 1))] rfl hi hj (Nat.min_le_left (max ok 1) (n)) hg hs1)))
   subst this; exact KeyOrd.kle_refl _
  ·exact hs i j hi hij (by exact Nat.lt_of_not_le fun hg => Or.elim (Nat.lt_or_gt_of_ne h1) (fun hs0 => lin [ok] [(1, (.a (.v 0) (.n 1)), (.n 0))] rfl hs0) (fun hs0 => Or.elim (Mine.max_or (ok) (1)) (fun hs1 => lin [lo, ok, j, (min (max ok 1) n), (max ok 1)] [(1, (.a (.v 2) (.n 1)), (.a (.v 0) (.v 3))), (1, (.v 3), (.v 4)), (1, (.a (.v 0) (.v 1)), (.v 2)), (1, (.v 4), (.v 1))] rfl hj (Nat.min_le_left (max ok 1) (n)) hg hs1) (fun hs1 => lin [lo, ok, j, (min (max ok 1) n), (max ok 1)] [(1, (.a (.v 2) (.n 1)), (.a (.v 0) (.v 3))), (1, (.v 3), (.v 4)), (1, (.a (.v 0) (.v 1)), (.v 2)), (1, (.a (.n 0) (.n 1)), (.v 1)), (1, (.v 4), (.n 1))] rfl hj (Nat.min_le_left (max ok 1) (n)) hg hs0 hs1)))
 case fin =>
  rintro c st' ⟨hc, hB', hK, hs'⟩
  refine ⟨hc, hB', hK, ?_⟩
  rwa [show min (max (max ok 1) n) n = n by exact Nat.le_antisymm (Nat.le_of_not_lt fun hg => lin [n, (min (max (max ok 1) n) n)] [(1, (.v 1), (.v 0)), (1, (.a (.v 0) (.n 1)), (.v 1))] rfl (Nat.min_le_right (max (max ok 1) n) (n)) hg) (Nat.le_of_not_lt fun hg => Or.elim (min_or (max (max ok 1) n) (n)) (fun hs0 => lin [n, (min (max (max ok 1) n) n), (max (max ok 1) n)] [(1, (.v 0), (.v 2)), (1, (.a (.v 1) (.n 1)), (.v 0)), (1, (.v 2), (.v 1))] rfl (Nat.le_max_right (max ok 1) (n)) hg hs0) (fun hs0 => lin [n, (min (max (max ok 1) n) n)] [(1, (.a (.v 1) (.n 1)), (.v 0)), (1, (.v 0), (.v 1))] rfl hg hs0))] at hs'
 case step =>
  rintro F hF k c st' hak hkn ⟨rfl, hB', hK, hs'⟩
  rw [show min k n = k by exact Nat.le_antisymm (Nat.le_of_not_lt fun hg => lin [k, (min k n)] [(1, (.v 1), (.v 0)), (1, (.a (.v 0) (.n 1)), (.v 1))] rfl (Nat.min_le_left (k) (n)) hg) (Nat.le_of_not_lt fun hg => Or.elim (Mine.max_or (ok) (1)) (fun hs0 => Or.elim (min_or (k) (n)) (fun hs1 => lin [k, (min k n)] [(1, (.a (.v 1) (.n 1)), (.v 0)), (1, (.v 0), (.v 1))] rfl hg hs1) (fun hs1 => lin [n, k, (min k n)] [(1, (.a (.v 1) (.n 1)), (.v 0)), (1, (.a (.v 2) (.n 1)), (.v 1)), (1, (.v 0), (.v 2))] rfl hkn hg hs1)) (fun hs0 => Or.elim (min_or (k) (n)) (fun hs1 => lin [k, (min k n)] [(1, (.a (.v 1) (.n 1)), (.v 0)), (1, (.v 0), (.v 1))] rfl hg hs1) (fun hs1 => lin [n, k, (min k n)] [(1, (.a (.v 1) (.n 1)), (.v 0)), (1, (.a (.v 2) (.n 1)), (.v 1)), (1, (.v 0), (.v 2))] rfl hkn hg hs1)))] at hs'
  have hk : lo + k < a₀.size := by exact Nat.lt_of_not_le fun hg => lin [lo, n, (a₀.size), k] [(1, (.a (.v 0) (.v 1)), (.v 2)), (1, (.a (.v 3) (.n 1)), (.v 1)), (1, (.v 2), (.a (.v 0) (.v 3)))] rfl hn hkn hg
  subst hF
  refine ts_forR (fun x c st'' => st'' = st' ∧ ∃ l r, c = (none, l, r) ∧ l ≤ r ∧ r ≤ k ∧ r - l ≤ k - x ∧
    (∀ i, i < l → O.kle (tk key (arrOf st') (lo + i)) (tk key (arrOf st') (lo + k))) ∧ (∀ i, r ≤ i → i < k → O.klt (tk key (arrOf st') (lo + k)) (tk key (arrOf st') (lo + i))))
   (fun c st'' => st'' = st' ∧ ∃ l r, c = (none, l, r) ∧ l ≤ k ∧
    (∀ i, i < l → O.kle (tk key (arrOf st') (lo + i)) (tk key (arrOf st') (lo + k))) ∧ (∀ i, l ≤ i → i < k → O.klt (tk key (arrOf st') (lo + k)) (tk key (arrOf st') (lo + i)))) ?istep ?ifin ?iinit ?ipost
  case iinit => exact ⟨rfl, 0, k, rfl, by exact Nat.zero_le _, by exact Nat.le_refl _, by exact Nat.le_refl _, fun i hi => by exact False.elim (lin [i] [(1, (.a (.v 0) (.n 1)), (.n 0))] rfl hi), fun i h1 h2 => by exact False.elim (lin [k, i] [(1, (.v 0), (.v 1)), (1, (.a (.v 1) (.n 1)), (.v 0))] rfl h1 h2)⟩
  case ifin =>
   rintro c st'' ⟨rfl, l, r, rfl, hlr, hrk, hm, hlo, hhi⟩
   have : l = r := by exact Nat.le_antisymm (Nat.le_of_not_lt fun hg => lin [l, r] [(1, (.v 0), (.v 1)), (1, (.a (.v 1) (.n 1)), (.v 0))] rfl hlr hg) (Nat.le_of_not_lt fun hg => lin [k, l, r, (r - l), (k - max 0 k)] [(1, (.v 3), (.v 4)), (1, (.v 2), (.a (.v 3) (.v 1))), (1, (.a (.v 4) (.v 0)), (.v 0)), (1, (.a (.v 1) (.n 1)), (.v 2))] rfl hm (sub_lo (r) (l)) (sub_hi (Nat.le_of_not_lt fun hg => lin [k] [(1, (.a (.v 0) (.n 1)), (.v 0))] rfl hg)) hg)
   subst this
   exact ⟨rfl, l, l, rfl, hrk, hlo, hhi⟩
  case istep =>
   rintro F hF x c st'' _ hxk ⟨rfl, l, r, rfl, hlr, hrk, hm, hlo, hhi⟩
   subst hF
   dsimp only
   by_cases hge : l ≥ r
   ·rw [if_pos hge]
    have : l = r := by exact Nat.le_antisymm hlr hge
    subst this
    exact wpS_pure ⟨rfl, l, l, rfl, hrk, hlo, hhi⟩
   ·rw [if_neg hge]
    refine wpS_bind (ts_ltAt hL hB' hk (by exact Nat.lt_of_not_le fun hg => lin [lo, n, (a₀.size), k, l, r, ((l + r) / 2)] [(2, (.a (.v 0) (.v 1)), (.v 2)), (2, (.a (.v 3) (.n 1)), (.v 1)), (1, (.v 4), (.v 5)), (2, (.v 5), (.v 3)), (1, (.m 2 (.v 6)), (.a (.v 4) (.v 5))), (2, (.v 2), (.a (.v 0) (.v 6)))] rfl hn hkn hlr hrk (Mine.div_lo (l + r) 2) hg) ?_)
    cases hless : O.blt (tk key (arrOf st'') (lo + k)) (tk key (arrOf st'') (lo + (l + r) / 2))
    case true =>
     simp only [if_true]
     refine wpS_pure ⟨rfl, l, (l + r) / 2, rfl, by exact Nat.le_of_not_lt fun hg => lin [l, r, ((l + r) / 2)] [(1, (.v 0), (.v 1)), (1, (.a (.a (.v 0) (.v 1)) (.n 1)), (.a (.m 2 (.v 2)) (.n 2))), (2, (.a (.v 2) (.n 1)), (.v 0))] rfl hlr (Mine.div_hi (l + r) 2 (by decide)) hg, by exact Nat.le_of_not_lt fun hg => lin [k, l, r, ((l + r) / 2)] [(1, (.v 1), (.v 2)), (2, (.v 2), (.v 0)), (1, (.m 2 (.v 3)), (.a (.v 1) (.v 2))), (2, (.a (.v 0) (.n 1)), (.v 3))] rfl hlr hrk (Mine.div_lo (l + r) 2) hg, by exact Nat.le_of_not_lt fun hg => lin [k, x, l, r, (r - l), (k - x), ((l + r) / 2 - l), (k - (x + 1)), ((l + r) / 2)] [(1, (.a (.v 1) (.n 1)), (.v 0)), (1, (.v 4), (.v 5)), (1, (.m 2 (.v 8)), (.a (.v 2) (.v 3))), (1, (.v 3), (.a (.v 4) (.v 2))), (1, (.a (.v 5) (.v 1)), (.v 0)), (2, (.a (.v 6) (.v 2)), (.v 8)), (2, (.v 0), (.a (.v 7) (.a (.v 1) (.n 1)))), (2, (.a (.v 7) (.n 1)), (.v 6))] rfl hxk hm (Mine.div_lo (l + r) 2) (sub_lo (r) (l)) (sub_hi (Nat.le_of_not_lt fun hg => lin [k, x] [(1, (.a (.v 1) (.n 1)), (.v 0)), (1, (.a (.v 0) (.n 1)), (.v 1))] rfl hxk hg)) (sub_hi (Nat.le_of_not_lt fun hg => lin [l, r, ((l + r) / 2)] [(1, (.v 0), (.v 1)), (1, (.a (.a (.v 0) (.v 1)) (.n 1)), (.a (.m 2 (.v 2)) (.n 2))), (2, (.a (.v 2) (.n 1)), (.v 0))] rfl hlr (Mine.div_hi (l + r) 2 (by decide)) hg)) (sub_lo (k) (x + 1)) hg, hlo, fun i h1 h2 => ?_⟩
     exact KeyOrd.klt_of_klt_of_kle hless (hs' _ _ (by exact Nat.le_add_right _ _) (by exact Nat.add_le_add_left h1 _) (by exact Nat.add_le_add_left h2 _))
    case false =>
     simp only [Bool.false_eq_true, if_false]
     refine wpS_pure ⟨rfl, (l + r) / 2 + 1, r, rfl, by omega, by exact hrk, by exact Nat.le_of_not_lt fun hg => Or.elim (Mine.max_or (ok) (1)) (fun hs0 => Or.elim (sub_or (r) ((l + r) / 2 + 1)) (fun hs1 => lin [k, x, l, r, (r - l), (k - x), (r - ((l + r) / 2 + 1)), (k - (x + 1)), ((l + r) / 2)] [(1, (.a (.v 1) (.n 1)), (.v 0)), (1, (.v 4), (.v 5)), (1, (.a (.a (.v 2) (.v 3)) (.n 1)), (.a (.m 2 (.v 8)) (.n 2))), (1, (.v 3), (.a (.v 4) (.v 2))), (1, (.a (.v 5) (.v 1)), (.v 0)), (2, (.v 0), (.a (.v 7) (.a (.v 1) (.n 1)))), (2, (.a (.v 7) (.n 1)), (.v 6)), (2, (.a (.v 6) (.a (.v 8) (.n 1))), (.v 3))] rfl hxk hm (Mine.div_hi (l + r) 2 (by decide)) (sub_lo (r) (l)) (sub_hi (Nat.le_of_not_lt fun hg => lin [k, x] [(1, (.a (.v 1) (.n 1)), (.v 0)), (1, (.a (.v 0) (.n 1)), (.v 1))] rfl hxk hg)) (sub_lo (k) (x + 1)) hg (Nat.le_of_eq hs1)) (fun hs1 => lin [k, x, (r - ((l + r) / 2 + 1)), (k - (x + 1))] [(1, (.a (.v 1) (.n 1)), (.v 0)), (1, (.v 0), (.a (.v 3) (.a (.v 1) (.n 1)))), (1, (.a (.v 3) (.n 1)), (.v 2)), (1, (.v 2), (.n 0))] rfl hxk (sub_lo (k) (x + 1)) hg (Nat.le_of_eq hs1))) (fun hs0 => Or.elim (sub_or (r) ((l + r) / 2 + 1)) (fun hs1 => lin [k, x, l, r, (r - l), (k - x), (r - ((l + r) / 2 + 1)), (k - (x + 1)), ((l + r) / 2)] [(1, (.a (.v 1) (.n 1)), (.v 0)), (1, (.v 4), (.v 5)), (1, (.a (.a (.v 2) (.v 3)) (.n 1)), (.a (.m 2 (.v 8)) (.n 2))), (1, (.v 3), (.a (.v 4) (.v 2))), (1, (.a (.v 5) (.v 1)), (.v 0)), (2, (.v 0), (.a (.v 7) (.a (.v 1) (.n 1)))), (2, (.a (.v 7) (.n 1)), (.v 6)), (2, (.a (.v 6) (.a (.v 8) (.n 1))), (.v 3))] rfl hxk hm (Mine.div_hi (l + r) 2 (by decide)) (sub_lo (r) (l)) (sub_hi (Nat.le_of_not_lt fun hg => lin [k, x] [(1, (.a (.v 1) (.n 1)), (.v 0)), (1, (.a (.v 0) (.n 1)), (.v 1))] rfl hxk hg)) (sub_lo (k) (x + 1)) hg (Nat.le_of_eq hs1)) (fun hs1 => lin [k, x, (r - ((l + r) / 2 + 1)), (k - (x + 1))] [(1, (.a (.v 1) (.n 1)), (.v 0)), (1, (.v 0), (.a (.v 3) (.a (.v 1) (.n 1)))), (1, (.a (.v 3) (.n 1)), (.v 2)), (1, (.v 2), (.n 0))] rfl hxk (sub_lo (k) (x + 1)) hg (Nat.le_of_eq hs1))), fun i h1 => ?_, hhi⟩
     exact KeyOrd.kle_trans (hs' (lo + i) (lo + (l + r) / 2) (by exact Nat.le_add_right _ _) (by exact Nat.le_of_not_lt fun hg => lin [lo, i, ((l + r) / 2)] [(1, (.a (.v 1) (.n 1)), (.a (.v 2) (.n 1))), (1, (.a (.a (.v 0) (.v 2)) (.n 1)), (.a (.v 0) (.v 1)))] rfl h1 hg) (by omega)) (show O.kle _ _ from hless)
  case ipost =>
   rintro K hKK c st'' ⟨rfl, l, r, rfl, hlk, hlo, hhi⟩
   subst hKK
   show wpS _ _ _ _ (do moveDown' (lo + k) (lo + l); pure (ForInStep.yield (none, ()))) _ _
   rw [moveDown'_eq]
   have hks : lo + k < (arrOf st'').size := by rw [hB'.size]; exact hk
   have hd : lo + k - (lo + l) ≤ lo + k := by exact Nat.sub_le _ _
   refine wpS_bind (wpS_modify (wpS_pure ⟨rfl, hB'.setArr (bubble_perm _ _ _), hK.trans ⟨rfl, fun i hi => ?_⟩, ?_⟩))
   ·show (bubble (arrOf st'') (lo + k) (lo + k - (lo + l)))[i]? = _
    rw [getElem?_bubble hks _ hd, if_neg (by exact fun hg => lin [lo, k, l, (lo + k - (lo + l)), i, (lo + k - (lo + k - (lo + l)))] [(1, (.a (.v 4) (.n 1)), (.v 0)), (1, (.a (.v 3) (.a (.v 0) (.v 2))), (.a (.v 0) (.v 1))), (1, (.a (.v 0) (.v 1)), (.a (.v 5) (.v 3))), (1, (.v 5), (.v 4))] rfl hi (sub_hi (Nat.le_of_not_lt fun hg => lin [lo, k, l] [(1, (.v 2), (.v 1)), (1, (.a (.a (.v 0) (.v 1)) (.n 1)), (.a (.v 0) (.v 2)))] rfl hlk hg)) (sub_lo (lo + k) (lo + k - (lo + l))) (Nat.le_of_eq (Eq.symm hg))), if_neg (by omega)]
   rw [show min (k + 1) n = k + 1 by exact Nat.min_eq_left hkn]
   intro i j hi hij hj
   show O.kle (tk key (bubble (arrOf st'') (lo + k) (lo + k - (lo + l))) i) (tk key (bubble (arrOf st'') (lo + k) (lo + k - (lo + l))) j)
   rw [tk_bubble hks hd, tk_bubble hks hd, show lo + k - (lo + k - (lo + l)) = lo + l by exact Nat.le_antisymm (Nat.le_of_not_lt fun hg => lin [lo, k, l, (lo + k - (lo + l)), (lo + k - (lo + k - (lo + l)))] [(1, (.a (.v 0) (.v 1)), (.a (.v 3) (.a (.v 0) (.v 2)))), (1, (.a (.v 4) (.v 3)), (.a (.v 0) (.v 1))), (1, (.a (.a (.v 0) (.v 2)) (.n 1)), (.v 4))] rfl (sub_lo (lo + k) (lo + l)) (sub_hi (Nat.le_of_not_lt fun hg => lin [lo, k, (lo + k - (lo + l))] [(1, (.v 2), (.a (.v 0) (.v 1))), (1, (.a (.a (.v 0) (.v 1)) (.n 1)), (.v 2))] rfl hd hg)) hg) (Nat.le_of_not_lt fun hg => lin [lo, k, l, (lo + k - (lo + l)), (lo + k - (lo + k - (lo + l)))] [(1, (.a (.v 3) (.a (.v 0) (.v 2))), (.a (.v 0) (.v 1))), (1, (.a (.v 0) (.v 1)), (.a (.v 4) (.v 3))), (1, (.a (.v 4) (.n 1)), (.a (.v 0) (.v 2)))] rfl (sub_hi (Nat.le_of_not_lt fun hg => lin [lo, k, l] [(1, (.v 2), (.v 1)), (1, (.a (.a (.v 0) (.v 1)) (.n 1)), (.a (.v 0) (.v 2)))] rfl hlk hg)) (sub_lo (lo + k) (lo + k - (lo + l))) hg)]
   have hlo' : ∀ i, lo ≤ i → i < lo + l → O.kle (tk key (arrOf st'') i) (tk key (arrOf st'') (lo + k)) := fun i h1 h2 => by
    have := hlo (i - lo) (by exact Nat.lt_of_not_le fun hg => lin [lo, l, i, (i - lo)] [(1, (.a (.v 2) (.n 1)), (.a (.v 0) (.v 1))), (1, (.a (.v 3) (.v 0)), (.v 2)), (1, (.v 1), (.v 3))] rfl h2 (sub_hi (Nat.le_of_not_lt fun hg => lin [lo, i] [(1, (.v 0), (.v 1)), (1, (.a (.v 1) (.n 1)), (.v 0))] rfl h1 hg)) hg); rwa [show lo + (i - lo) = i by exact Nat.add_sub_cancel' h1] at this
   have hhi' : ∀ i, lo + l ≤ i → i < lo + k → O.klt (tk key (arrOf st'') (lo + k)) (tk key (arrOf st'') i) := fun i h1 h2 => by
    have := hhi (i - lo) (by exact Nat.le_of_not_lt fun hg => lin [lo, l, i, (i - lo)] [(1, (.a (.v 0) (.v 1)), (.v 2)), (1, (.v 2), (.a (.v 3) (.v 0))), (1, (.a (.v 3) (.n 1)), (.v 1))] rfl h1 (sub_lo (i) (lo)) hg) (by exact Nat.lt_of_not_le fun hg => lin [lo, k, i, (i - lo)] [(1, (.a (.v 2) (.n 1)), (.a (.v 0) (.v 1))), (1, (.a (.v 3) (.v 0)), (.v 2)), (1, (.v 1), (.v 3))] rfl h2 (sub_hi (Nat.le_of_not_lt fun hg => lin [lo, l, i] [(1, (.a (.v 0) (.v 1)), (.v 2)), (1, (.a (.v 2) (.n 1)), (.v 0))] rfl h1 hg)) hg); rwa [show lo + (i - lo) = i by exact Nat.le_antisymm (Nat.le_of_not_lt fun hg => lin [lo, i, (i - lo)] [(1, (.a (.v 2) (.v 0)), (.v 1)), (1, (.a (.v 1) (.n 1)), (.a (.v 0) (.v 2)))] rfl (sub_hi (Nat.le_of_not_lt fun hg => lin [lo, l, i] [(1, (.a (.v 0) (.v 1)), (.v 2)), (1, (.a (.v 2) (.n 1)), (.v 0))] rfl h1 hg)) hg) (Nat.le_of_not_lt fun hg => lin [lo, i, (i - lo)] [(1, (.v 1), (.a (.v 2) (.v 0))), (1, (.a (.a (.v 0) (.v 2)) (.n 1)), (.v 1))] rfl (sub_lo (i) (lo)) hg)] at this
   repeat' split
   all_goals first
    | (exfalso; omega)
    | exact KeyOrd.kle_refl _
    | exact hlo' _ (by exact hi) (by (rename_i zz2 zz1 zz0; exact Nat.lt_of_not_le fun hg => Or.elim (Nat.lt_or_gt_of_ne zz2) (fun hs0 => lin [lo, l, i] [(1, (.a (.v 0) (.v 1)), (.v 2)), (1, (.a (.v 2) (.n 1)), (.a (.v 0) (.v 1)))] rfl hg hs0) (fun hs0 => lin [lo, l, i, j] [(1, (.v 2), (.v 3)), (1, (.v 3), (.a (.v 0) (.v 1))), (1, (.a (.a (.v 0) (.v 1)) (.n 1)), (.v 2))] rfl hij (Nat.le_of_eq zz0) hs0)))
    | exact KeyOrd.kle_of_klt (hhi' _ (by (rename_i zz0; exact Nat.le_of_not_lt fun hg => lin [lo, l, j, (j - 1)] [(1, (.a (.a (.v 0) (.v 1)) (.n 1)), (.v 2)), (1, (.v 2), (.a (.v 3) (.n 1))), (1, (.a (.v 3) (.n 1)), (.a (.v 0) (.v 1)))] rfl (zz0).1 (sub_lo (j) (1)) hg)) (by (rename_i zz0; exact Nat.lt_of_not_le fun hg => lin [lo, k, j, (j - 1)] [(1, (.a (.v 2) (.n 1)), (.a (.v 0) (.a (.v 1) (.n 1)))), (1, (.a (.v 3) (.n 1)), (.v 2)), (1, (.a (.v 0) (.v 1)), (.v 3))] rfl hj (sub_hi (Nat.le_of_not_lt fun hg => lin [lo, k, l, (lo + k - (lo + l)), j] [(1, (.v 3), (.a (.v 0) (.v 1))), (1, (.a (.a (.v 0) (.v 2)) (.n 1)), (.v 4)), (1, (.a (.v 0) (.v 1)), (.a (.v 3) (.a (.v 0) (.v 2)))), (1, (.a (.v 4) (.n 1)), (.n 1))] rfl hd (zz0).1 (sub_lo (lo + k) (lo + l)) hg)) hg)))
    | exact hs' _ _ (by (first | (rename_i zz2 zz1 zz0; exact Nat.le_of_not_lt fun hg => lin [lo, l, i, (i - 1)] [(1, (.a (.a (.v 0) (.v 1)) (.n 1)), (.v 2)), (1, (.v 2), (.a (.v 3) (.n 1))), (1, (.a (.v 3) (.n 1)), (.v 0))] rfl (zz2).1 (sub_lo (i) (1)) hg) | exact hi)) (by omega) (by omega)
end walk
end Mine
end
noncomputable section
namespace Mine
open PySem PyProof.Rows
noncomputable def ascL (lo a nrem : Nat) : StateT SortSt Sem (Option (Option Nat) × Nat) :=
 forIn [a:nrem] ((none, a) : Option (Option Nat) × Nat) fun _ c => do
  let r ← ltAt' (lo + c.snd) (lo + c.snd - 1)
  match r with
  | some smaller => if smaller = true then pure (ForInStep.done (none, c.snd)) else pure (ForInStep.yield (none, c.snd + 1))
  | _ => pure (ForInStep.done (some none, c.snd))
noncomputable def endL (lo n nrem : Nat) : StateT SortSt Sem (Option Nat) := do
 reverseSlice' lo (lo + n)
 let c ← ascL lo n nrem
 match c.fst with
 | some r => pure r
 | none => pure (some c.snd)
noncomputable def fallL (lo n nrem : Nat) : StateT SortSt Sem (Option (Option Nat) × Nat × Nat) :=
 forIn [n:nrem] ((none, n, 0) : Option (Option Nat) × Nat × Nat) fun _ c => do
  let r ← ltAt' (lo + c.snd.fst) (lo + c.snd.fst - 1)
  match r with
  | some smaller =>
   if smaller = true then
    if c.snd.snd > 0 then do
     reverseSlice' (lo + c.snd.fst - (c.snd.snd + 1)) (lo + c.snd.fst)
     pure (ForInStep.yield (none, c.snd.fst + 1, 0))
    else pure (ForInStep.yield (none, c.snd.fst + 1, 0))
   else do
    let r ← ltAt' (lo + c.snd.fst - 1) (lo + c.snd.fst)
    match r with
    | some larger =>
     if larger = true then pure (ForInStep.done (none, c.snd.fst, c.snd.snd))
     else pure (ForInStep.yield (none, c.snd.fst + 1, c.snd.snd + 1))
    | _ => pure (ForInStep.done (some none, c.snd.fst, c.snd.snd))
  | _ => pure (ForInStep.done (some none, c.snd.fst, c.snd.snd))
noncomputable def descL (lo n nrem : Nat) : StateT SortSt Sem (Option Nat) := do
 liftM (rule "list.sort.descending-run")
 let c ← fallL lo (n + 1) nrem
 match c.fst with
 | some r => pure r
 | none =>
  if c.snd.snd > 0 then do
   reverseSlice' (lo + c.snd.fst - (c.snd.snd + 1)) (lo + c.snd.fst)
   endL lo c.snd.fst nrem
  else endL lo c.snd.fst nrem
theorem countL_eq (lo nrem : Nat) : countRun' lo nrem = (do
  let c ← ascL lo 1 nrem
  match c.fst with
  | some r => pure r
  | none =>
   if (c.snd == nrem) = true then pure (some c.snd)
   else if c.snd > 1 then do
    let r ← ltAt' lo (lo + c.snd - 1)
    match r with
    | some rose => if rose = true then pure (some c.snd) else do
      reverseSlice' lo (lo + c.snd)
      descL lo c.snd nrem
    | _ => pure none
   else descL lo c.snd nrem) := by
 rw [countRun'_eq]
 unfold descL endL fallL ascL
 refine bind_congr fun c => ?_
 obtain ⟨r, n⟩ := c
 cases r with
 | some r => rfl
 | none =>
  dsimp only
  split
  ·rfl
  ·split
   ·refine bind_congr fun r => ?_
    cases r with
    | none => rfl
    | some rose =>
     dsimp only
     split
     ·rfl
     ·refine bind_congr fun _ => ?_
      refine bind_congr fun _ => ?_
      refine bind_congr fun c2 => ?_
      obtain ⟨r2, n2, q2⟩ := c2
      cases r2 with
      | some r2 => rfl
      | none =>
       dsimp only
       split
       ·refine bind_congr fun _ => ?_
        refine bind_congr fun _ => ?_
        refine bind_congr fun c3 => ?_
        obtain ⟨r3, n3⟩ := c3
        cases r3 <;> rfl
       ·refine bind_congr fun _ => ?_
        refine bind_congr fun c3 => ?_
        obtain ⟨r3, n3⟩ := c3
        cases r3 <;> rfl
   ·refine bind_congr fun _ => ?_
    refine bind_congr fun c2 => ?_
    obtain ⟨r2, n2, q2⟩ := c2
    cases r2 with
    | some r2 => rfl
    | none =>
     dsimp only
     split
     ·refine bind_congr fun _ => ?_
      refine bind_congr fun _ => ?_
      refine bind_congr fun c3 => ?_
      obtain ⟨r3, n3⟩ := c3
      cases r3 <;> rfl
     ·refine bind_congr fun _ => ?_
      refine bind_congr fun c3 => ?_
      obtain ⟨r3, n3⟩ := c3
      cases r3 <;> rfl
end Mine
end
noncomputable section
namespace Mine
open PySem PyProof.Rows
section walk
variable {prog : Program} {w : World} {A : Around} {E : Value → Shared → Prop} {s : Shared} {kd : SortKind} {O : KeyOrd} {key : Keyed → O.α} {a₀ : Array Keyed}
theorem ts_asc {st : SortSt} {lo a nrem : Nat} {Q : Option (Option Nat) × Nat → SortSt → Prop} (hL : LtOk prog w A E s kd O key a₀) (hn : lo + nrem ≤ a₀.size) (ha : 1 ≤ a) (han : a ≤ nrem) (hB : SB kd a₀ st)
  (hs : SIn key (arrOf st) lo (lo + a))
  (h : ∀ n, a ≤ n → n ≤ nrem → SIn key (arrOf st) lo (lo + n) → (n = nrem ∨ O.klt (tk key (arrOf st) (lo + n)) (tk key (arrOf st) (lo + n - 1))) → Q (none, n) st) :
  wpS (model prog w) A E s (ascL lo a nrem) Q st := by
 unfold ascL
 refine wpS_forRange (I := fun x c st' => st' = st ∧ c = (none, x) ∧ SIn key (arrOf st) lo (lo + x)) ?step ?fin ⟨rfl, rfl, hs⟩
 case fin =>
  rintro c st' ⟨rfl, rfl, hs'⟩
  rw [show max a nrem = nrem by exact Nat.max_eq_right han] at hs' ⊢
  exact h nrem han (Nat.le_refl _) hs' (.inl rfl)
 case step =>
  rintro x c st' hax hxn ⟨rfl, rfl, hs'⟩
  dsimp only
  refine wpS_bind (ts_ltAt hL hB (by exact Nat.lt_of_not_le fun hg => lin [lo, nrem, (a₀.size), x] [(1, (.a (.v 0) (.v 1)), (.v 2)), (1, (.a (.v 3) (.n 1)), (.v 1)), (1, (.v 2), (.a (.v 0) (.v 3)))] rfl hn hxn hg) (by exact Nat.lt_of_not_le fun hg => lin [lo, nrem, (a₀.size), x, (lo + x - 1)] [(1, (.a (.v 0) (.v 1)), (.v 2)), (1, (.a (.v 3) (.n 1)), (.v 1)), (1, (.a (.v 4) (.n 1)), (.a (.v 0) (.v 3))), (1, (.v 2), (.v 4))] rfl hn hxn (sub_hi (Nat.le_of_not_lt fun hg => lin [lo, a, x] [(1, (.n 1), (.v 1)), (1, (.v 1), (.v 2)), (1, (.a (.a (.v 0) (.v 2)) (.n 1)), (.n 1))] rfl ha hax hg)) hg) ?_)
  cases hless : O.blt (tk key (arrOf st') (lo + x)) (tk key (arrOf st') (lo + x - 1))
  case true =>
   simp only [if_true]
   exact wpS_pure (h x hax (by exact Nat.le_of_lt hxn) hs' (.inr hless))
  case false =>
   simp only [Bool.false_eq_true, if_false]
   refine wpS_pure ⟨rfl, rfl, fun i j hi hij hj => ?_⟩
   by_cases hjx : j < lo + x
   ·exact hs' i j hi hij hjx
   ·have hj' : j = lo + x := by exact Nat.le_antisymm (Nat.le_of_not_lt fun hg => lin [lo, x, j] [(1, (.a (.v 2) (.n 1)), (.a (.v 0) (.a (.v 1) (.n 1)))), (1, (.a (.a (.v 0) (.v 1)) (.n 1)), (.v 2))] rfl hj hg) (Nat.le_of_not_lt fun hg => lin [lo, x, j] [(1, (.a (.v 0) (.v 1)), (.v 2)), (1, (.a (.v 2) (.n 1)), (.a (.v 0) (.v 1)))] rfl (Nat.le_of_not_lt hjx) hg)
    subst hj'
    by_cases hi' : i = lo + x
    ·subst hi'; exact KeyOrd.kle_refl _
    ·exact KeyOrd.kle_trans (hs' i (lo + x - 1) hi (by exact Nat.le_of_not_lt fun hg => Or.elim (Nat.lt_or_gt_of_ne hi') (fun hs0 => lin [lo, x, i, (lo + x - 1)] [(1, (.a (.v 0) (.v 1)), (.a (.v 3) (.n 1))), (1, (.a (.v 3) (.n 1)), (.v 2)), (1, (.a (.v 2) (.n 1)), (.a (.v 0) (.v 1)))] rfl (sub_lo (lo + x) (1)) hg hs0) (fun hs0 => lin [lo, x, i] [(1, (.v 2), (.a (.v 0) (.v 1))), (1, (.a (.a (.v 0) (.v 1)) (.n 1)), (.v 2))] rfl hij hs0)) (by exact Nat.lt_of_not_le fun hg => lin [lo, x, (lo + x - 1)] [(1, (.a (.v 2) (.n 1)), (.a (.v 0) (.v 1))), (1, (.a (.v 0) (.v 1)), (.v 2))] rfl (sub_hi (Nat.le_of_not_lt fun hg => lin [lo, a, x] [(1, (.n 1), (.v 1)), (1, (.v 1), (.v 2)), (1, (.a (.a (.v 0) (.v 2)) (.n 1)), (.n 1))] rfl ha hax hg)) hg)) hless
noncomputable def RunPost (kd : SortKind) (O : KeyOrd) (key : Keyed → O.α) (a₀ : Array Keyed) (st : SortSt) (lo nrem : Nat) (Q : Option Nat → SortSt → Prop) : Prop :=
 ∀ m st', SB kd a₀ st' → Kept lo st st' → 1 ≤ m → m ≤ nrem → SIn key (arrOf st') lo (lo + m) → Q (some m) st'
theorem RunPost.step {st st₁ : SortSt} {lo nrem : Nat} {Q : Option Nat → SortSt → Prop} (h : RunPost kd O key a₀ st lo nrem Q) (hK : Kept lo st st₁) : RunPost kd O key a₀ st₁ lo nrem Q :=
 fun m st' hB hK' => h m st' hB (hK.trans hK')
theorem ts_end {st : SortSt} {lo n nrem : Nat} {Q : Option Nat → SortSt → Prop} (hL : LtOk prog w A E s kd O key a₀) (hn : lo + nrem ≤ a₀.size) (h1 : 1 ≤ n) (hnn : n ≤ nrem) (hB : SB kd a₀ st)
  (hs : NIn key (arrOf st) lo (lo + n)) (h : RunPost kd O key a₀ st lo nrem Q) :
  wpS (model prog w) A E s (endL lo n nrem) Q st := by
 unfold endL
 have hsz : lo + n ≤ (arrOf st).size := by rw [hB.size]; exact Nat.le_of_not_lt fun hg => lin [lo, nrem, (a₀.size), n] [(1, (.a (.v 0) (.v 1)), (.v 2)), (1, (.v 3), (.v 1)), (1, (.a (.v 2) (.n 1)), (.a (.v 0) (.v 3)))] rfl hn hnn hg
 refine wpS_bind (ts_rev ?_)
 have hB' : SB kd a₀ (setArr st (mirror (arrOf st) lo (lo + n) ((lo + n - lo) / 2))) := hB.setArr (mirror_perm _ _ _ _)
 refine wpS_bind (ts_asc hL hn h1 hnn hB' ?_ fun m hm1 hm2 hsm _ => wpS_pure (h m _ hB' (kept_mirror hsz (Nat.le_refl _)) (by exact Nat.le_trans h1 hm1) hm2 hsm))
 intro i j hi hij hj
 show O.kle (tk key (mirror (arrOf st) lo (lo + n) ((lo + n - lo) / 2)) i) (tk key (mirror (arrOf st) lo (lo + n) ((lo + n - lo) / 2)) j)
 rw [tk_mirror hsz, tk_mirror hsz, if_pos (by exact And.intro (Nat.le_of_not_lt fun hg => lin [lo, i] [(1, (.v 0), (.v 1)), (1, (.a (.v 1) (.n 1)), (.v 0))] rfl hi hg) (Nat.lt_of_not_le fun hg => lin [lo, n, i, j] [(1, (.v 2), (.v 3)), (1, (.a (.v 3) (.n 1)), (.a (.v 0) (.v 1))), (1, (.a (.v 0) (.v 1)), (.v 2))] rfl hij hj hg)), if_pos (by exact And.intro (Nat.le_of_not_lt fun hg => lin [lo, i, j] [(1, (.v 0), (.v 1)), (1, (.v 1), (.v 2)), (1, (.a (.v 2) (.n 1)), (.v 0))] rfl hi hij hg) (Nat.lt_of_not_le fun hg => lin [lo, n, j] [(1, (.a (.v 2) (.n 1)), (.a (.v 0) (.v 1))), (1, (.a (.v 0) (.v 1)), (.v 2))] rfl hj hg))]
 exact hs _ _ (by exact Nat.le_of_not_lt fun hg => lin [lo, n, j, (lo + (lo + n) - 1 - j), (lo + (lo + n) - 1)] [(1, (.a (.v 2) (.n 1)), (.a (.v 0) (.v 1))), (1, (.v 4), (.a (.v 3) (.v 2))), (1, (.a (.v 0) (.a (.v 0) (.v 1))), (.a (.v 4) (.n 1))), (1, (.a (.v 3) (.n 1)), (.v 0))] rfl hj (sub_lo (lo + (lo + n) - 1) (j)) (sub_lo (lo + (lo + n)) (1)) hg) (by exact Nat.le_of_not_lt fun hg => lin [i, j, (lo + (lo + n) - 1 - j), (lo + (lo + n) - 1 - i), (lo + (lo + n) - 1)] [(1, (.v 0), (.v 1)), (1, (.a (.v 2) (.v 1)), (.v 4)), (1, (.v 4), (.a (.v 3) (.v 0))), (1, (.a (.v 3) (.n 1)), (.v 2))] rfl hij (sub_hi (Nat.le_of_not_lt fun hg => lin [lo, n, j, (lo + (lo + n) - 1)] [(1, (.a (.v 2) (.n 1)), (.a (.v 0) (.v 1))), (1, (.a (.v 0) (.a (.v 0) (.v 1))), (.a (.v 3) (.n 1))), (1, (.a (.v 3) (.n 1)), (.v 2))] rfl hj (sub_lo (lo + (lo + n)) (1)) hg)) (sub_lo (lo + (lo + n) - 1) (i)) hg) (by exact Nat.lt_of_not_le fun hg => lin [lo, n, i, (lo + (lo + n) - 1 - i), (lo + (lo + n) - 1)] [(1, (.v 0), (.v 2)), (1, (.a (.v 3) (.v 2)), (.v 4)), (1, (.a (.v 4) (.n 1)), (.a (.v 0) (.a (.v 0) (.v 1)))), (1, (.a (.v 0) (.v 1)), (.v 3))] rfl hi (sub_hi (Nat.le_of_not_lt fun hg => lin [lo, n, i, j, (lo + (lo + n) - 1)] [(1, (.v 2), (.v 3)), (1, (.a (.v 3) (.n 1)), (.a (.v 0) (.v 1))), (1, (.a (.v 0) (.a (.v 0) (.v 1))), (.a (.v 4) (.n 1))), (1, (.a (.v 4) (.n 1)), (.v 2))] rfl hij hj (sub_lo (lo + (lo + n)) (1)) hg)) (sub_hi (Nat.le_of_not_lt fun hg => lin [lo, n] [(1, (.n 1), (.v 1)), (1, (.a (.a (.v 0) (.a (.v 0) (.v 1))) (.n 1)), (.n 1))] rfl h1 hg)) hg)
theorem ts_fall {st : SortSt} {lo n nrem : Nat} {Q : Option (Option Nat) × Nat × Nat → SortSt → Prop} (hL : LtOk prog w A E s kd O key a₀) (hn : lo + nrem ≤ a₀.size) (h1 : 1 ≤ n) (hnn : n ≤ nrem) (hB : SB kd a₀ st)
  (hs : NIn key (arrOf st) lo (lo + n))
  (h : ∀ m neq st', SB kd a₀ st' → Kept lo st st' → n ≤ m → m ≤ nrem → NIn key (arrOf st') lo (lo + m) → neq + 1 ≤ m →
   (∀ i, lo + m - (neq + 1) ≤ i → i < lo + m → tk key (arrOf st') i = tk key (arrOf st') (lo + m - 1)) → Q (none, m, neq) st') :
  wpS (model prog w) A E s (fallL lo n nrem) Q st := by
 unfold fallL
 refine wpS_forRange (I := fun x c st' => ∃ neq, c = (none, x, neq) ∧ SB kd a₀ st' ∧ Kept lo st st' ∧ NIn key (arrOf st') lo (lo + x) ∧ neq + 1 ≤ x ∧
   (∀ i, lo + x - (neq + 1) ≤ i → i < lo + x → tk key (arrOf st') i = tk key (arrOf st') (lo + x - 1))) ?step ?fin
   ⟨0, rfl, hB, Kept.refl, hs, by exact h1, fun i h1 h2 => by congr 1; exact Nat.le_antisymm (Nat.le_of_not_lt fun hg => lin [lo, n, (lo + n - (0 + 1)), i] [(1, (.a (.v 3) (.n 1)), (.a (.v 0) (.v 1))), (1, (.a (.v 0) (.v 1)), (.a (.v 2) (.a (.n 0) (.n 1)))), (1, (.a (.v 2) (.n 1)), (.v 3))] rfl h2 (sub_lo (lo + n) (0 + 1)) hg) (Nat.le_of_not_lt fun hg => lin [(lo + n - (0 + 1)), i] [(1, (.v 0), (.v 1)), (1, (.a (.v 1) (.n 1)), (.v 0))] rfl h1 hg)⟩
 case fin =>
  rintro c st' ⟨neq, rfl, hB', hK, hs', hq, he⟩
  rw [show max n nrem = nrem by exact Nat.max_eq_right hnn] at hs' hq he ⊢
  exact h nrem neq st' hB' hK hnn (Nat.le_refl _) hs' hq he
 case step =>
  rintro x c st' hax hxn ⟨neq, rfl, hB', hK, hs', hq, he⟩
  dsimp only
  have hsz : lo + x ≤ (arrOf st').size := by rw [hB'.size]; exact Nat.le_of_not_lt fun hg => lin [lo, nrem, (a₀.size), x] [(1, (.a (.v 0) (.v 1)), (.v 2)), (1, (.a (.v 3) (.n 1)), (.v 1)), (1, (.a (.v 2) (.n 1)), (.a (.v 0) (.v 3)))] rfl hn hxn hg
  refine wpS_bind (ts_ltAt hL hB' (by exact Nat.lt_of_not_le fun hg => lin [lo, nrem, (a₀.size), x] [(1, (.a (.v 0) (.v 1)), (.v 2)), (1, (.a (.v 3) (.n 1)), (.v 1)), (1, (.v 2), (.a (.v 0) (.v 3)))] rfl hn hxn hg) (by exact Nat.lt_of_not_le fun hg => lin [lo, nrem, (a₀.size), x, (lo + x - 1)] [(1, (.a (.v 0) (.v 1)), (.v 2)), (1, (.a (.v 3) (.n 1)), (.v 1)), (1, (.a (.v 4) (.n 1)), (.a (.v 0) (.v 3))), (1, (.v 2), (.v 4))] rfl hn hxn (sub_hi (Nat.le_of_not_lt fun hg => lin [lo, n, x] [(1, (.n 1), (.v 1)), (1, (.v 1), (.v 2)), (1, (.a (.a (.v 0) (.v 2)) (.n 1)), (.n 1))] rfl h1 hax hg)) hg) ?_)
  cases hless : O.blt (tk key (arrOf st') (lo + x)) (tk key (arrOf st') (lo + x - 1))
  case true =>
   simp only [if_true]
   have step1 : ∀ xs : Array Keyed, (∀ k, tk key xs k = tk key (arrOf st') k) → NIn key xs lo (lo + (x + 1)) := by
    intro xs hk i j hi hij hj
    rw [hk, hk]
    by_cases hjx : j < lo + x
    ·exact hs' i j hi hij hjx
    ·have hj' : j = lo + x := by exact Nat.le_antisymm (Nat.le_of_not_lt fun hg => lin [lo, x, j] [(1, (.a (.v 2) (.n 1)), (.a (.v 0) (.a (.v 1) (.n 1)))), (1, (.a (.a (.v 0) (.v 1)) (.n 1)), (.v 2))] rfl hj hg) (Nat.le_of_not_lt fun hg => lin [lo, x, j] [(1, (.a (.v 0) (.v 1)), (.v 2)), (1, (.a (.v 2) (.n 1)), (.a (.v 0) (.v 1)))] rfl (Nat.le_of_not_lt hjx) hg)
     subst hj'
     by_cases hi' : i = lo + x
     ·subst hi'; exact KeyOrd.kle_refl _
     ·exact KeyOrd.kle_trans (KeyOrd.kle_of_klt hless) (hs' i (lo + x - 1) hi (by exact Nat.le_of_not_lt fun hg => Or.elim (Nat.lt_or_gt_of_ne hi') (fun hs0 => lin [lo, x, i, (lo + x - 1)] [(1, (.a (.v 0) (.v 1)), (.a (.v 3) (.n 1))), (1, (.a (.v 3) (.n 1)), (.v 2)), (1, (.a (.v 2) (.n 1)), (.a (.v 0) (.v 1)))] rfl (sub_lo (lo + x) (1)) hg hs0) (fun hs0 => lin [lo, x, i] [(1, (.v 2), (.a (.v 0) (.v 1))), (1, (.a (.a (.v 0) (.v 1)) (.n 1)), (.v 2))] rfl hij hs0)) (by exact Nat.lt_of_not_le fun hg => lin [lo, x, (lo + x - 1)] [(1, (.a (.v 2) (.n 1)), (.a (.v 0) (.v 1))), (1, (.a (.v 0) (.v 1)), (.v 2))] rfl (sub_hi (Nat.le_of_not_lt fun hg => lin [lo, n, x] [(1, (.n 1), (.v 1)), (1, (.v 1), (.v 2)), (1, (.a (.a (.v 0) (.v 2)) (.n 1)), (.n 1))] rfl h1 hax hg)) hg))
   by_cases hneq : neq > 0
   ·rw [if_pos hneq]
    refine wpS_bind (ts_rev (wpS_pure ⟨0, rfl, hB'.setArr (mirror_perm _ _ _ _), hK.trans (kept_mirror hsz (by exact Nat.le_of_not_lt fun hg => lin [lo, x, neq, (lo + x - (neq + 1))] [(1, (.a (.v 2) (.n 1)), (.v 1)), (1, (.a (.v 0) (.v 1)), (.a (.v 3) (.a (.v 2) (.n 1)))), (1, (.a (.v 3) (.n 1)), (.v 0))] rfl hq (sub_lo (lo + x) (neq + 1)) hg)), step1 _ (tk_mirror_same hsz he), by exact Nat.succ_pos _, fun i h1 h2 => by congr 1; exact Nat.le_antisymm (Nat.le_of_not_lt fun hg => lin [lo, x, (lo + (x + 1) - (0 + 1)), i] [(1, (.a (.v 3) (.n 1)), (.a (.v 0) (.a (.v 1) (.n 1)))), (1, (.a (.v 0) (.a (.v 1) (.n 1))), (.a (.v 2) (.a (.n 0) (.n 1)))), (1, (.a (.v 2) (.n 1)), (.v 3))] rfl h2 (sub_lo (lo + (x + 1)) (0 + 1)) hg) (Nat.le_of_not_lt fun hg => lin [(lo + (x + 1) - (0 + 1)), i] [(1, (.v 0), (.v 1)), (1, (.a (.v 1) (.n 1)), (.v 0))] rfl h1 hg)⟩))
   ·rw [if_neg hneq]
    exact wpS_pure ⟨0, rfl, hB', hK, step1 _ (fun _ => rfl), by exact Nat.succ_pos _, fun i h1 h2 => by congr 1; exact Nat.le_antisymm (Nat.le_of_not_lt fun hg => lin [lo, x, (lo + (x + 1) - (0 + 1)), i] [(1, (.a (.v 3) (.n 1)), (.a (.v 0) (.a (.v 1) (.n 1)))), (1, (.a (.v 0) (.a (.v 1) (.n 1))), (.a (.v 2) (.a (.n 0) (.n 1)))), (1, (.a (.v 2) (.n 1)), (.v 3))] rfl h2 (sub_lo (lo + (x + 1)) (0 + 1)) hg) (Nat.le_of_not_lt fun hg => lin [(lo + (x + 1) - (0 + 1)), i] [(1, (.v 0), (.v 1)), (1, (.a (.v 1) (.n 1)), (.v 0))] rfl h1 hg)⟩
  case false =>
   simp only [Bool.false_eq_true, if_false]
   refine wpS_bind (ts_ltAt hL hB' (by exact Nat.lt_of_not_le fun hg => lin [lo, nrem, (a₀.size), x, (lo + x - 1)] [(1, (.a (.v 0) (.v 1)), (.v 2)), (1, (.a (.v 3) (.n 1)), (.v 1)), (1, (.a (.v 4) (.n 1)), (.a (.v 0) (.v 3))), (1, (.v 2), (.v 4))] rfl hn hxn (sub_hi (Nat.le_of_not_lt fun hg => lin [lo, n, x] [(1, (.n 1), (.v 1)), (1, (.v 1), (.v 2)), (1, (.a (.a (.v 0) (.v 2)) (.n 1)), (.n 1))] rfl h1 hax hg)) hg) (by exact Nat.lt_of_not_le fun hg => lin [lo, nrem, (a₀.size), x] [(1, (.a (.v 0) (.v 1)), (.v 2)), (1, (.a (.v 3) (.n 1)), (.v 1)), (1, (.v 2), (.a (.v 0) (.v 3)))] rfl hn hxn hg) ?_)
   cases hlarger : O.blt (tk key (arrOf st') (lo + x - 1)) (tk key (arrOf st') (lo + x))
   case true =>
    simp only [if_true]
    exact wpS_pure (h x neq st' hB' hK hax (by exact Nat.le_of_lt hxn) hs' hq he)
   case false =>
    simp only [Bool.false_eq_true, if_false]
    have heqx : tk key (arrOf st') (lo + x) = tk key (arrOf st') (lo + x - 1) := KeyOrd.kle_antisymm hlarger hless
    refine wpS_pure ⟨neq + 1, rfl, hB', hK, fun i j hi hij hj => ?_, by exact Nat.lt_succ_of_le hq, fun i h1 h2 => ?_⟩
    ·by_cases hjx : j < lo + x
     ·exact hs' i j hi hij hjx
     ·have hj' : j = lo + x := by exact Nat.le_antisymm (Nat.le_of_not_lt fun hg => lin [lo, x, j] [(1, (.a (.v 2) (.n 1)), (.a (.v 0) (.a (.v 1) (.n 1)))), (1, (.a (.a (.v 0) (.v 1)) (.n 1)), (.v 2))] rfl hj hg) (Nat.le_of_not_lt fun hg => lin [lo, x, j] [(1, (.a (.v 0) (.v 1)), (.v 2)), (1, (.a (.v 2) (.n 1)), (.a (.v 0) (.v 1)))] rfl (Nat.le_of_not_lt hjx) hg)
      subst hj'
      by_cases hi' : i = lo + x
      ·subst hi'; exact KeyOrd.kle_refl _
      ·rw [heqx]; exact hs' i (lo + x - 1) hi (by exact Nat.le_of_not_lt fun hg => Or.elim (Nat.lt_or_gt_of_ne hi') (fun hs0 => lin [lo, x, i, (lo + x - 1)] [(1, (.a (.v 0) (.v 1)), (.a (.v 3) (.n 1))), (1, (.a (.v 3) (.n 1)), (.v 2)), (1, (.a (.v 2) (.n 1)), (.a (.v 0) (.v 1)))] rfl (sub_lo (lo + x) (1)) hg hs0) (fun hs0 => lin [lo, x, i] [(1, (.v 2), (.a (.v 0) (.v 1))), (1, (.a (.a (.v 0) (.v 1)) (.n 1)), (.v 2))] rfl hij hs0)) (by exact Nat.lt_of_not_le fun hg => lin [lo, x, (lo + x - 1)] [(1, (.a (.v 2) (.n 1)), (.a (.v 0) (.v 1))), (1, (.a (.v 0) (.v 1)), (.v 2))] rfl (sub_hi (Nat.le_of_not_lt fun hg => lin [lo, n, x] [(1, (.n 1), (.v 1)), (1, (.v 1), (.v 2)), (1, (.a (.a (.v 0) (.v 2)) (.n 1)), (.n 1))] rfl h1 hax hg)) hg)
    ·rw [show lo + (x + 1) - 1 = lo + x by exact rfl]
     by_cases hix : i = lo + x
     ·subst hix; rfl
     ·rw [heqx]; exact he i (by exact Nat.le_of_not_lt fun hg => lin [lo, x, neq, (lo + (x + 1) - (neq + 1 + 1)), i, (lo + x - (neq + 1))] [(1, (.v 3), (.v 4)), (1, (.a (.v 0) (.a (.v 1) (.n 1))), (.a (.v 3) (.a (.a (.v 2) (.n 1)) (.n 1)))), (1, (.a (.v 5) (.a (.v 2) (.n 1))), (.a (.v 0) (.v 1))), (1, (.a (.v 4) (.n 1)), (.v 5))] rfl h1 (sub_lo (lo + (x + 1)) (neq + 1 + 1)) (sub_hi (Nat.le_of_not_lt fun hg => lin [lo, x, neq] [(1, (.a (.v 2) (.n 1)), (.v 1)), (1, (.a (.a (.v 0) (.v 1)) (.n 1)), (.a (.v 2) (.n 1)))] rfl hq hg)) hg) (by exact Nat.lt_of_not_le fun hg => Or.elim (Nat.lt_or_gt_of_ne hix) (fun hs0 => lin [lo, x, i] [(1, (.a (.v 0) (.v 1)), (.v 2)), (1, (.a (.v 2) (.n 1)), (.a (.v 0) (.v 1)))] rfl hg hs0) (fun hs0 => lin [lo, x, i] [(1, (.a (.v 2) (.n 1)), (.a (.v 0) (.a (.v 1) (.n 1)))), (1, (.a (.a (.v 0) (.v 1)) (.n 1)), (.v 2))] rfl h2 hs0))
theorem ts_desc {st : SortSt} {lo n nrem : Nat} {Q : Option Nat → SortSt → Prop} (hL : LtOk prog w A E s kd O key a₀) (hn : lo + nrem ≤ a₀.size) (hnn : n + 1 ≤ nrem) (hB : SB kd a₀ st)
  (hs : NIn key (arrOf st) lo (lo + (n + 1))) (h : RunPost kd O key a₀ st lo nrem Q) :
  wpS (model prog w) A E s (descL lo n nrem) Q st := by
 unfold descL
 refine wpS_bind (wpS_lift (wpAny_rule ⟨rfl, ?_⟩))
 refine wpS_bind (ts_fall hL hn (by exact Nat.succ_pos _) hnn hB hs fun m neq st' hB' hK hm1 hm2 hs' hq he => ?_)
 dsimp only
 have hsz : lo + m ≤ (arrOf st').size := by rw [hB'.size]; exact Nat.le_of_not_lt fun hg => lin [lo, nrem, (a₀.size), m] [(1, (.a (.v 0) (.v 1)), (.v 2)), (1, (.v 3), (.v 1)), (1, (.a (.v 2) (.n 1)), (.a (.v 0) (.v 3)))] rfl hn hm2 hg
 by_cases hneq : neq > 0
 ·rw [if_pos hneq]
  refine wpS_bind (ts_rev (ts_end hL hn (by exact Nat.zero_lt_of_lt hm1) hm2 (hB'.setArr (mirror_perm _ _ _ _)) ?_ (h.step (hK.trans (kept_mirror hsz (by exact Nat.le_of_not_lt fun hg => lin [lo, m, neq, (lo + m - (neq + 1))] [(1, (.a (.v 2) (.n 1)), (.v 1)), (1, (.a (.v 0) (.v 1)), (.a (.v 3) (.a (.v 2) (.n 1)))), (1, (.a (.v 3) (.n 1)), (.v 0))] rfl hq (sub_lo (lo + m) (neq + 1)) hg))))))
  intro i j hi hij hj
  show O.kle (tk key (mirror (arrOf st') _ _ _) j) (tk key (mirror (arrOf st') _ _ _) i)
  rw [tk_mirror_same hsz he, tk_mirror_same hsz he]
  exact hs' i j hi hij hj
 ·rw [if_neg hneq]
  exact ts_end hL hn (by exact Nat.zero_lt_of_lt hm1) hm2 hB' hs' (h.step hK)
theorem ts_count {st : SortSt} {lo nrem : Nat} {Q : Option Nat → SortSt → Prop} (hL : LtOk prog w A E s kd O key a₀) (hn : lo + nrem ≤ a₀.size) (h1 : 1 ≤ nrem) (hB : SB kd a₀ st)
  (h : RunPost kd O key a₀ st lo nrem Q) :
  wpS (model prog w) A E s (countRun' lo nrem) Q st := by
 rw [countL_eq]
 refine wpS_bind (ts_asc hL hn (Nat.le_refl 1) h1 hB (fun i j hi hij hj => by have : i = j := (by exact Nat.le_antisymm (Nat.le_of_not_lt fun hg => lin [i, j] [(1, (.v 0), (.v 1)), (1, (.a (.v 1) (.n 1)), (.v 0))] rfl hij hg) (Nat.le_of_not_lt fun hg => lin [lo, i, j] [(1, (.v 0), (.v 1)), (1, (.a (.v 2) (.n 1)), (.a (.v 0) (.n 1))), (1, (.a (.v 1) (.n 1)), (.v 2))] rfl hi hj hg)); subst this; exact KeyOrd.kle_refl _) fun n hn1 hn2 hsn hor => ?_)
 dsimp only
 by_cases hnn : n = nrem
 ·rw [if_pos (by simpa using hnn)]
  exact wpS_pure (h n st hB Kept.refl hn1 hn2 hsn)
 ·rw [if_neg (by simpa using hnn)]
  have hlt : O.klt (tk key (arrOf st) (lo + n)) (tk key (arrOf st) (lo + n - 1)) := hor.resolve_left hnn
  by_cases hgt : n > 1
  ·rw [if_pos hgt]
   refine wpS_bind (ts_ltAt hL hB (by exact Nat.lt_of_not_le fun hg => lin [lo, nrem, (a₀.size)] [(1, (.a (.v 0) (.v 1)), (.v 2)), (1, (.n 1), (.v 1)), (1, (.v 2), (.v 0))] rfl hn h1 hg) (by exact Nat.lt_of_not_le fun hg => lin [lo, nrem, (a₀.size), n, (lo + n - 1)] [(1, (.a (.v 0) (.v 1)), (.v 2)), (1, (.v 3), (.v 1)), (1, (.a (.v 4) (.n 1)), (.a (.v 0) (.v 3))), (1, (.v 2), (.v 4))] rfl hn hn2 (sub_hi (Nat.le_of_not_lt fun hg => lin [lo, n] [(1, (.a (.n 1) (.n 1)), (.v 1)), (1, (.a (.a (.v 0) (.v 1)) (.n 1)), (.n 1))] rfl hgt hg)) hg) ?_)
   cases hrose : O.blt (tk key (arrOf st) lo) (tk key (arrOf st) (lo + n - 1))
   case true =>
    simp only [if_true]
    exact wpS_pure (h n st hB Kept.refl hn1 hn2 hsn)
   case false =>
    simp only [Bool.false_eq_true, if_false]
    have hsz : lo + n ≤ (arrOf st).size := by rw [hB.size]; exact Nat.le_of_not_lt fun hg => lin [lo, nrem, (a₀.size), n] [(1, (.a (.v 0) (.v 1)), (.v 2)), (1, (.v 3), (.v 1)), (1, (.a (.v 2) (.n 1)), (.a (.v 0) (.v 3)))] rfl hn hn2 hg
    have hall : ∀ k, lo ≤ k → k < lo + n → tk key (arrOf st) k = tk key (arrOf st) (lo + n - 1) := by
     intro k hk1 hk
     have a1 := hsn lo k (by exact Nat.le_refl _) hk1 hk
     have a2 := hsn k (lo + n - 1) hk1 (by exact Nat.le_of_not_lt fun hg => lin [lo, n, k, (lo + n - 1)] [(1, (.a (.v 2) (.n 1)), (.a (.v 0) (.v 1))), (1, (.a (.v 0) (.v 1)), (.a (.v 3) (.n 1))), (1, (.a (.v 3) (.n 1)), (.v 2))] rfl hk (sub_lo (lo + n) (1)) hg) (by exact Nat.lt_of_not_le fun hg => lin [lo, n, (lo + n - 1)] [(1, (.a (.v 2) (.n 1)), (.a (.v 0) (.v 1))), (1, (.a (.v 0) (.v 1)), (.v 2))] rfl (sub_hi (Nat.le_of_not_lt fun hg => lin [lo, n] [(1, (.a (.n 1) (.n 1)), (.v 1)), (1, (.a (.a (.v 0) (.v 1)) (.n 1)), (.n 1))] rfl hgt hg)) hg)
     exact KeyOrd.kle_antisymm a2 (KeyOrd.kle_trans hrose a1)
    refine wpS_bind (ts_rev (ts_desc hL hn (by exact Nat.lt_of_le_of_ne hn2 hnn) (hB.setArr (mirror_perm _ _ _ _)) ?_ (h.step (kept_mirror hsz (Nat.le_refl _)))))
    intro i j hi hij hj
    show O.kle (tk key (mirror (arrOf st) _ _ _) j) (tk key (mirror (arrOf st) _ _ _) i)
    rw [tk_mirror_same hsz hall, tk_mirror_same hsz hall]
    by_cases hjn : j < lo + n
    ·rw [hall i (by exact hi) (by exact Nat.lt_of_le_of_lt hij hjn), hall j (by exact Nat.le_trans hi hij) hjn]; exact KeyOrd.kle_refl _
    ·have hj' : j = lo + n := by exact Nat.le_antisymm (Nat.le_of_not_lt fun hg => lin [lo, n, j] [(1, (.a (.v 2) (.n 1)), (.a (.v 0) (.a (.v 1) (.n 1)))), (1, (.a (.a (.v 0) (.v 1)) (.n 1)), (.v 2))] rfl hj hg) (Nat.le_of_not_lt fun hg => lin [lo, n, j] [(1, (.a (.v 0) (.v 1)), (.v 2)), (1, (.a (.v 2) (.n 1)), (.a (.v 0) (.v 1)))] rfl (Nat.le_of_not_lt hjn) hg)
     subst hj'
     by_cases hi' : i = lo + n
     ·subst hi'; exact KeyOrd.kle_refl _
     ·rw [hall i (by exact hi) (by exact Nat.lt_of_le_of_ne hij hi')]; exact KeyOrd.kle_of_klt hlt
  ·rw [if_neg hgt]
   have hn1' : n = 1 := by omega
   subst hn1'
   refine ts_desc hL hn (by exact Nat.lt_of_le_of_ne h1 hnn) hB ?_ h
   intro i j hi hij hj
   by_cases hi' : i = j
   ·subst hi'; exact KeyOrd.kle_refl _
   ·have hi0 : i = lo := by exact Nat.le_antisymm (Nat.le_of_not_lt fun hg => Or.elim hor (fun hs0 => Or.elim (Nat.lt_or_gt_of_ne hnn) (fun hs1 => lin [nrem] [(1, (.v 0), (.n 1)), (1, (.a (.n 1) (.n 1)), (.v 0))] rfl (Nat.le_of_eq (Eq.symm hs0)) hs1) (fun hs1 => lin [nrem] [(1, (.n 1), (.v 0)), (1, (.a (.v 0) (.n 1)), (.n 1))] rfl h1 hs1)) (fun hs0 => Or.elim (Nat.lt_or_gt_of_ne hi') (fun hs1 => lin [lo, i, j] [(1, (.a (.v 2) (.n 1)), (.a (.v 0) (.a (.n 1) (.n 1)))), (1, (.a (.v 0) (.n 1)), (.v 1)), (1, (.a (.v 1) (.n 1)), (.v 2))] rfl hj hg hs1) (fun hs1 => lin [i, j] [(1, (.v 0), (.v 1)), (1, (.a (.v 1) (.n 1)), (.v 0))] rfl hij hs1))) (Nat.le_of_not_lt fun hg => lin [lo, i] [(1, (.v 0), (.v 1)), (1, (.a (.v 1) (.n 1)), (.v 0))] rfl hi hg)
    have hj1 : j = lo + 1 := by exact Nat.le_antisymm (Nat.le_of_not_lt fun hg => lin [lo, j] [(1, (.a (.v 1) (.n 1)), (.a (.v 0) (.a (.n 1) (.n 1)))), (1, (.a (.a (.v 0) (.n 1)) (.n 1)), (.v 1))] rfl hj hg) (Nat.le_of_not_lt fun hg => Or.elim hor (fun hs0 => Or.elim (Nat.lt_or_gt_of_ne hnn) (fun hs1 => lin [nrem] [(1, (.v 0), (.n 1)), (1, (.a (.n 1) (.n 1)), (.v 0))] rfl (Nat.le_of_eq (Eq.symm hs0)) hs1) (fun hs1 => lin [nrem] [(1, (.n 1), (.v 0)), (1, (.a (.v 0) (.n 1)), (.n 1))] rfl h1 hs1)) (fun hs0 => Or.elim (Nat.lt_or_gt_of_ne hi') (fun hs1 => lin [lo, i, j] [(1, (.v 0), (.v 1)), (1, (.a (.v 2) (.n 1)), (.a (.v 0) (.n 1))), (1, (.a (.v 1) (.n 1)), (.v 2))] rfl hi hg hs1) (fun hs1 => lin [i, j] [(1, (.v 0), (.v 1)), (1, (.a (.v 1) (.n 1)), (.v 0))] rfl hij hs1)))
    subst hi0; subst hj1
    exact KeyOrd.kle_of_klt hlt
end walk
end Mine
end
noncomputable section
namespace Mine
open PySem PyProof.Rows
noncomputable def gallopM : Bool → Keyed → Array Keyed → Nat → Nat → Nat → StateT SortSt Sem (Option Nat) := sortPriv% PySem.Builtin.gallop
noncomputable def mergeLoM : Array Keyed → Array Keyed → StateT SortSt Sem (Array Keyed) := sortPriv% PySem.Builtin.mergeLo
noncomputable def mergeHiM : Array Keyed → Array Keyed → StateT SortSt Sem (Array Keyed) := sortPriv% PySem.Builtin.mergeHi
noncomputable def bey {O : KeyOrd} (key : Keyed → O.α) (left : Bool) (k : Keyed) (arr : Array Keyed) (i : Nat) : Bool :=
 if left then O.blt (tk key arr i) (key k) else !O.blt (key k) (tk key arr i)
noncomputable def beyM (left : Bool) (k : Keyed) (arr : Array Keyed) (base i : Nat) : StateT SortSt Sem (Option Bool) := do
 let x ← elem' arr (base + i)
 if left then lt' x k else return (← lt' k x).map (!·)
section walk
variable {prog : Program} {w : World} {A : Around} {E : Value → Shared → Prop} {s : Shared} {kd : SortKind} {O : KeyOrd} {key : Keyed → O.α} {a₀ : Array Keyed}
theorem ts_bey {st : SortSt} {left : Bool} {k : Keyed} {arr : Array Keyed} {base i : Nat} {Q : Option Bool → SortSt → Prop} (hL : LtOk prog w A E s kd O key a₀)
  (hk : k ∈ a₀.toList) (ha : ∀ x ∈ arr.toList, x ∈ a₀.toList) (hi : base + i < arr.size) (hkd : kindOf st = kd)
  (h : Q (some (bey key left k arr (base + i))) st) : wpS (model prog w) A E s (beyM left k arr base i) Q st := by
 have e : arr[base + i]? = some arr[base + i] := getElem?_pos arr _ hi
 have m : arr[base + i] ∈ a₀.toList := ha _ (by simp)
 have et : tk key arr (base + i) = key arr[base + i] := by unfold tk; rw [e]; rfl
 unfold beyM
 rw [elem'_eq, e]
 refine wpS_bind (wpS_pure ?_)
 unfold bey at h
 rw [et] at h
 cases left with
 | true => exact hL _ _ m hk _ _ hkd h
 | false =>
  simp only [Bool.false_eq_true, if_false] at h ⊢
  exact wpS_bind (hL _ _ hk m _ _ hkd (wpS_pure h))
theorem ts_share {α β γ : Type} {Q : α → SortSt → Prop} {st : SortSt} {m : StateT SortSt Sem α} {G : β → γ → StateT SortSt Sem α} (H : β → γ → Prop) (use : (∀ x y, H x y → wpS (model prog w) A E s (G x y) Q st) → wpS (model prog w) A E s m Q st)
  (key : ∀ x y, H x y → wpS (model prog w) A E s (G x y) Q st) : wpS (model prog w) A E s m Q st := use key
theorem ts_gallop {st : SortSt} {left : Bool} {k : Keyed} {arr : Array Keyed} {base n hint : Nat} {Q : Option Nat → SortSt → Prop} (hL : LtOk prog w A E s kd O key a₀)
  (hk : k ∈ a₀.toList) (ha : ∀ x ∈ arr.toList, x ∈ a₀.toList) (hn : base + n ≤ arr.size) (hh : hint < n) (hkd : kindOf st = kd)
  (hm : ∀ i j, i ≤ j → j < n → bey key left k arr (base + j) = true → bey key left k arr (base + i) = true)
  (h : ∀ r, r ≤ n → (∀ i, i < r → bey key left k arr (base + i) = true) → (∀ i, r ≤ i → i < n → bey key left k arr (base + i) = false) → Q (some r) st) :
  wpS (model prog w) A E s (gallopM left k arr base n hint) Q st := by
 have hb : ∀ {i : Nat} {Q : Option Bool → SortSt → Prop}, i < n → Q (some (bey key left k arr (base + i))) st → wpS (model prog w) A E s (beyM left k arr base i) Q st :=
  fun hi h => ts_bey hL hk ha (by (rename_i zz1 zz0; exact Nat.lt_of_not_le fun hg => lin [base, n, (arr.size), zz1] [(1, (.a (.v 0) (.v 1)), (.v 2)), (1, (.a (.v 3) (.n 1)), (.v 1)), (1, (.v 2), (.a (.v 0) (.v 3)))] rfl hn hi hg)) hkd h
 have hmf : ∀ i j, i ≤ j → j < n → bey key left k arr (base + i) = false → bey key left k arr (base + j) = false := by
  intro i j hij hj hf
  cases hbj : bey key left k arr (base + j) with
  | false => rfl
  | true => rw [hm i j hij hj hbj] at hf; cases hf
 unfold gallopM
 refine wpS_bind (hb hh ?_)
 refine' ts_share (G := ?G) (fun lo hi => lo ≤ hi ∧ hi ≤ n ∧ (∀ i, i < lo → bey key left k arr (base + i) = true) ∧ (∀ i, hi ≤ i → i < n → bey key left k arr (base + i) = false)) (fun K => ?use) ?key
 case use =>
  cases hr : bey key left k arr (base + hint) with
  | true =>
   refine ts_for (fun x c st' => st' = st ∧ ∃ l o, c = (none, l, o) ∧ l < o ∧ x + 1 ≤ o ∧ l < n - hint ∧ bey key left k arr (base + (hint + l)) = true)
    (fun c st' => st' = st ∧ ∃ l o, c = (none, l, o) ∧ l < o ∧ l < n - hint ∧ bey key left k arr (base + (hint + l)) = true ∧ (o < n - hint → bey key left k arr (base + (hint + o)) = false)) ?step ?fin ⟨rfl, 0, 1, rfl, Nat.one_pos, Nat.le_refl _, by exact Nat.sub_pos_of_lt hh, hr⟩ ?post
   case fin =>
    rintro c st' ⟨rfl, l, o, rfl, h1, h2, h3, h4⟩
    exact ⟨rfl, l, o, rfl, h1, h3, h4, fun h5 => by omega⟩
   case step =>
    rintro F hF x c st' ⟨rfl, l, o, rfl, h1, h2, h3, h4⟩
    subst hF
    dsimp only
    by_cases ho : o ≥ n - hint
    ·rw [if_pos ho]
     exact wpS_pure ⟨rfl, l, o, rfl, h1, h3, h4, fun h5 => by omega⟩
    ·rw [if_neg ho]
     refine wpS_bind (hb (by omega) ?_)
     cases hbo : bey key left k arr (base + (hint + o)) with
     | true => exact wpS_pure ⟨rfl, o, 2 * o + 1, rfl, by exact Nat.lt_of_not_le fun hg => lin [l, o] [(1, (.a (.v 0) (.n 1)), (.v 1)), (1, (.a (.m 2 (.v 1)) (.n 1)), (.v 1))] rfl h1 hg, by exact Nat.le_of_not_lt fun hg => lin [l, o, x] [(1, (.a (.v 0) (.n 1)), (.v 1)), (1, (.a (.v 2) (.n 1)), (.v 1)), (1, (.a (.a (.m 2 (.v 1)) (.n 1)) (.n 1)), (.a (.a (.v 2) (.n 1)) (.n 1)))] rfl h1 h2 hg, by exact Nat.lt_of_not_le ho, hbo⟩
     | false => exact wpS_pure ⟨rfl, l, o, rfl, h1, h3, h4, fun _ => hbo⟩
   case post =>
    rintro K2 hK c st' ⟨hst, l, o, rfl, h1, h3, h4, h5⟩
    rw [hst]
    subst hK
    dsimp only
    have H : hint + l + 1 ≤ hint + min o (n - hint) ∧ hint + min o (n - hint) ≤ n ∧ (∀ i, i < hint + l + 1 → bey key left k arr (base + i) = true) ∧ (∀ i, hint + min o (n - hint) ≤ i → i < n → bey key left k arr (base + i) = false) := by
     refine ⟨by exact Nat.le_of_not_lt fun hg => Or.elim (sub_or (n) (hint)) (fun hs0 => Or.elim (min_or (o) (n - hint)) (fun hs1 => lin [hint, l, o, (min o (n - hint))] [(1, (.a (.v 1) (.n 1)), (.v 2)), (1, (.a (.a (.v 0) (.v 3)) (.n 1)), (.a (.a (.v 0) (.v 1)) (.n 1))), (1, (.v 2), (.v 3))] rfl h1 hg hs1) (fun hs1 => lin [hint, l, (n - hint), (min o (n - hint))] [(1, (.a (.v 1) (.n 1)), (.v 2)), (1, (.a (.a (.v 0) (.v 3)) (.n 1)), (.a (.a (.v 0) (.v 1)) (.n 1))), (1, (.v 2), (.v 3))] rfl h3 hg hs1)) (fun hs0 => lin [n, hint, (n - hint)] [(1, (.a (.v 1) (.n 1)), (.v 0)), (1, (.v 0), (.a (.v 2) (.v 1))), (1, (.v 2), (.n 0))] rfl hh (sub_lo (n) (hint)) (Nat.le_of_eq hs0)), by exact Nat.le_of_not_lt fun hg => lin [n, hint, (n - hint), (min o (n - hint))] [(1, (.v 3), (.v 2)), (1, (.a (.v 2) (.v 1)), (.v 0)), (1, (.a (.v 0) (.n 1)), (.a (.v 1) (.v 3)))] rfl (Nat.min_le_right (o) (n - hint)) (sub_hi (Nat.le_of_not_lt fun hg => lin [n, hint] [(1, (.a (.v 1) (.n 1)), (.v 0)), (1, (.a (.v 0) (.n 1)), (.v 1))] rfl hh hg)) hg, fun i hi => hm i (hint + l) (by exact Nat.le_of_lt_succ hi) (by exact Nat.lt_of_not_le fun hg => lin [n, hint, l, (n - hint)] [(1, (.a (.v 2) (.n 1)), (.v 3)), (1, (.a (.v 3) (.v 1)), (.v 0)), (1, (.v 0), (.a (.v 1) (.v 2)))] rfl h3 (sub_hi (Nat.le_of_not_lt fun hg => lin [n, hint] [(1, (.a (.v 1) (.n 1)), (.v 0)), (1, (.a (.v 0) (.n 1)), (.v 1))] rfl hh hg)) hg) h4, fun i h6 h7 => ?_⟩
     by_cases ho : o < n - hint
     ·exact hmf (hint + o) i (by exact Nat.le_of_not_lt fun hg => Or.elim (sub_or (n) (hint)) (fun hs0 => Or.elim (min_or (o) (n - hint)) (fun hs1 => lin [hint, o, (min o (n - hint)), i] [(1, (.a (.v 0) (.v 2)), (.v 3)), (1, (.a (.v 3) (.n 1)), (.a (.v 0) (.v 1))), (1, (.v 1), (.v 2))] rfl h6 hg hs1) (fun hs1 => lin [hint, o, (n - hint), (min o (n - hint)), i] [(1, (.a (.v 0) (.v 3)), (.v 4)), (1, (.a (.v 1) (.n 1)), (.v 2)), (1, (.a (.v 4) (.n 1)), (.a (.v 0) (.v 1))), (1, (.v 2), (.v 3))] rfl h6 ho hg hs1)) (fun hs0 => lin [n, hint, (n - hint)] [(1, (.a (.v 1) (.n 1)), (.v 0)), (1, (.v 0), (.a (.v 2) (.v 1))), (1, (.v 2), (.n 0))] rfl hh (sub_lo (n) (hint)) (Nat.le_of_eq hs0))) h7 (h5 ho)
     ·omega
    generalize hint + l + 1 = lo at H ⊢
    generalize hint + min o (n - hint) = hi at H ⊢
    exact K lo hi H
  | false =>
   refine ts_for (fun x c st' => st' = st ∧ ∃ l o, c = (none, l, o) ∧ l < o ∧ x + 1 ≤ o ∧ l ≤ hint ∧ bey key left k arr (base + (hint - l)) = false)
    (fun c st' => st' = st ∧ ∃ l o, c = (none, l, o) ∧ l < o ∧ l ≤ hint ∧ bey key left k arr (base + (hint - l)) = false ∧ (o ≤ hint → bey key left k arr (base + (hint - o)) = true)) ?step ?fin ⟨rfl, 0, 1, rfl, Nat.one_pos, Nat.le_refl _, Nat.zero_le _, hr⟩ ?post
   case fin =>
    rintro c st' ⟨rfl, l, o, rfl, h1, h2, h3, h4⟩
    exact ⟨rfl, l, o, rfl, h1, h3, h4, fun h5 => by omega⟩
   case step =>
    rintro F hF x c st' ⟨rfl, l, o, rfl, h1, h2, h3, h4⟩
    subst hF
    dsimp only
    by_cases ho : o ≥ hint + 1
    ·rw [if_pos ho]
     exact wpS_pure ⟨rfl, l, o, rfl, h1, h3, h4, fun h5 => by omega⟩
    ·rw [if_neg ho]
     refine wpS_bind (hb (by exact Nat.lt_of_le_of_lt (Nat.sub_le _ _) hh) ?_)
     cases hbo : bey key left k arr (base + (hint - o)) with
     | false => exact wpS_pure ⟨rfl, o, 2 * o + 1, rfl, by exact Nat.lt_of_not_le fun hg => lin [l, o] [(1, (.a (.v 0) (.n 1)), (.v 1)), (1, (.a (.m 2 (.v 1)) (.n 1)), (.v 1))] rfl h1 hg, by exact Nat.le_of_not_lt fun hg => lin [l, o, x] [(1, (.a (.v 0) (.n 1)), (.v 1)), (1, (.a (.v 2) (.n 1)), (.v 1)), (1, (.a (.a (.m 2 (.v 1)) (.n 1)) (.n 1)), (.a (.a (.v 2) (.n 1)) (.n 1)))] rfl h1 h2 hg, by exact Nat.le_of_not_lt ho, hbo⟩
     | true => exact wpS_pure ⟨rfl, l, o, rfl, h1, h3, h4, fun _ => hbo⟩
   case post =>
    rintro K2 hK c st' ⟨hst, l, o, rfl, h1, h3, h4, h5⟩
    rw [hst]
    subst hK
    dsimp only
    refine K _ _ ⟨by exact Nat.le_of_not_lt fun hg => Or.elim (sub_or (hint + 1) (min o (hint + 1))) (fun hs0 => Or.elim (min_or (o) (hint + 1)) (fun hs1 => lin [hint, l, o, (hint + 1 - min o (hint + 1)), (hint - l), (min o (hint + 1))] [(1, (.a (.v 1) (.n 1)), (.v 2)), (1, (.a (.v 3) (.v 5)), (.a (.v 0) (.n 1))), (1, (.v 0), (.a (.v 4) (.v 1))), (1, (.a (.v 4) (.n 1)), (.v 3)), (1, (.v 2), (.v 5))] rfl h1 (sub_hi (Nat.le_of_not_lt fun hg => lin [hint, (min o (hint + 1))] [(1, (.v 1), (.a (.v 0) (.n 1))), (1, (.a (.a (.v 0) (.n 1)) (.n 1)), (.v 1))] rfl (Nat.min_le_right (o) (hint + 1)) hg)) (sub_lo (hint) (l)) hg hs1) (fun hs1 => lin [hint, l, (hint + 1 - min o (hint + 1)), (hint - l), (min o (hint + 1))] [(1, (.v 1), (.v 0)), (1, (.a (.v 2) (.v 4)), (.a (.v 0) (.n 1))), (1, (.v 0), (.a (.v 3) (.v 1))), (1, (.a (.v 3) (.n 1)), (.v 2)), (1, (.a (.v 0) (.n 1)), (.v 4))] rfl h3 (sub_hi (Nat.le_of_not_lt fun hg => lin [hint, (min o (hint + 1))] [(1, (.v 1), (.a (.v 0) (.n 1))), (1, (.a (.a (.v 0) (.n 1)) (.n 1)), (.v 1))] rfl (Nat.min_le_right (o) (hint + 1)) hg)) (sub_lo (hint) (l)) hg hs1)) (fun hs0 => lin [hint, l, (hint + 1 - min o (hint + 1)), (hint - l)] [(1, (.v 1), (.v 0)), (1, (.v 0), (.a (.v 3) (.v 1))), (1, (.a (.v 3) (.n 1)), (.v 2)), (1, (.v 2), (.n 0))] rfl h3 (sub_lo (hint) (l)) hg (Nat.le_of_eq hs0)), by exact Nat.le_of_not_lt fun hg => lin [n, hint, l, (hint - l)] [(1, (.a (.v 1) (.n 1)), (.v 0)), (1, (.a (.v 3) (.v 2)), (.v 1)), (1, (.a (.v 0) (.n 1)), (.v 3))] rfl hh (sub_hi (Nat.le_of_not_lt fun hg => lin [hint, l] [(1, (.v 1), (.v 0)), (1, (.a (.v 0) (.n 1)), (.v 1))] rfl h3 hg)) hg, fun i hi => ?_, fun i h6 h7 => hmf (hint - l) i (by exact h6) h7 h4⟩
    by_cases ho : o ≤ hint
    ·exact hm i (hint - o) (by exact Nat.le_of_not_lt fun hg => Or.elim (sub_or (hint + 1) (min o (hint + 1))) (fun hs0 => Or.elim (min_or (o) (hint + 1)) (fun hs1 => lin [hint, o, i, (hint + 1 - min o (hint + 1)), (hint - o), (min o (hint + 1))] [(1, (.a (.v 2) (.n 1)), (.v 3)), (1, (.a (.v 3) (.v 5)), (.a (.v 0) (.n 1))), (1, (.v 0), (.a (.v 4) (.v 1))), (1, (.a (.v 4) (.n 1)), (.v 2)), (1, (.v 1), (.v 5))] rfl hi (sub_hi (Nat.le_of_not_lt fun hg => lin [hint, o, (min o (hint + 1))] [(1, (.v 1), (.v 0)), (1, (.v 2), (.v 1)), (1, (.a (.a (.v 0) (.n 1)) (.n 1)), (.v 2))] rfl ho (Nat.min_le_left (o) (hint + 1)) hg)) (sub_lo (hint) (o)) hg hs1) (fun hs1 => lin [hint, o, (min o (hint + 1))] [(1, (.v 1), (.v 0)), (1, (.v 2), (.v 1)), (1, (.a (.v 0) (.n 1)), (.v 2))] rfl ho (Nat.min_le_left (o) (hint + 1)) hs1)) (fun hs0 => lin [hint, o, i, (hint + 1 - min o (hint + 1)), (hint - o)] [(1, (.a (.v 2) (.n 1)), (.v 3)), (1, (.v 1), (.v 0)), (1, (.v 0), (.a (.v 4) (.v 1))), (1, (.a (.v 4) (.n 1)), (.v 2)), (1, (.v 3), (.n 0))] rfl hi ho (sub_lo (hint) (o)) hg (Nat.le_of_eq hs0))) (by exact Nat.lt_of_le_of_lt (Nat.sub_le _ _) hh) (h5 ho)
    ·omega
 case key =>
  rintro lo hi ⟨b1, b2, b4, b5⟩
  refine ts_for (fun x c st'' => st'' = st ∧ ∃ lo hi, c = (none, lo, hi) ∧ lo ≤ hi ∧ hi ≤ n ∧ hi - lo ≤ n - x ∧
    (∀ i, i < lo → bey key left k arr (base + i) = true) ∧ (∀ i, hi ≤ i → i < n → bey key left k arr (base + i) = false))
   (fun c st'' => st'' = st ∧ ∃ lo hi, c = (none, lo, hi) ∧ hi ≤ n ∧
    (∀ i, i < hi → bey key left k arr (base + i) = true) ∧ (∀ i, hi ≤ i → i < n → bey key left k arr (base + i) = false)) ?step ?fin ⟨rfl, lo, hi, rfl, b1, b2, by exact Nat.le_trans (Nat.sub_le _ _) b2, b4, b5⟩ ?post
  case fin =>
   rintro c st'' ⟨rfl, lo, hi, rfl, a1, a2, a3, a4, a5⟩
   have : lo = hi := by exact Nat.le_antisymm (Nat.le_of_not_lt fun hg => lin [lo, hi] [(1, (.v 0), (.v 1)), (1, (.a (.v 1) (.n 1)), (.v 0))] rfl a1 hg) (Nat.le_of_not_lt fun hg => lin [n, lo, hi, (hi - lo), (n - max 0 n)] [(1, (.v 3), (.v 4)), (1, (.v 2), (.a (.v 3) (.v 1))), (1, (.a (.v 4) (.v 0)), (.v 0)), (1, (.a (.v 1) (.n 1)), (.v 2))] rfl a3 (sub_lo (hi) (lo)) (sub_hi (Nat.le_of_not_lt fun hg => lin [n] [(1, (.a (.v 0) (.n 1)), (.v 0))] rfl hg)) hg)
   subst this
   exact ⟨rfl, lo, lo, rfl, a2, a4, a5⟩
  case step =>
   rintro F hF x c st'' ⟨rfl, lo, hi, rfl, a1, a2, a3, a4, a5⟩
   subst hF
   dsimp only
   by_cases hge : lo ≥ hi
   ·rw [if_pos hge]
    have : lo = hi := by exact Nat.le_antisymm a1 hge
    subst this
    exact wpS_pure ⟨rfl, lo, lo, rfl, a2, a4, a5⟩
   ·rw [if_neg hge]
    refine wpS_bind (hb (i := lo + (hi - lo) / 2) (by omega) ?_)
    cases hbo : bey key left k arr (base + (lo + (hi - lo) / 2)) with
    | true => exact wpS_pure ⟨rfl, _, hi, rfl, by omega, a2, by exact Nat.le_of_not_lt fun hg => Or.elim (sub_or (n) (x)) (fun hs0 => Or.elim (sub_or (hi) (lo + (hi - lo) / 2 + 1)) (fun hs1 => lin [n, lo, hi, (hi - lo), (n - x), (hi - (lo + (hi - lo) / 2 + 1)), (n - (x + 1)), x, ((hi - lo) / 2)] [(1, (.v 1), (.v 2)), (2, (.v 3), (.v 4)), (1, (.a (.v 3) (.n 1)), (.a (.m 2 (.v 8)) (.n 2))), (3, (.v 2), (.a (.v 3) (.v 1))), (2, (.v 0), (.a (.v 6) (.a (.v 7) (.n 1)))), (2, (.a (.v 6) (.n 1)), (.v 5)), (2, (.a (.v 4) (.v 7)), (.v 0)), (2, (.a (.v 5) (.a (.a (.v 1) (.v 8)) (.n 1))), (.v 2))] rfl a1 a3 (Mine.div_hi (hi - lo) 2 (by decide)) (sub_lo (hi) (lo)) (sub_lo (n) (x + 1)) hg (Nat.le_of_eq hs0) (Nat.le_of_eq hs1)) (fun hs1 => lin [(hi - (lo + (hi - lo) / 2 + 1)), (n - (x + 1))] [(1, (.a (.v 1) (.n 1)), (.v 0)), (1, (.v 0), (.n 0))] rfl hg (Nat.le_of_eq hs1))) (fun hs0 => Or.elim (sub_or (hi) (lo + (hi - lo) / 2 + 1)) (fun hs1 => lin [lo, hi, (hi - lo), (n - x), (hi - (lo + (hi - lo) / 2 + 1)), ((hi - lo) / 2)] [(1, (.v 2), (.v 3)), (1, (.a (.v 2) (.n 1)), (.a (.m 2 (.v 5)) (.n 2))), (2, (.v 1), (.a (.v 2) (.v 0))), (1, (.v 3), (.n 0)), (2, (.a (.v 4) (.a (.a (.v 0) (.v 5)) (.n 1))), (.v 1))] rfl a3 (Mine.div_hi (hi - lo) 2 (by decide)) (sub_lo (hi) (lo)) (Nat.le_of_eq hs0) (Nat.le_of_eq hs1)) (fun hs1 => lin [(hi - (lo + (hi - lo) / 2 + 1)), (n - (x + 1))] [(1, (.a (.v 1) (.n 1)), (.v 0)), (1, (.v 0), (.n 0))] rfl hg (Nat.le_of_eq hs1))), fun i hi' => hm i _ (by exact Nat.le_of_lt_succ hi') (by omega) hbo, a5⟩
    | false => exact wpS_pure ⟨rfl, lo, _, rfl, by exact Nat.le_add_right _ _, by exact Nat.le_of_not_lt fun hg => lin [n, lo, hi, (hi - lo), ((hi - lo) / 2)] [(1, (.v 1), (.v 2)), (2, (.v 2), (.v 0)), (1, (.m 2 (.v 4)), (.v 3)), (1, (.a (.v 3) (.v 1)), (.v 2)), (2, (.a (.v 0) (.n 1)), (.a (.v 1) (.v 4)))] rfl a1 a2 (Mine.div_lo (hi - lo) 2) (sub_hi (Nat.le_of_not_lt fun hg => lin [lo, hi] [(1, (.v 0), (.v 1)), (1, (.a (.v 1) (.n 1)), (.v 0))] rfl a1 hg)) hg, by exact Nat.le_of_not_lt fun hg => Or.elim (sub_or (hi) (lo)) (fun hs0 => Or.elim (sub_or (n) (x)) (fun hs1 => lin [n, lo, (hi - lo), (n - x), (lo + (hi - lo) / 2 - lo), (n - (x + 1)), x, ((hi - lo) / 2)] [(1, (.v 2), (.v 3)), (1, (.m 2 (.v 7)), (.v 2)), (2, (.a (.v 4) (.v 1)), (.a (.v 1) (.v 7))), (1, (.v 0), (.a (.v 5) (.a (.v 6) (.n 1)))), (2, (.a (.v 5) (.n 1)), (.v 4)), (1, (.a (.v 3) (.v 6)), (.v 0))] rfl a3 (Mine.div_lo (hi - lo) 2) (sub_hi (Nat.le_of_not_lt fun hg => lin [lo, hi, (hi - lo), ((hi - lo) / 2)] [(1, (.v 0), (.v 1)), (1, (.a (.v 2) (.n 1)), (.a (.m 2 (.v 3)) (.n 2))), (1, (.v 1), (.a (.v 2) (.v 0))), (2, (.a (.a (.v 0) (.v 3)) (.n 1)), (.v 0))] rfl a1 (Mine.div_hi (hi - lo) 2 (by decide)) (sub_lo (hi) (lo)) hg)) (sub_lo (n) (x + 1)) hg (Nat.le_of_eq hs1)) (fun hs1 => lin [lo, (hi - lo), (n - x), (lo + (hi - lo) / 2 - lo), (n - (x + 1)), ((hi - lo) / 2)] [(1, (.v 1), (.v 2)), (1, (.m 2 (.v 5)), (.v 1)), (2, (.a (.v 3) (.v 0)), (.a (.v 0) (.v 5))), (2, (.a (.v 4) (.n 1)), (.v 3)), (1, (.v 2), (.n 0))] rfl a3 (Mine.div_lo (hi - lo) 2) (sub_hi (Nat.le_of_not_lt fun hg => lin [lo, hi, (hi - lo), ((hi - lo) / 2)] [(1, (.v 0), (.v 1)), (1, (.a (.v 2) (.n 1)), (.a (.m 2 (.v 3)) (.n 2))), (1, (.v 1), (.a (.v 2) (.v 0))), (2, (.a (.a (.v 0) (.v 3)) (.n 1)), (.v 0))] rfl a1 (Mine.div_hi (hi - lo) 2 (by decide)) (sub_lo (hi) (lo)) hg)) hg (Nat.le_of_eq hs1))) (fun hs0 => lin [lo, (hi - lo), (lo + (hi - lo) / 2 - lo), (n - (x + 1)), ((hi - lo) / 2)] [(1, (.m 2 (.v 4)), (.v 1)), (2, (.a (.v 2) (.v 0)), (.a (.v 0) (.v 4))), (2, (.a (.v 3) (.n 1)), (.v 2)), (1, (.v 1), (.n 0))] rfl (Mine.div_lo (hi - lo) 2) (sub_hi (Nat.le_of_not_lt fun hg => lin [lo, hi, (hi - lo), ((hi - lo) / 2)] [(1, (.v 0), (.v 1)), (1, (.a (.v 2) (.n 1)), (.a (.m 2 (.v 3)) (.n 2))), (1, (.v 1), (.a (.v 2) (.v 0))), (2, (.a (.a (.v 0) (.v 3)) (.n 1)), (.v 0))] rfl a1 (Mine.div_hi (hi - lo) 2 (by decide)) (sub_lo (hi) (lo)) hg)) hg (Nat.le_of_eq hs0)), a4, fun i h6 h7 => hmf _ i h6 h7 hbo⟩
  case post =>
   rintro K hK c st'' ⟨rfl, lo, hi, rfl, a2, a4, a5⟩
   subst hK
   exact wpS_pure (h hi a2 a4 a5)
end walk
end Mine
end
noncomputable section
namespace Mine
open PySem PyProof.Rows
abbrev Srt {O : KeyOrd} (key : Keyed → O.α) (l : List Keyed) : Prop := l.Pairwise fun x y => O.kle (key x) (key y)
structure Same (st st' : SortSt) : Prop where
 arr : arrOf st' = arrOf st
 kind : kindOf st' = kindOf st
 failed : failedOf st' = failedOf st
 pend : pendingOf st' = pendingOf st
theorem Same.refl {st : SortSt} : Same st st := ⟨rfl, rfl, rfl, rfl⟩
theorem Same.trans {a b c : SortSt} (h : Same a b) (k : Same b c) : Same a c :=
 ⟨k.arr.trans h.arr, k.kind.trans h.kind, k.failed.trans h.failed, k.pend.trans h.pend⟩
section pure
variable {O : KeyOrd} {key : Keyed → O.α}
theorem tk_get {arr : Array Keyed} {i : Nat} (hi : i < arr.size) : tk key arr i = key arr[i] := by
 unfold tk; rw [getElem?_pos arr i hi]; rfl
theorem mem_idx {arr : Array Keyed} {x : Keyed} {d : Nat} (h : x ∈ arr.toList.drop d) : ∃ i, d ≤ i ∧ i < arr.size ∧ key x = tk key arr i := by
 obtain ⟨i, hi, e⟩ := List.getElem_of_mem h
 simp only [List.length_drop, Array.length_toList] at hi
 refine ⟨d + i, by exact Nat.le_add_right _ _, by exact Nat.lt_of_not_le fun hg => Or.elim (sub_or (arr.size) (d)) (fun hs0 => lin [i, (arr.size - d), d, (arr.size)] [(1, (.a (.v 0) (.n 1)), (.v 1)), (1, (.v 3), (.a (.v 2) (.v 0))), (1, (.a (.v 1) (.v 2)), (.v 3))] rfl hi hg (Nat.le_of_eq hs0)) (fun hs0 => lin [i, (arr.size - d)] [(1, (.a (.v 0) (.n 1)), (.v 1)), (1, (.v 1), (.n 0))] rfl hi (Nat.le_of_eq hs0)), ?_⟩
 rw [tk_get (by exact Nat.lt_of_not_le fun hg => Or.elim (sub_or (arr.size) (d)) (fun hs0 => lin [i, (arr.size - d), d, (arr.size)] [(1, (.a (.v 0) (.n 1)), (.v 1)), (1, (.v 3), (.a (.v 2) (.v 0))), (1, (.a (.v 1) (.v 2)), (.v 3))] rfl hi hg (Nat.le_of_eq hs0)) (fun hs0 => lin [i, (arr.size - d)] [(1, (.a (.v 0) (.n 1)), (.v 1)), (1, (.v 1), (.n 0))] rfl hi (Nat.le_of_eq hs0))), ← e]
 simp
theorem mem_idxT {arr : Array Keyed} {x : Keyed} {d : Nat} (h : x ∈ arr.toList.take d) : ∃ i, i < d ∧ i < arr.size ∧ key x = tk key arr i := by
 obtain ⟨i, hi, e⟩ := List.getElem_of_mem h
 simp only [List.length_take, Array.length_toList] at hi
 refine ⟨i, by exact Nat.lt_of_not_le fun hg => lin [i, (min d arr.size), d] [(1, (.a (.v 0) (.n 1)), (.v 1)), (1, (.v 1), (.v 2)), (1, (.v 2), (.v 0))] rfl hi (Nat.min_le_left (d) (arr.size)) hg, by exact Nat.lt_of_not_le fun hg => lin [i, (min d arr.size), (arr.size)] [(1, (.a (.v 0) (.n 1)), (.v 1)), (1, (.v 1), (.v 2)), (1, (.v 2), (.v 0))] rfl hi (Nat.min_le_right (d) (arr.size)) hg, ?_⟩
 rw [tk_get (by exact Nat.lt_of_not_le fun hg => lin [i, (min d arr.size), (arr.size)] [(1, (.a (.v 0) (.n 1)), (.v 1)), (1, (.v 1), (.v 2)), (1, (.v 2), (.v 0))] rfl hi (Nat.min_le_right (d) (arr.size)) hg), ← e]
 simp
theorem srt_idx {arr : Array Keyed} (h : Srt key arr.toList) : ∀ i j, i ≤ j → j < arr.size → O.kle (tk key arr i) (tk key arr j) := by
 intro i j hij hj
 by_cases e : i = j
 ·subst e; exact KeyOrd.kle_refl _
 ·rw [tk_get (by exact Nat.lt_of_le_of_lt hij hj), tk_get hj]
  have := List.pairwise_iff_getElem.mp h i j (by simpa using (by exact Nat.lt_of_le_of_lt hij hj : i < arr.size)) (by simpa using hj) (by exact Nat.lt_of_le_of_ne hij e)
  simpa using this
theorem srt_of_idx {arr : Array Keyed} {i j : Nat} (h : SIn key arr i j) (hj : j ≤ arr.size) : Srt key (arr.extract i j).toList := by
 refine List.pairwise_iff_getElem.mpr ?_
 intro p q hp hq hpq
 simp only [Array.toList_extract, List.extract_eq_take_drop, List.length_take, List.length_drop, Array.length_toList] at hp hq
 have := h (i + p) (i + q) (by exact Nat.le_add_right _ _) (by exact Nat.le_of_not_lt fun hg => lin [p, q, i] [(1, (.a (.v 0) (.n 1)), (.v 1)), (1, (.a (.a (.v 2) (.v 1)) (.n 1)), (.a (.v 2) (.v 0)))] rfl hpq hg) (by exact Nat.lt_of_not_le fun hg => Or.elim (min_or (j - i) (arr.size - i)) (fun hs0 => Or.elim (sub_or (j) (i)) (fun hs1 => lin [j, q, (min (j - i) (arr.size - i)), i, (j - i)] [(1, (.a (.v 1) (.n 1)), (.v 2)), (1, (.v 2), (.v 4)), (1, (.v 0), (.a (.v 3) (.v 1))), (1, (.a (.v 4) (.v 3)), (.v 0))] rfl hq (Nat.min_le_left (j - i) (arr.size - i)) hg (Nat.le_of_eq hs1)) (fun hs1 => lin [p, q, (min (j - i) (arr.size - i)), (j - i)] [(1, (.a (.v 0) (.n 1)), (.v 1)), (1, (.a (.v 1) (.n 1)), (.v 2)), (1, (.v 2), (.v 3)), (1, (.v 3), (.n 0))] rfl hpq hq (Nat.min_le_left (j - i) (arr.size - i)) (Nat.le_of_eq hs1))) (fun hs0 => Or.elim (sub_or (j) (i)) (fun hs1 => lin [j, q, (min (j - i) (arr.size - i)), i, (j - i)] [(1, (.a (.v 1) (.n 1)), (.v 2)), (1, (.v 2), (.v 4)), (1, (.v 0), (.a (.v 3) (.v 1))), (1, (.a (.v 4) (.v 3)), (.v 0))] rfl hq (Nat.min_le_left (j - i) (arr.size - i)) hg (Nat.le_of_eq hs1)) (fun hs1 => lin [p, q, (min (j - i) (arr.size - i)), (j - i)] [(1, (.a (.v 0) (.n 1)), (.v 1)), (1, (.a (.v 1) (.n 1)), (.v 2)), (1, (.v 2), (.v 3)), (1, (.v 3), (.n 0))] rfl hpq hq (Nat.min_le_left (j - i) (arr.size - i)) (Nat.le_of_eq hs1))))
 rw [tk_get (by exact Nat.lt_of_not_le fun hg => Or.elim (min_or (j - i) (arr.size - i)) (fun hs0 => Or.elim (sub_or (j) (i)) (fun hs1 => lin [j, (arr.size), p, (min (j - i) (arr.size - i)), i, (j - i)] [(1, (.v 0), (.v 1)), (1, (.a (.v 2) (.n 1)), (.v 3)), (1, (.v 3), (.v 5)), (1, (.v 1), (.a (.v 4) (.v 2))), (1, (.a (.v 5) (.v 4)), (.v 0))] rfl hj hp (Nat.min_le_left (j - i) (arr.size - i)) hg (Nat.le_of_eq hs1)) (fun hs1 => lin [p, q, (min (j - i) (arr.size - i)), (j - i)] [(1, (.a (.v 0) (.n 1)), (.v 1)), (1, (.a (.v 1) (.n 1)), (.v 2)), (1, (.v 2), (.v 3)), (1, (.v 3), (.n 0))] rfl hpq hq (Nat.min_le_left (j - i) (arr.size - i)) (Nat.le_of_eq hs1))) (fun hs0 => Or.elim (sub_or (j) (i)) (fun hs1 => lin [j, (arr.size), p, (min (j - i) (arr.size - i)), i, (j - i)] [(1, (.v 0), (.v 1)), (1, (.a (.v 2) (.n 1)), (.v 3)), (1, (.v 3), (.v 5)), (1, (.v 1), (.a (.v 4) (.v 2))), (1, (.a (.v 5) (.v 4)), (.v 0))] rfl hj hp (Nat.min_le_left (j - i) (arr.size - i)) hg (Nat.le_of_eq hs1)) (fun hs1 => lin [p, q, (min (j - i) (arr.size - i)), (j - i)] [(1, (.a (.v 0) (.n 1)), (.v 1)), (1, (.a (.v 1) (.n 1)), (.v 2)), (1, (.v 2), (.v 3)), (1, (.v 3), (.n 0))] rfl hpq hq (Nat.min_le_left (j - i) (arr.size - i)) (Nat.le_of_eq hs1)))), tk_get (by exact Nat.lt_of_not_le fun hg => Or.elim (min_or (j - i) (arr.size - i)) (fun hs0 => Or.elim (sub_or (j) (i)) (fun hs1 => lin [j, (arr.size), q, (min (j - i) (arr.size - i)), i, (j - i)] [(1, (.v 0), (.v 1)), (1, (.a (.v 2) (.n 1)), (.v 3)), (1, (.v 3), (.v 5)), (1, (.v 1), (.a (.v 4) (.v 2))), (1, (.a (.v 5) (.v 4)), (.v 0))] rfl hj hq (Nat.min_le_left (j - i) (arr.size - i)) hg (Nat.le_of_eq hs1)) (fun hs1 => lin [p, q, (min (j - i) (arr.size - i)), (j - i)] [(1, (.a (.v 0) (.n 1)), (.v 1)), (1, (.a (.v 1) (.n 1)), (.v 2)), (1, (.v 2), (.v 3)), (1, (.v 3), (.n 0))] rfl hpq hq (Nat.min_le_left (j - i) (arr.size - i)) (Nat.le_of_eq hs1))) (fun hs0 => Or.elim (sub_or (j) (i)) (fun hs1 => lin [j, (arr.size), q, (min (j - i) (arr.size - i)), i, (j - i)] [(1, (.v 0), (.v 1)), (1, (.a (.v 2) (.n 1)), (.v 3)), (1, (.v 3), (.v 5)), (1, (.v 1), (.a (.v 4) (.v 2))), (1, (.a (.v 5) (.v 4)), (.v 0))] rfl hj hq (Nat.min_le_left (j - i) (arr.size - i)) hg (Nat.le_of_eq hs1)) (fun hs1 => lin [p, q, (min (j - i) (arr.size - i)), (j - i)] [(1, (.a (.v 0) (.n 1)), (.v 1)), (1, (.a (.v 1) (.n 1)), (.v 2)), (1, (.v 2), (.v 3)), (1, (.v 3), (.n 0))] rfl hpq hq (Nat.min_le_left (j - i) (arr.size - i)) (Nat.le_of_eq hs1))))] at this
 simpa [Array.toList_extract, List.extract_eq_take_drop] using this
theorem srt_app {l r : List Keyed} (hl : Srt key l) (hr : Srt key r) (h : ∀ x ∈ l, ∀ y ∈ r, O.kle (key x) (key y)) : Srt key (l ++ r) :=
 List.pairwise_append.mpr ⟨hl, hr, h⟩
theorem bey_mono {left : Bool} {k : Keyed} {arr : Array Keyed} {base n : Nat} (hs : SIn key arr base (base + n)) :
  ∀ i j, i ≤ j → j < n → bey key left k arr (base + j) = true → bey key left k arr (base + i) = true := by
 intro i j hij hj h
 have hle := hs (base + i) (base + j) (by exact Nat.le_add_right _ _) (by exact Nat.add_le_add_left hij _) (by exact Nat.add_le_add_left hj _)
 cases left with
 | true => exact KeyOrd.klt_of_kle_of_klt hle h
 | false =>
  have h' : O.kle (tk key arr (base + j)) (key k) := by unfold KeyOrd.kle; simpa [bey] using h
  have : O.kle (tk key arr (base + i)) (key k) := KeyOrd.kle_trans hle h'
  have : O.blt (key k) (tk key arr (base + i)) = false := this
  simp [bey, this]
theorem bey_right {k : Keyed} {arr : Array Keyed} {i : Nat} : (bey key false k arr i = true → O.kle (tk key arr i) (key k)) ∧ (bey key false k arr i = false → O.klt (key k) (tk key arr i)) := by
 refine ⟨fun h => ?_, fun h => ?_⟩
 ·unfold KeyOrd.kle; simpa [bey] using h
 ·unfold KeyOrd.klt; simpa [bey] using h
theorem bey_left {k : Keyed} {arr : Array Keyed} {i : Nat} : (bey key true k arr i = true → O.klt (tk key arr i) (key k)) ∧ (bey key true k arr i = false → O.kle (key k) (tk key arr i)) :=
 ⟨fun h => h, fun h => h⟩
structure Good (key : Keyed → O.α) (a b m : Array Keyed) : Prop where
 perm : m.toList.Perm (a.toList ++ b.toList)
 srt : Srt key m.toList
structure Mid (key : Keyed → O.α) (a b out : Array Keyed) (ia ib : Nat) : Prop where
 perm : (out.toList ++ (a.toList.drop ia ++ b.toList.drop ib)).Perm (a.toList ++ b.toList)
 srt : Srt key out.toList
 low : ∀ x ∈ out.toList, (∀ i, ia ≤ i → i < a.size → O.kle (key x) (tk key a i)) ∧ (∀ j, ib ≤ j → j < b.size → O.kle (key x) (tk key b j))
variable {a b out : Array Keyed} {ia ib : Nat}
theorem drop_get {arr : Array Keyed} {i : Nat} (hi : i < arr.size) : arr.toList.drop i = arr[i] :: arr.toList.drop (i + 1) := by
 rw [List.drop_eq_getElem_cons (by simpa using hi)]
 simp
theorem drop_ext {arr : Array Keyed} {i k : Nat} : arr.toList.drop i = (arr.extract i (i + k)).toList ++ arr.toList.drop (i + k) := by
 rw [Array.toList_extract, List.extract_eq_take_drop, show i + k - i = k by exact Nat.le_antisymm (Nat.le_of_not_lt fun hg => lin [(i + k - i), k, i] [(1, (.a (.v 0) (.v 2)), (.a (.v 2) (.v 1))), (1, (.a (.v 1) (.n 1)), (.v 0))] rfl (sub_hi (Nat.le_of_not_lt fun hg => lin [k, i] [(1, (.a (.a (.v 1) (.v 0)) (.n 1)), (.v 1))] rfl hg)) hg) (Nat.le_of_not_lt fun hg => lin [(i + k - i), k, i] [(1, (.a (.v 2) (.v 1)), (.a (.v 0) (.v 2))), (1, (.a (.v 0) (.n 1)), (.v 1))] rfl (sub_lo (i + k) (i)) hg), ← List.drop_drop, List.take_append_drop]
theorem Mid.pushB (h : Mid key a b out ia ib) (sb : Srt key b.toList) (hi : ib < b.size) (hle : ∀ i, ia ≤ i → i < a.size → O.kle (tk key b ib) (tk key a i)) :
  Mid key a b (out.push b[ib]) ia (ib + 1) := by
 refine ⟨?_, ?_, fun x hx => ?_⟩
 ·refine List.Perm.trans ?_ h.perm
  rw [Array.toList_push, drop_get hi, List.append_assoc]
  refine List.Perm.append_left _ ?_
  rw [List.singleton_append]
  exact List.perm_middle.symm
 ·rw [Array.toList_push]
  refine srt_app h.srt (List.pairwise_singleton ..) fun x hx y hy => ?_
  rw [List.mem_singleton.mp hy, ← tk_get (key := key) hi]
  exact (h.low x hx).2 ib (Nat.le_refl _) hi
 ·rw [Array.toList_push] at hx
  rcases List.mem_append.mp hx with hx | hx
  ·exact ⟨(h.low x hx).1, fun j h1 h2 => (h.low x hx).2 j (by exact Nat.le_of_lt h1) h2⟩
  ·rw [List.mem_singleton.mp hx, ← tk_get (key := key) hi]
   exact ⟨hle, fun j h1 h2 => srt_idx sb _ _ (by exact Nat.le_of_lt h1) h2⟩
theorem Mid.pushA (h : Mid key a b out ia ib) (sa : Srt key a.toList) (hi : ia < a.size) (hle : ∀ j, ib ≤ j → j < b.size → O.kle (tk key a ia) (tk key b j)) :
  Mid key a b (out.push a[ia]) (ia + 1) ib := by
 refine ⟨?_, ?_, fun x hx => ?_⟩
 ·refine List.Perm.trans ?_ h.perm
  rw [Array.toList_push, drop_get hi, List.append_assoc]
  exact List.Perm.append_left _ (List.Perm.refl _)
 ·rw [Array.toList_push]
  refine srt_app h.srt (List.pairwise_singleton ..) fun x hx y hy => ?_
  rw [List.mem_singleton.mp hy, ← tk_get (key := key) hi]
  exact (h.low x hx).1 ia (Nat.le_refl _) hi
 ·rw [Array.toList_push] at hx
  rcases List.mem_append.mp hx with hx | hx
  ·exact ⟨fun i h1 h2 => (h.low x hx).1 i (by exact Nat.le_of_lt h1) h2, (h.low x hx).2⟩
  ·rw [List.mem_singleton.mp hx, ← tk_get (key := key) hi]
   exact ⟨fun j h1 h2 => srt_idx sa _ _ (by exact Nat.le_of_lt h1) h2, hle⟩
theorem mem_ext {arr : Array Keyed} {x : Keyed} {i j : Nat} (h : x ∈ (arr.extract i j).toList) : ∃ p, i ≤ p ∧ p < j ∧ p < arr.size ∧ key x = tk key arr p := by
 obtain ⟨p, hp, e⟩ := List.getElem_of_mem h
 simp only [Array.toList_extract, List.extract_eq_take_drop, List.length_take, List.length_drop, Array.length_toList] at hp
 refine ⟨i + p, by exact Nat.le_add_right _ _, by exact Nat.lt_of_not_le fun hg => Or.elim (min_or (j - i) (arr.size - i)) (fun hs0 => Or.elim (sub_or (j) (i)) (fun hs1 => lin [p, (min (j - i) (arr.size - i)), i, j, (j - i)] [(1, (.a (.v 0) (.n 1)), (.v 1)), (1, (.v 1), (.v 4)), (1, (.v 3), (.a (.v 2) (.v 0))), (1, (.a (.v 4) (.v 2)), (.v 3))] rfl hp (Nat.min_le_left (j - i) (arr.size - i)) hg (Nat.le_of_eq hs1)) (fun hs1 => lin [p, (min (j - i) (arr.size - i)), (j - i)] [(1, (.a (.v 0) (.n 1)), (.v 1)), (1, (.v 1), (.v 2)), (1, (.v 2), (.n 0))] rfl hp (Nat.min_le_left (j - i) (arr.size - i)) (Nat.le_of_eq hs1))) (fun hs0 => Or.elim (sub_or (j) (i)) (fun hs1 => lin [p, (min (j - i) (arr.size - i)), i, j, (j - i)] [(1, (.a (.v 0) (.n 1)), (.v 1)), (1, (.v 1), (.v 4)), (1, (.v 3), (.a (.v 2) (.v 0))), (1, (.a (.v 4) (.v 2)), (.v 3))] rfl hp (Nat.min_le_left (j - i) (arr.size - i)) hg (Nat.le_of_eq hs1)) (fun hs1 => lin [p, (min (j - i) (arr.size - i)), (j - i)] [(1, (.a (.v 0) (.n 1)), (.v 1)), (1, (.v 1), (.v 2)), (1, (.v 2), (.n 0))] rfl hp (Nat.min_le_left (j - i) (arr.size - i)) (Nat.le_of_eq hs1))), by exact Nat.lt_of_not_le fun hg => Or.elim (min_or (j - i) (arr.size - i)) (fun hs0 => Or.elim (sub_or (arr.size) (i)) (fun hs1 => lin [p, (min (j - i) (arr.size - i)), i, (arr.size), (arr.size - i)] [(1, (.a (.v 0) (.n 1)), (.v 1)), (1, (.v 1), (.v 4)), (1, (.v 3), (.a (.v 2) (.v 0))), (1, (.a (.v 4) (.v 2)), (.v 3))] rfl hp (Nat.min_le_right (j - i) (arr.size - i)) hg (Nat.le_of_eq hs1)) (fun hs1 => lin [p, (min (j - i) (arr.size - i)), (arr.size - i)] [(1, (.a (.v 0) (.n 1)), (.v 1)), (1, (.v 1), (.v 2)), (1, (.v 2), (.n 0))] rfl hp (Nat.min_le_right (j - i) (arr.size - i)) (Nat.le_of_eq hs1))) (fun hs0 => Or.elim (sub_or (arr.size) (i)) (fun hs1 => lin [p, (min (j - i) (arr.size - i)), i, (arr.size), (arr.size - i)] [(1, (.a (.v 0) (.n 1)), (.v 1)), (1, (.v 1), (.v 4)), (1, (.v 3), (.a (.v 2) (.v 0))), (1, (.a (.v 4) (.v 2)), (.v 3))] rfl hp (Nat.min_le_right (j - i) (arr.size - i)) hg (Nat.le_of_eq hs1)) (fun hs1 => lin [p, (min (j - i) (arr.size - i)), (arr.size - i)] [(1, (.a (.v 0) (.n 1)), (.v 1)), (1, (.v 1), (.v 2)), (1, (.v 2), (.n 0))] rfl hp (Nat.min_le_right (j - i) (arr.size - i)) (Nat.le_of_eq hs1))), ?_⟩
 rw [tk_get (by exact Nat.lt_of_not_le fun hg => Or.elim (min_or (j - i) (arr.size - i)) (fun hs0 => Or.elim (sub_or (arr.size) (i)) (fun hs1 => lin [p, (min (j - i) (arr.size - i)), i, (arr.size), (arr.size - i)] [(1, (.a (.v 0) (.n 1)), (.v 1)), (1, (.v 1), (.v 4)), (1, (.v 3), (.a (.v 2) (.v 0))), (1, (.a (.v 4) (.v 2)), (.v 3))] rfl hp (Nat.min_le_right (j - i) (arr.size - i)) hg (Nat.le_of_eq hs1)) (fun hs1 => lin [p, (min (j - i) (arr.size - i)), (arr.size - i)] [(1, (.a (.v 0) (.n 1)), (.v 1)), (1, (.v 1), (.v 2)), (1, (.v 2), (.n 0))] rfl hp (Nat.min_le_right (j - i) (arr.size - i)) (Nat.le_of_eq hs1))) (fun hs0 => Or.elim (sub_or (arr.size) (i)) (fun hs1 => lin [p, (min (j - i) (arr.size - i)), i, (arr.size), (arr.size - i)] [(1, (.a (.v 0) (.n 1)), (.v 1)), (1, (.v 1), (.v 4)), (1, (.v 3), (.a (.v 2) (.v 0))), (1, (.a (.v 4) (.v 2)), (.v 3))] rfl hp (Nat.min_le_right (j - i) (arr.size - i)) hg (Nat.le_of_eq hs1)) (fun hs1 => lin [p, (min (j - i) (arr.size - i)), (arr.size - i)] [(1, (.a (.v 0) (.n 1)), (.v 1)), (1, (.v 1), (.v 2)), (1, (.v 2), (.n 0))] rfl hp (Nat.min_le_right (j - i) (arr.size - i)) (Nat.le_of_eq hs1)))), ← e]
 simp [Array.toList_extract]
theorem Mid.appA (h : Mid key a b out ia ib) (sa : Srt key a.toList) {k : Nat} (hi : ia + k ≤ a.size) (hle : ∀ i, i < k → ∀ j, ib ≤ j → j < b.size → O.kle (tk key a (ia + i)) (tk key b j)) :
  Mid key a b (out ++ a.extract ia (ia + k)) (ia + k) ib := by
 refine ⟨?_, ?_, fun x hx => ?_⟩
 ·refine List.Perm.trans ?_ h.perm
  rw [Array.toList_append, drop_ext (arr := a) (i := ia) (k := k), List.append_assoc, List.append_assoc]
 ·rw [Array.toList_append]
  refine srt_app h.srt (srt_of_idx (fun p q _ h2 h3 => srt_idx sa p q h2 (by exact Nat.le_trans h3 hi)) hi) fun x hx y hy => ?_
  obtain ⟨p, h1, h2, h3, e⟩ := mem_ext (key := key) hy
  rw [e]
  exact (h.low x hx).1 p h1 h3
 ·rw [Array.toList_append] at hx
  rcases List.mem_append.mp hx with hx | hx
  ·exact ⟨fun i h1 h2 => (h.low x hx).1 i (by exact Nat.le_trans (Nat.le_add_right _ _) h1) h2, (h.low x hx).2⟩
  ·obtain ⟨p, h1, h2, h3, e⟩ := mem_ext (key := key) hx
   rw [e]
   refine ⟨fun j h4 h5 => srt_idx sa _ _ (by exact Nat.le_of_lt (Nat.lt_of_lt_of_le h2 h4)) h5, fun j h4 h5 => ?_⟩
   have := hle (p - ia) (by exact Nat.lt_of_not_le fun hg => lin [ia, k, p, (p - ia)] [(1, (.a (.v 2) (.n 1)), (.a (.v 0) (.v 1))), (1, (.a (.v 3) (.v 0)), (.v 2)), (1, (.v 1), (.v 3))] rfl h2 (sub_hi (Nat.le_of_not_lt fun hg => lin [ia, p] [(1, (.v 0), (.v 1)), (1, (.a (.v 1) (.n 1)), (.v 0))] rfl h1 hg)) hg) j h4 h5
   rwa [show ia + (p - ia) = p by exact Nat.add_sub_cancel' h1] at this
theorem Mid.appB (h : Mid key a b out ia ib) (sb : Srt key b.toList) {k : Nat} (hi : ib + k ≤ b.size) (hle : ∀ i, i < k → ∀ j, ia ≤ j → j < a.size → O.kle (tk key b (ib + i)) (tk key a j)) :
  Mid key a b (out ++ b.extract ib (ib + k)) ia (ib + k) := by
 refine ⟨?_, ?_, fun x hx => ?_⟩
 ·refine List.Perm.trans ?_ h.perm
  rw [Array.toList_append, drop_ext (arr := b) (i := ib) (k := k), List.append_assoc]
  refine List.Perm.append_left _ ?_
  rw [← List.append_assoc, ← List.append_assoc]
  exact List.Perm.append_right _ List.perm_append_comm
 ·rw [Array.toList_append]
  refine srt_app h.srt (srt_of_idx (fun p q _ h2 h3 => srt_idx sb p q h2 (by exact Nat.le_trans h3 hi)) hi) fun x hx y hy => ?_
  obtain ⟨p, h1, h2, h3, e⟩ := mem_ext (key := key) hy
  rw [e]
  exact (h.low x hx).2 p h1 h3
 ·rw [Array.toList_append] at hx
  rcases List.mem_append.mp hx with hx | hx
  ·exact ⟨(h.low x hx).1, fun i h1 h2 => (h.low x hx).2 i (by exact Nat.le_trans (Nat.le_add_right _ _) h1) h2⟩
  ·obtain ⟨p, h1, h2, h3, e⟩ := mem_ext (key := key) hx
   rw [e]
   refine ⟨fun j h4 h5 => ?_, fun j h4 h5 => srt_idx sb _ _ (by exact Nat.le_of_lt (Nat.lt_of_lt_of_le h2 h4)) h5⟩
   have := hle (p - ib) (by exact Nat.lt_of_not_le fun hg => lin [ib, k, p, (p - ib)] [(1, (.a (.v 2) (.n 1)), (.a (.v 0) (.v 1))), (1, (.a (.v 3) (.v 0)), (.v 2)), (1, (.v 1), (.v 3))] rfl h2 (sub_hi (Nat.le_of_not_lt fun hg => lin [ib, p] [(1, (.v 0), (.v 1)), (1, (.a (.v 1) (.n 1)), (.v 0))] rfl h1 hg)) hg) j h4 h5
   rwa [show ib + (p - ib) = p by exact Nat.add_sub_cancel' h1] at this
theorem ext_drop {arr : Array Keyed} {i : Nat} : (arr.extract i arr.size).toList = arr.toList.drop i := by
 rw [Array.toList_extract, List.extract_eq_take_drop]
 exact List.take_of_length_le (by simp)
theorem Mid.done (h : Mid key a b out ia ib) (sa : Srt key a.toList) (sb : Srt key b.toList) (he : ib = b.size ∨ ia = a.size) :
  Good key a b (out ++ a.extract ia a.size ++ b.extract ib b.size) := by
 have p : (out.toList ++ a.toList.drop ia ++ b.toList.drop ib).Perm (a.toList ++ b.toList) := by rw [List.append_assoc]; exact h.perm
 refine ⟨by rw [Array.toList_append, Array.toList_append, ext_drop, ext_drop]; exact p, ?_⟩
 rw [Array.toList_append, Array.toList_append, ext_drop, ext_drop]
 refine srt_app (srt_app h.srt (sa.sublist (List.drop_sublist _ _)) fun x hx y hy => ?_) (sb.sublist (List.drop_sublist _ _)) fun x hx y hy => ?_
 ·obtain ⟨i, h1, h2, e⟩ := mem_idx (key := key) hy
  rw [e]
  exact (h.low x hx).1 i h1 h2
 ·obtain ⟨i, h1, h2, e⟩ := mem_idx (key := key) hy
  rw [e]
  rcases List.mem_append.mp hx with hx | hx
  ·exact (h.low x hx).2 i h1 h2
  ·obtain ⟨j, h3, h4, e2⟩ := mem_idx (key := key) hx
   exact False.elim (Or.elim he (fun hs0 => lin [ib, (b.size), i] [(1, (.v 0), (.v 2)), (1, (.a (.v 2) (.n 1)), (.v 1)), (1, (.v 1), (.v 0))] rfl h1 h2 (Nat.le_of_eq (Eq.symm hs0))) (fun hs0 => lin [ia, (a.size), j] [(1, (.v 0), (.v 2)), (1, (.a (.v 2) (.n 1)), (.v 1)), (1, (.v 1), (.v 0))] rfl h3 h4 (Nat.le_of_eq (Eq.symm hs0))))
theorem Mid.last (h : Mid key a b out ia ib) (sa : Srt key a.toList) (sb : Srt key b.toList) (he : ia + 1 = a.size) (hl : ∀ j, j < b.size → O.kle (tk key b j) (tk key a (a.size - 1))) :
  Good key a b (out ++ b.extract ib b.size ++ a.extract ia a.size) := by
 have p : (out.toList ++ b.toList.drop ib ++ a.toList.drop ia).Perm (a.toList ++ b.toList) := by
  rw [List.append_assoc]
  exact (List.Perm.append_left _ List.perm_append_comm).trans h.perm
 refine ⟨by rw [Array.toList_append, Array.toList_append, ext_drop, ext_drop]; exact p, ?_⟩
 rw [Array.toList_append, Array.toList_append, ext_drop, ext_drop]
 refine srt_app (srt_app h.srt (sb.sublist (List.drop_sublist _ _)) fun x hx y hy => ?_) (sa.sublist (List.drop_sublist _ _)) fun x hx y hy => ?_
 ·obtain ⟨i, h1, h2, e⟩ := mem_idx (key := key) hy
  rw [e]
  exact (h.low x hx).2 i h1 h2
 ·obtain ⟨i, h1, h2, e⟩ := mem_idx (key := key) hy
  rw [e]
  rcases List.mem_append.mp hx with hx | hx
  ·exact (h.low x hx).1 i h1 h2
  ·obtain ⟨j, h3, h4, e2⟩ := mem_idx (key := key) hx
   rw [e2, show i = a.size - 1 by exact Nat.le_antisymm (Nat.le_of_not_lt fun hg => lin [(a.size), i, (a.size - 1)] [(1, (.a (.v 1) (.n 1)), (.v 0)), (1, (.v 0), (.a (.v 2) (.n 1))), (1, (.a (.v 2) (.n 1)), (.v 1))] rfl h2 (sub_lo (a.size) (1)) hg) (Nat.le_of_not_lt fun hg => lin [ia, (a.size), i, (a.size - 1)] [(1, (.v 1), (.a (.v 0) (.n 1))), (1, (.v 0), (.v 2)), (1, (.a (.v 3) (.n 1)), (.v 1)), (1, (.a (.v 2) (.n 1)), (.v 3))] rfl (Nat.le_of_eq (Eq.symm he)) h1 (sub_hi (Nat.le_of_not_lt fun hg => lin [ia, (a.size)] [(1, (.a (.v 0) (.n 1)), (.v 1)), (1, (.a (.v 1) (.n 1)), (.n 1))] rfl (Nat.le_of_eq he) hg)) hg)]
   exact hl j h4
end pure
end Mine
end
noncomputable section
namespace Mine
open PySem PyProof.Rows
section walk
variable {prog : Program} {w : World} {A : Around} {E : Value → Shared → Prop} {s : Shared} {kd : SortKind} {O : KeyOrd} {key : Keyed → O.α} {a₀ : Array Keyed}
inductive LoD (key : Keyed → O.α) (a b : Array Keyed) {γ : Type} : Option (Array Keyed) × γ → Prop
 | mk (m : Array Keyed) (r : γ) (h : Good key a b m) : LoD key a b (some m, r)
inductive LoI (key : Keyed → O.α) (a b : Array Keyed) (x n : Nat) {γ : Type} : Option (Array Keyed) × Array Keyed × Nat × Nat × γ → Prop
 | mk (out : Array Keyed) (i j : Nat) (r : γ) (hM : Mid key a b out i j) (hi : i + 1 < a.size) (hj : j < b.size) (hr : (a.size - i) + (b.size - j) + x ≤ n) : LoI key a b x n (none, out, i, j, r)
theorem ts_elem {st : SortSt} {arr : Array Keyed} {i : Nat} {Q : Keyed → SortSt → Prop} (hi : i < arr.size) (h : Q arr[i] st) : wpS (model prog w) A E s (elem' arr i) Q st := by
 rw [elem'_eq, getElem?_pos arr i hi]
 exact wpS_pure h
theorem ts_if {α : Type} {st : SortSt} {c : Prop} [Decidable c] {t e : StateT SortSt Sem α} {Q : α → SortSt → Prop} (h1 : c → wpS (model prog w) A E s t Q st) (h2 : ¬c → wpS (model prog w) A E s e Q st) :
  wpS (model prog w) A E s (if c then t else e) Q st := by
 by_cases h : c
 ·rw [if_pos h]; exact h1 h
 ·rw [if_neg h]; exact h2 h
theorem ts_ifG {α β : Type} {st : SortSt} {c : Prop} [Decidable c] {t e : StateT SortSt Sem α} {Q : α → SortSt → Prop} {F : β → StateT SortSt Sem α} (x y : β) (he : e = F x) (ht : t = F y) (key : ∀ z, wpS (model prog w) A E s (F z) Q st) :
  wpS (model prog w) A E s (if c then t else e) Q st := ts_if (fun _ => ht ▸ key y) (fun _ => he ▸ key x)
theorem ts_ifF {α β γ : Type} {st : SortSt} {c : Prop} [Decidable c] {t e : StateT SortSt Sem α} {Q : α → SortSt → Prop} {F : β → γ → StateT SortSt Sem α} (H : β → γ → Prop) (x : β) (y : γ) (he : e = F x y)
  (key : ∀ x' y', H x' y' → wpS (model prog w) A E s (F x' y') Q st) (h1 : c → (∀ x' y', H x' y' → wpS (model prog w) A E s (F x' y') Q st) → wpS (model prog w) A E s t Q st) (h2 : ¬c → H x y) :
  wpS (model prog w) A E s (if c then t else e) Q st := ts_if (fun h => h1 h key) (fun h => he ▸ key x y (h2 h))
theorem ts_lt {st : SortSt} {a b : Array Keyed} {i j : Nat} {Q : Option Bool → SortSt → Prop} (hL : LtOk prog w A E s kd O key a₀) (ha : ∀ x ∈ a.toList, x ∈ a₀.toList) (hb : ∀ x ∈ b.toList, x ∈ a₀.toList)
  (hi : i < a.size) (hj : j < b.size) (hkd : kindOf st = kd) (h : Q (some (O.blt (tk key a i) (tk key b j))) st) : wpS (model prog w) A E s (lt' a[i] b[j]) Q st := by
 rw [tk_get hi, tk_get hj] at h
 exact hL _ _ (ha _ (by simp)) (hb _ (by simp)) _ _ hkd h
theorem ts_lo {st : SortSt} {a b : Array Keyed} {Q : Array Keyed → SortSt → Prop} (hL : LtOk prog w A E s kd O key a₀) (ha : ∀ x ∈ a.toList, x ∈ a₀.toList) (hb : ∀ x ∈ b.toList, x ∈ a₀.toList)
  (sa : Srt key a.toList) (sb : Srt key b.toList) (na : 0 < a.size) (nb : 0 < b.size) (h1 : ∀ i, i < a.size → O.kle (tk key b 0) (tk key a i))
  (h2 : ∀ j, j < b.size → O.kle (tk key b j) (tk key a (a.size - 1))) (hkd : kindOf st = kd)
  (h : ∀ m st', Good key a b m → Same st st' → Q m st') : wpS (model prog w) A E s (mergeLoM a b) Q st := by
 have ia : ∀ i j, i ≤ j → j < a.size → O.kle (tk key a i) (tk key a j) := srt_idx sa
 have ib : ∀ i j, i ≤ j → j < b.size → O.kle (tk key b i) (tk key b j) := srt_idx sb
 have m0 : Mid key a b #[b[0]] 0 1 := by
  have : Mid key a b #[] 0 0 := ⟨by simp, by simp, by simp⟩
  exact this.pushB sb nb fun i _ => h1 i
 have hSin : ∀ d n, d + n ≤ a.size → SIn key a d (d + n) := fun d n hd p q _ h4 h5 => ia _ _ h4 (by exact Nat.le_trans h5 hd)
 have hSib : ∀ d n, d + n ≤ b.size → SIn key b d (d + n) := fun d n hd p q _ h4 h5 => ib _ _ h4 (by exact Nat.le_trans h5 hd)
 unfold mergeLoM
 refine wpS_bind (wpS_lift (wpAny_rule ⟨rfl, ?_⟩))
 refine wpS_bind (ts_elem nb ?_)
 refine ts_if (fun e1 => ?_) (fun e1 => ?_)
 ·simp only [beq_iff_eq] at e1
  exact wpS_pure (h _ _ (m0.done sa sb (.inl e1)) Same.refl)
 refine ts_if (fun e2 => ?_) (fun e2 => ?_)
 ·simp only [beq_iff_eq] at e2
  exact wpS_pure (h _ _ (m0.last sa sb e2 h2) Same.refl)
 refine wpS_bind (wpS_get ?_)
 refine ts_for (fun x c st' => Same st st' ∧ LoI key a b x (a.size + b.size) c) (fun c st' => Same st st' ∧ LoD key a b c) ?step ?fin ?init ?post
 case init =>
  simp only [beq_iff_eq] at e1 e2
  exact ⟨Same.refl, _, 0, 1, _, m0, by exact Nat.lt_of_not_le fun hg => Or.elim (Nat.lt_or_gt_of_ne e1) (fun hs0 => Or.elim (Nat.lt_or_gt_of_ne e2) (fun hs1 => lin [(a.size)] [(1, (.v 0), (.a (.n 0) (.n 1))), (1, (.a (.a (.n 0) (.n 1)) (.n 1)), (.v 0))] rfl hg hs1) (fun hs1 => lin [(a.size)] [(1, (.a (.n 0) (.n 1)), (.v 0)), (1, (.a (.v 0) (.n 1)), (.a (.n 0) (.n 1)))] rfl na hs1)) (fun hs0 => lin [(b.size)] [(1, (.a (.n 0) (.n 1)), (.v 0)), (1, (.a (.v 0) (.n 1)), (.n 1))] rfl nb hs0), by exact Nat.lt_of_not_le fun hg => Or.elim (Nat.lt_or_gt_of_ne e1) (fun hs0 => lin [(b.size)] [(1, (.v 0), (.n 1)), (1, (.a (.n 1) (.n 1)), (.v 0))] rfl hg hs0) (fun hs0 => lin [(b.size)] [(1, (.a (.n 0) (.n 1)), (.v 0)), (1, (.a (.v 0) (.n 1)), (.n 1))] rfl nb hs0), by exact Nat.le_of_not_lt fun hg => lin [(a.size), (b.size), (b.size - 1)] [(1, (.a (.v 2) (.n 1)), (.v 1)), (1, (.a (.a (.v 0) (.v 1)) (.n 1)), (.a (.a (.v 0) (.v 2)) (.n 0)))] rfl (sub_hi (Nat.le_of_not_lt fun hg => lin [(b.size)] [(1, (.a (.n 0) (.n 1)), (.v 0)), (1, (.a (.v 0) (.n 1)), (.n 1))] rfl nb hg)) hg⟩
 case fin =>
  rintro c st' ⟨hS, out, i, j, mg, hM, hi, hj, hx⟩
  exact And.intro (False.elim (lin [(a.size), (b.size), i, j, (a.size - i), (b.size - j), (max 0 (a.size + b.size))] [(1, (.a (.a (.v 2) (.n 1)) (.n 1)), (.v 0)), (1, (.a (.v 3) (.n 1)), (.v 1)), (1, (.a (.a (.v 4) (.v 5)) (.v 6)), (.a (.v 0) (.v 1))), (1, (.a (.v 0) (.v 1)), (.v 6)), (1, (.v 0), (.a (.v 4) (.v 2))), (1, (.v 1), (.a (.v 5) (.v 3)))] rfl hi hj hx (Nat.le_max_right (0) (a.size + b.size)) (sub_lo (a.size) (i)) (sub_lo (b.size) (j)))) (False.elim (lin [(a.size), (b.size), i, j, (a.size - i), (b.size - j), (max 0 (a.size + b.size))] [(1, (.a (.a (.v 2) (.n 1)) (.n 1)), (.v 0)), (1, (.a (.v 3) (.n 1)), (.v 1)), (1, (.a (.a (.v 4) (.v 5)) (.v 6)), (.a (.v 0) (.v 1))), (1, (.a (.v 0) (.v 1)), (.v 6)), (1, (.v 0), (.a (.v 4) (.v 2))), (1, (.v 1), (.a (.v 5) (.v 3)))] rfl hi hj hx (Nat.le_max_right (0) (a.size + b.size)) (sub_lo (a.size) (i)) (sub_lo (b.size) (j))))
 case post =>
  rintro K hK c st' ⟨hS, m, r, hG⟩
  subst hK
  exact wpS_pure (h m st' hG hS)
 case step =>
  rintro F hF x c st' ⟨hS, out, i, j, mg, hM, hi, hj, hr⟩
  clear e1 e2 m0
  subst hF
  dsimp only
  refine ts_for (fun y c st'' => st'' = st' ∧ LoI key a b y ((a.size - i) + (b.size - j)) c) (fun c st'' => st'' = st' ∧ (LoD key a b c ∨ LoI key a b 1 ((a.size - i) + (b.size - j)) c)) ?astep ?afin ⟨rfl, _, i, j, _, hM, hi, hj, by exact Nat.le_refl _⟩ ?apost
  case afin =>
   rintro c st'' ⟨rfl, out', i', j', ⟨p, q⟩, hM', hi', hj', hr'⟩
   exact ⟨rfl, .inr ⟨out', i', j', _, hM', hi', hj', by exact Nat.le_of_not_lt fun hg => lin [(a.size), (b.size), (a.size - i), (b.size - j), (a.size - i'), (b.size - j'), (max 0 (a.size + b.size))] [(1, (.a (.n 0) (.n 1)), (.v 0)), (1, (.a (.n 0) (.n 1)), (.v 1)), (1, (.a (.a (.v 4) (.v 5)) (.v 6)), (.a (.v 2) (.v 3))), (1, (.a (.v 0) (.v 1)), (.v 6)), (1, (.a (.a (.v 2) (.v 3)) (.n 1)), (.a (.a (.v 4) (.v 5)) (.n 1)))] rfl na nb hr' (Nat.le_max_right (0) (a.size + b.size)) hg⟩⟩
  case astep =>
   rintro F hF y c st'' ⟨rfl, out', i', j', ⟨p, q⟩, hM', hi', hj', hr'⟩
   have hi1 : i' < a.size := by exact Nat.le_of_lt hi'
   cases hlt : O.blt (tk key b j') (tk key a i') with
   | true =>
    have hM2 := hM'.pushB sb hj' fun k h3 h4 => KeyOrd.kle_of_klt (KeyOrd.klt_of_klt_of_kle hlt (ia _ _ h3 h4))
    subst hF
    refine wpS_bind (ts_elem hj' (wpS_bind (ts_elem hi1 (wpS_bind (ts_lt hL hb ha hj' hi1 (hS.kind.trans hkd) ?_)))))
    rw [hlt]
    refine wpS_bind (ts_elem hj' ?_)
    refine ts_if (fun e3 => ?_) (fun e3 => ?_)
    ·simp only [beq_iff_eq] at e3
     exact wpS_pure ⟨rfl, .inl ⟨_, _, hM2.done sa sb (.inl e3)⟩⟩
    simp only [beq_iff_eq] at e3
    have hj2 : j' + 1 < b.size := by exact Nat.lt_of_not_le fun hg => Or.elim (Nat.lt_or_gt_of_ne e3) (fun hs0 => lin [(b.size), j'] [(1, (.v 0), (.a (.v 1) (.n 1))), (1, (.a (.a (.v 1) (.n 1)) (.n 1)), (.v 0))] rfl hg hs0) (fun hs0 => lin [(b.size), j'] [(1, (.a (.v 1) (.n 1)), (.v 0)), (1, (.a (.v 0) (.n 1)), (.a (.v 1) (.n 1)))] rfl hj' hs0)
    have hr2 : (a.size - i') + (b.size - (j' + 1)) + (y + 1) ≤ (a.size - i) + (b.size - j) := by exact Nat.le_of_not_lt fun hg => lin [(b.size), (a.size - i), (b.size - j), j', (a.size - i'), (b.size - j'), y, (b.size - (j' + 1))] [(1, (.a (.a (.v 4) (.v 5)) (.v 6)), (.a (.v 1) (.v 2))), (1, (.v 0), (.a (.v 5) (.v 3))), (1, (.a (.v 7) (.a (.v 3) (.n 1))), (.v 0)), (1, (.a (.a (.v 1) (.v 2)) (.n 1)), (.a (.a (.v 4) (.v 7)) (.a (.v 6) (.n 1))))] rfl hr' (sub_lo (b.size) (j')) (sub_hi (Nat.le_of_not_lt fun hg => lin [(b.size), j'] [(1, (.a (.a (.v 1) (.n 1)) (.n 1)), (.v 0)), (1, (.a (.v 0) (.n 1)), (.a (.v 1) (.n 1)))] rfl hj2 hg)) hg
    have hr3 : (a.size - i') + (b.size - (j' + 1)) + 1 ≤ (a.size - i) + (b.size - j) := by exact Nat.lt_of_le_of_lt (Nat.le_add_right _ _) hr2
    exact ts_if (fun _ => wpS_pure ⟨rfl, .inr ⟨_, _, _, _, hM2, hi', hj2, hr3⟩⟩) fun _ => wpS_pure ⟨rfl, _, _, _, _, hM2, hi', hj2, hr2⟩
   | false =>
    have hM2 := hM'.pushA sa hi1 fun k h3 h4 => KeyOrd.kle_trans (show O.kle _ _ from hlt) (ib _ _ h3 h4)
    subst hF
    refine wpS_bind (ts_elem hj' (wpS_bind (ts_elem hi1 (wpS_bind (ts_lt hL hb ha hj' hi1 (hS.kind.trans hkd) ?_)))))
    rw [hlt]
    refine wpS_bind (ts_elem hi1 ?_)
    refine ts_if (fun e3 => ?_) (fun e3 => ?_)
    ·simp only [beq_iff_eq] at e3
     exact wpS_pure ⟨rfl, .inl ⟨_, _, hM2.last sa sb e3 h2⟩⟩
    simp only [beq_iff_eq] at e3
    have hi2 : i' + 1 + 1 < a.size := by exact Nat.lt_of_not_le fun hg => Or.elim (Nat.lt_or_gt_of_ne e3) (fun hs0 => lin [(a.size), i'] [(1, (.v 0), (.a (.a (.v 1) (.n 1)) (.n 1))), (1, (.a (.a (.a (.v 1) (.n 1)) (.n 1)) (.n 1)), (.v 0))] rfl hg hs0) (fun hs0 => lin [(a.size), i'] [(1, (.a (.a (.v 1) (.n 1)) (.n 1)), (.v 0)), (1, (.a (.v 0) (.n 1)), (.a (.a (.v 1) (.n 1)) (.n 1)))] rfl hi' hs0)
    have hr2 : (a.size - (i' + 1)) + (b.size - j') + (y + 1) ≤ (a.size - i) + (b.size - j) := by exact Nat.le_of_not_lt fun hg => lin [(a.size), (a.size - i), (b.size - j), i', (a.size - i'), (b.size - j'), y, (a.size - (i' + 1))] [(1, (.a (.a (.v 4) (.v 5)) (.v 6)), (.a (.v 1) (.v 2))), (1, (.v 0), (.a (.v 4) (.v 3))), (1, (.a (.v 7) (.a (.v 3) (.n 1))), (.v 0)), (1, (.a (.a (.v 1) (.v 2)) (.n 1)), (.a (.a (.v 7) (.v 5)) (.a (.v 6) (.n 1))))] rfl hr' (sub_lo (a.size) (i')) (sub_hi (Nat.le_of_not_lt fun hg => lin [(a.size), i'] [(1, (.a (.a (.a (.v 1) (.n 1)) (.n 1)) (.n 1)), (.v 0)), (1, (.a (.v 0) (.n 1)), (.a (.v 1) (.n 1)))] rfl hi2 hg)) hg
    have hr3 : (a.size - (i' + 1)) + (b.size - j') + 1 ≤ (a.size - i) + (b.size - j) := by exact Nat.lt_of_le_of_lt (Nat.le_add_right _ _) hr2
    exact ts_if (fun _ => wpS_pure ⟨rfl, .inr ⟨_, _, _, _, hM2, hi2, hj', hr3⟩⟩) fun _ => wpS_pure ⟨rfl, _, _, _, _, hM2, hi2, hj', hr2⟩
  case apost =>
   rintro K hK c st'' ⟨rfl, ⟨m, r, hG⟩ | ⟨out', i', j', ⟨p, q⟩, hM', hi', hj', hr'⟩⟩
   ·subst hK
    exact wpS_pure ⟨hS, m, _, hG⟩
   subst hK
   dsimp only
   refine wpS_bind (wpS_lift (wpAny_rule ⟨rfl, ?_⟩))
   refine ts_for (fun y c st3 => Same st st3 ∧ LoI key a b 1 ((a.size - i) + (b.size - j)) c) (fun c st3 => Same st st3 ∧ (LoD key a b c ∨ LoI key a b 1 ((a.size - i) + (b.size - j)) c)) ?gstep ?gfin ⟨hS, _, i', j', _, hM', hi', hj', hr'⟩ ?gpost
   case gfin =>
    rintro c st3 ⟨hS3, out', i', j', ⟨g, p, q⟩, hM', hi', hj', hr'⟩
    exact ⟨hS3, .inr ⟨out', i', j', _, hM', hi', hj', hr'⟩⟩
   case gpost =>
    rintro K hK c st3 ⟨hS3, ⟨m, r, hG⟩ | ⟨out', i', j', ⟨g, p, q⟩, hM', hi', hj', hr'⟩⟩
    ·subst hK
     exact wpS_pure ⟨hS3, m, _, hG⟩
    subst hK
    dsimp only
    refine wpS_bind (wpS_modify ?_)
    exact wpS_pure ⟨hS3.trans ⟨rfl, rfl, rfl, rfl⟩, _, _, _, _, hM', hi', hj', by exact Nat.le_of_not_lt fun hg => lin [(a.size), (b.size), (a.size - i), (b.size - j), x, (a.size - i'), (b.size - j')] [(1, (.a (.a (.v 2) (.v 3)) (.v 4)), (.a (.v 0) (.v 1))), (1, (.a (.a (.v 5) (.v 6)) (.n 1)), (.a (.v 2) (.v 3))), (1, (.a (.a (.v 0) (.v 1)) (.n 1)), (.a (.a (.v 5) (.v 6)) (.a (.v 4) (.n 1))))] rfl hr hr' hg⟩
   case gstep =>
    clear hM' hi' hj' hr' hr hM hi hj hS
    generalize (a.size - i) + (b.size - j) = N
    rintro F hF y c st3 ⟨hS3, out', i', j', ⟨g, p, q⟩, hM', hi', hj', hr'⟩
    have hS4 : ∀ g', Same st (SortSt.mk' (kindOf st3) (arrOf st3) (pendingOf st3) g' (failedOf st3)) := fun g' => hS3.trans ⟨rfl, rfl, rfl, rfl⟩
    subst hF
    dsimp only
    refine' ts_ifG g (g - 1) ?he ?ht ?_
    case he => apply Eq.refl
    case ht => exact rfl
    intro g'
    refine wpS_bind (wpS_modify ?_)
    refine wpS_bind (ts_elem hj' ?_)
    refine ts_bindK fun K hK => ts_gallop (left := false) (n := a.size - i') (hint := 0) hL (hb _ (by simp)) ha (by exact Nat.le_of_not_lt fun hg => lin [(a.size), i', (a.size - i')] [(1, (.a (.v 2) (.v 1)), (.v 0)), (1, (.a (.v 0) (.n 1)), (.a (.v 1) (.v 2)))] rfl (sub_hi (Nat.le_of_not_lt fun hg => lin [(a.size), i'] [(1, (.a (.a (.v 1) (.n 1)) (.n 1)), (.v 0)), (1, (.a (.v 0) (.n 1)), (.v 1))] rfl hi' hg)) hg) (by exact Nat.lt_of_not_le fun hg => lin [(a.size), i', (a.size - i')] [(1, (.a (.a (.v 1) (.n 1)) (.n 1)), (.v 0)), (1, (.v 0), (.a (.v 2) (.v 1))), (1, (.v 2), (.n 0))] rfl hi' (sub_lo (a.size) (i')) hg) (hS3.kind.trans hkd) (bey_mono (hSin _ _ (by exact Nat.le_of_not_lt fun hg => lin [(a.size), i', (a.size - i')] [(1, (.a (.v 2) (.v 1)), (.v 0)), (1, (.a (.v 0) (.n 1)), (.a (.v 1) (.v 2)))] rfl (sub_hi (Nat.le_of_not_lt fun hg => lin [(a.size), i'] [(1, (.a (.a (.v 1) (.n 1)) (.n 1)), (.v 0)), (1, (.a (.v 0) (.n 1)), (.v 1))] rfl hi' hg)) hg))) fun k hk1 hk2 hk3 => ?_
    have hk2' : ∀ u, u < k → ∀ v, j' ≤ v → v < b.size → O.kle (tk key a (i' + u)) (tk key b v) := fun u h3 v h4 h5 =>
     KeyOrd.kle_trans (bey_right.1 (hk2 u h3)) (by rw [← tk_get (key := key) hj']; exact ib _ _ h4 h5)
    have hk3' : ∀ u, i' + k ≤ u → u < a.size → O.kle (tk key b j') (tk key a u) := fun u h3 h4 => by
     have := bey_right.2 (hk3 (u - i') (by exact Nat.le_of_not_lt fun hg => lin [i', k, u, (u - i')] [(1, (.a (.v 0) (.v 1)), (.v 2)), (1, (.v 2), (.a (.v 3) (.v 0))), (1, (.a (.v 3) (.n 1)), (.v 1))] rfl h3 (sub_lo (u) (i')) hg) (by exact Nat.lt_of_not_le fun hg => lin [(a.size), i', (a.size - i'), u, (u - i')] [(1, (.a (.v 3) (.n 1)), (.v 0)), (1, (.v 0), (.a (.v 2) (.v 1))), (1, (.a (.v 4) (.v 1)), (.v 3)), (1, (.v 2), (.v 4))] rfl h4 (sub_lo (a.size) (i')) (sub_hi (Nat.le_of_not_lt fun hg => lin [i', k, u] [(1, (.a (.v 0) (.v 1)), (.v 2)), (1, (.a (.v 2) (.n 1)), (.v 0))] rfl h3 hg)) hg))
     rw [show i' + (u - i') = u by exact Nat.le_antisymm (Nat.le_of_not_lt fun hg => lin [i', u, (u - i')] [(1, (.a (.v 2) (.v 0)), (.v 1)), (1, (.a (.v 1) (.n 1)), (.a (.v 0) (.v 2)))] rfl (sub_hi (Nat.le_of_not_lt fun hg => lin [i', k, u] [(1, (.a (.v 0) (.v 1)), (.v 2)), (1, (.a (.v 2) (.n 1)), (.v 0))] rfl h3 hg)) hg) (Nat.le_of_not_lt fun hg => lin [i', u, (u - i')] [(1, (.v 1), (.a (.v 2) (.v 0))), (1, (.a (.a (.v 0) (.v 2)) (.n 1)), (.v 1))] rfl (sub_lo (u) (i')) hg), ← tk_get (key := key) hj'] at this
     exact KeyOrd.kle_of_klt this
    clear hk2 hk3
    subst hK
    dsimp only
    refine' ts_ifF (fun i2 o2 => Mid key a b o2 i2 j' ∧ i2 + 1 < a.size ∧ (a.size - i2) + (b.size - j') + 1 ≤ N ∧ ∀ u, i2 ≤ u → u < a.size → O.kle (tk key b j') (tk key a u)) i' out' ?he ?_ (fun hk K => ?_) (fun hk => ⟨hM', hi', hr', fun u h3 h4 => hk3' u (by omega) h4⟩)
    case he => apply Eq.refl
    ·clear hM' hi' hr' hk1 hk2' hk3'
     rintro i2 o2 ⟨hMz, hz, hzr, hzb⟩
     refine wpS_bind (ts_elem hj' ?_)
     refine ts_if (fun e5 => ?_) (fun e5 => ?_)
     ·simp only [beq_iff_eq] at e5
      exact wpS_pure ⟨hS4 _, .inl ⟨_, _, (hMz.pushB sb hj' hzb).done sa sb (.inl e5)⟩⟩
     refine wpS_bind (ts_elem (Nat.lt_of_succ_lt hz) ?_)
     refine ts_bindK fun K hK => ts_gallop (left := true) (n := b.size - (j' + 1)) (hint := 0) hL (ha _ (by simp)) hb (by simp only [beq_iff_eq] at e5; exact Nat.le_of_not_lt fun hg => lin [(b.size), j', (b.size - (j' + 1))] [(1, (.a (.v 2) (.a (.v 1) (.n 1))), (.v 0)), (1, (.a (.v 0) (.n 1)), (.a (.a (.v 1) (.n 1)) (.v 2)))] rfl (sub_hi (Nat.le_of_not_lt fun hg => lin [(b.size), j'] [(1, (.a (.v 1) (.n 1)), (.v 0)), (1, (.a (.v 0) (.n 1)), (.a (.v 1) (.n 1)))] rfl hj' hg)) hg) (by simp only [beq_iff_eq] at e5; exact Nat.lt_of_not_le fun hg => Or.elim (Nat.lt_or_gt_of_ne e5) (fun hs0 => lin [(b.size), j', (b.size - (j' + 1))] [(1, (.v 0), (.a (.v 2) (.a (.v 1) (.n 1)))), (1, (.v 2), (.n 0)), (1, (.a (.a (.v 1) (.n 1)) (.n 1)), (.v 0))] rfl (sub_lo (b.size) (j' + 1)) hg hs0) (fun hs0 => lin [(b.size), j'] [(1, (.a (.v 1) (.n 1)), (.v 0)), (1, (.a (.v 0) (.n 1)), (.a (.v 1) (.n 1)))] rfl hj' hs0)) (hS3.kind.trans hkd) (bey_mono (hSib _ _ (by simp only [beq_iff_eq] at e5; exact Nat.le_of_not_lt fun hg => lin [(b.size), j', (b.size - (j' + 1))] [(1, (.a (.v 2) (.a (.v 1) (.n 1))), (.v 0)), (1, (.a (.v 0) (.n 1)), (.a (.a (.v 1) (.n 1)) (.v 2)))] rfl (sub_hi (Nat.le_of_not_lt fun hg => lin [(b.size), j'] [(1, (.a (.v 1) (.n 1)), (.v 0)), (1, (.a (.v 0) (.n 1)), (.a (.v 1) (.n 1)))] rfl hj' hg)) hg))) fun k2 l1 l2 l3 => ?_
     have hz' : i2 < a.size := Nat.lt_of_succ_lt hz
     have hM2 := hMz.pushB sb hj' hzb
     simp only [beq_iff_eq] at e5
     have l2' := fun u (h3 : u < k2) => bey_left.1 (l2 u h3)
     have l3' := fun u (h3 : k2 ≤ u) (h4 : u < b.size - (j' + 1)) => bey_left.2 (l3 u h3 h4)
     rw [← tk_get (key := key) hz'] at l2' l3'
     have hv : ∀ v, j' + 1 + k2 ≤ v → v < b.size → O.kle (tk key a i2) (tk key b v) := fun v h4 h5 => by
      have := l3' (v - (j' + 1)) (by exact Nat.le_of_not_lt fun hg => lin [j', k2, v, (v - (j' + 1))] [(1, (.a (.a (.v 0) (.n 1)) (.v 1)), (.v 2)), (1, (.v 2), (.a (.v 3) (.a (.v 0) (.n 1)))), (1, (.a (.v 3) (.n 1)), (.v 1))] rfl h4 (sub_lo (v) (j' + 1)) hg) (by exact Nat.lt_of_not_le fun hg => lin [(b.size), j', (b.size - (j' + 1)), v, (v - (j' + 1))] [(1, (.a (.v 3) (.n 1)), (.v 0)), (1, (.v 0), (.a (.v 2) (.a (.v 1) (.n 1)))), (1, (.a (.v 4) (.a (.v 1) (.n 1))), (.v 3)), (1, (.v 2), (.v 4))] rfl h5 (sub_lo (b.size) (j' + 1)) (sub_hi (Nat.le_of_not_lt fun hg => lin [j', k2, v] [(1, (.a (.a (.v 0) (.n 1)) (.v 1)), (.v 2)), (1, (.a (.v 2) (.n 1)), (.a (.v 0) (.n 1)))] rfl h4 hg)) hg)
      rwa [show j' + 1 + (v - (j' + 1)) = v by exact Nat.le_antisymm (Nat.le_of_not_lt fun hg => lin [j', v, (v - (j' + 1))] [(1, (.a (.v 2) (.a (.v 0) (.n 1))), (.v 1)), (1, (.a (.v 1) (.n 1)), (.a (.a (.v 0) (.n 1)) (.v 2)))] rfl (sub_hi (Nat.le_of_not_lt fun hg => lin [j', k2, v] [(1, (.a (.a (.v 0) (.n 1)) (.v 1)), (.v 2)), (1, (.a (.v 2) (.n 1)), (.a (.v 0) (.n 1)))] rfl h4 hg)) hg) (Nat.le_of_not_lt fun hg => lin [j', v, (v - (j' + 1))] [(1, (.v 1), (.a (.v 2) (.a (.v 0) (.n 1)))), (1, (.a (.a (.a (.v 0) (.n 1)) (.v 2)) (.n 1)), (.v 1))] rfl (sub_lo (v) (j' + 1)) hg)] at this
     have hMm : 0 < k2 → _ := fun _ => hM2.appB sb (k := k2) (by exact Nat.le_of_not_lt fun hg => lin [(b.size), j', k2, (b.size - (j' + 1))] [(1, (.v 2), (.v 3)), (1, (.a (.v 3) (.a (.v 1) (.n 1))), (.v 0)), (1, (.a (.v 0) (.n 1)), (.a (.a (.v 1) (.n 1)) (.v 2)))] rfl l1 (sub_hi (Nat.le_of_not_lt fun hg => lin [(b.size), j'] [(1, (.a (.v 1) (.n 1)), (.v 0)), (1, (.a (.v 0) (.n 1)), (.a (.v 1) (.n 1)))] rfl hj' hg)) hg) fun u h3 v h4 h5 => KeyOrd.kle_trans (KeyOrd.kle_of_klt (l2' u h3)) (ia _ _ h4 h5)
     have hj1 : j' + 1 < b.size := by exact Nat.lt_of_not_le fun hg => Or.elim (Nat.lt_or_gt_of_ne e5) (fun hs0 => lin [(b.size), j'] [(1, (.v 0), (.a (.v 1) (.n 1))), (1, (.a (.a (.v 1) (.n 1)) (.n 1)), (.v 0))] rfl hg hs0) (fun hs0 => lin [(b.size), j'] [(1, (.a (.v 1) (.n 1)), (.v 0)), (1, (.a (.v 0) (.n 1)), (.a (.v 1) (.n 1)))] rfl hj' hs0)
     have hm1 : (a.size - (i2 + 1)) + (b.size - (j' + 1)) + 1 ≤ N := by exact Nat.le_of_not_lt fun hg => lin [(a.size), (b.size), j', i2, (a.size - i2), (b.size - j'), N, (b.size - (j' + 1)), (a.size - (i2 + 1))] [(1, (.a (.a (.v 4) (.v 5)) (.n 1)), (.v 6)), (1, (.v 0), (.a (.v 4) (.v 3))), (1, (.v 1), (.a (.v 5) (.v 2))), (1, (.a (.v 7) (.a (.v 2) (.n 1))), (.v 1)), (1, (.a (.v 8) (.a (.v 3) (.n 1))), (.v 0)), (1, (.a (.v 6) (.n 1)), (.a (.a (.v 8) (.v 7)) (.n 1)))] rfl hzr (sub_lo (a.size) (i2)) (sub_lo (b.size) (j')) (sub_hi (Nat.le_of_not_lt fun hg => lin [(b.size), j'] [(1, (.a (.a (.v 1) (.n 1)) (.n 1)), (.v 0)), (1, (.a (.v 0) (.n 1)), (.a (.v 1) (.n 1)))] rfl hj1 hg)) (sub_hi (Nat.le_of_not_lt fun hg => lin [(a.size), i2] [(1, (.a (.a (.v 1) (.n 1)) (.n 1)), (.v 0)), (1, (.a (.v 0) (.n 1)), (.a (.v 1) (.n 1)))] rfl hz hg)) hg
     clear l2 l3 l2' l3' e5
     subst hK
     dsimp only
     generalize j' + 1 = j1 at hM2 hv hMm hj1 hm1 l1 ⊢
     generalize o2.push b[j'] = o1 at hM2 hMm ⊢
     refine' ts_ifF (fun j2 o3 => Mid key a b o3 i2 j2 ∧ j2 < b.size ∧ (a.size - (i2 + 1)) + (b.size - j2) + 1 ≤ N ∧ ∀ v, j2 ≤ v → v < b.size → O.kle (tk key a i2) (tk key b v)) j1 o1 ?he ?_ (fun hk K => ?_) (fun hk => ⟨hM2, hj1, hm1, fun v h4 h5 => hv v (by omega) h5⟩)
     case he => apply Eq.refl
     ·clear hM2 hv hMm hj1 hm1 l1
      rintro j2 o3 ⟨hM3, hj2, hm2, hw⟩
      have hM5 := hM3.pushA sa hz' hw
      refine wpS_bind (ts_elem hz' ?_)
      refine ts_if (fun e7 => ?_) (fun e7 => ?_)
      ·simp only [beq_iff_eq] at e7
       exact wpS_pure ⟨hS4 _, .inl ⟨_, _, hM5.last sa sb e7 h2⟩⟩
      simp only [beq_iff_eq] at e7
      have hi5 : i2 + 1 + 1 < a.size := by exact Nat.lt_of_not_le fun hg => Or.elim (Nat.lt_or_gt_of_ne e7) (fun hs0 => lin [(a.size), i2] [(1, (.v 0), (.a (.a (.v 1) (.n 1)) (.n 1))), (1, (.a (.a (.a (.v 1) (.n 1)) (.n 1)) (.n 1)), (.v 0))] rfl hg hs0) (fun hs0 => lin [(a.size), i2] [(1, (.a (.a (.v 1) (.n 1)) (.n 1)), (.v 0)), (1, (.a (.v 0) (.n 1)), (.a (.a (.v 1) (.n 1)) (.n 1)))] rfl hz hs0)
      exact ts_if (fun _ => wpS_pure ⟨hS4 _, .inr ⟨_, _, _, _, hM5, hi5, hj2, hm2⟩⟩) fun _ => wpS_pure ⟨hS4 _, _, _, _, _, hM5, hi5, hj2, hm2⟩
     ·have hMm := hMm hk
      refine ts_if (fun e6 => ?_) (fun e6 => ?_)
      ·simp only [beq_iff_eq] at e6
       exact wpS_pure ⟨hS4 _, .inl ⟨_, _, hMm.done sa sb (.inl e6)⟩⟩
      simp only [beq_iff_eq] at e6
      exact K (j1 + k2) _ ⟨hMm, by exact Nat.lt_of_not_le fun hg => Or.elim (Nat.lt_or_gt_of_ne e6) (fun hs0 => lin [(b.size), j1, k2] [(1, (.v 0), (.a (.v 1) (.v 2))), (1, (.a (.a (.v 1) (.v 2)) (.n 1)), (.v 0))] rfl hg hs0) (fun hs0 => lin [(b.size), j1, (b.size - j1), k2] [(1, (.v 3), (.v 2)), (1, (.a (.v 2) (.v 1)), (.v 0)), (1, (.a (.v 0) (.n 1)), (.a (.v 1) (.v 3)))] rfl l1 (sub_hi (Nat.le_of_not_lt fun hg => lin [(b.size), j1] [(1, (.a (.v 1) (.n 1)), (.v 0)), (1, (.a (.v 0) (.n 1)), (.v 1))] rfl hj1 hg)) hs0), by exact Nat.le_of_not_lt fun hg => Or.elim (Nat.lt_or_gt_of_ne e6) (fun hs0 => Or.elim (sub_or (b.size) (j1 + k2)) (fun hs1 => lin [(b.size), N, j1, (a.size - (i2 + 1)), (b.size - j1), k2, (b.size - (j1 + k2))] [(1, (.a (.a (.v 3) (.v 4)) (.n 1)), (.v 1)), (1, (.a (.n 0) (.n 1)), (.v 5)), (1, (.v 0), (.a (.v 4) (.v 2))), (1, (.a (.v 1) (.n 1)), (.a (.a (.v 3) (.v 6)) (.n 1))), (1, (.a (.v 6) (.a (.v 2) (.v 5))), (.v 0))] rfl hm1 hk (sub_lo (b.size) (j1)) hg (Nat.le_of_eq hs1)) (fun hs1 => lin [(b.size), j1, k2, (b.size - (j1 + k2))] [(1, (.v 0), (.a (.v 3) (.a (.v 1) (.v 2)))), (1, (.a (.a (.v 1) (.v 2)) (.n 1)), (.v 0)), (1, (.v 3), (.n 0))] rfl (sub_lo (b.size) (j1 + k2)) hs0 (Nat.le_of_eq hs1))) (fun hs0 => lin [(b.size), j1, (b.size - j1), k2] [(1, (.v 3), (.v 2)), (1, (.a (.v 2) (.v 1)), (.v 0)), (1, (.a (.v 0) (.n 1)), (.a (.v 1) (.v 3)))] rfl l1 (sub_hi (Nat.le_of_not_lt fun hg => lin [(b.size), j1] [(1, (.a (.v 1) (.n 1)), (.v 0)), (1, (.a (.v 0) (.n 1)), (.v 1))] rfl hj1 hg)) hs0), hv⟩
    ·have hMz := hM'.appA sa (k := k) (by exact Nat.le_of_not_lt fun hg => lin [(a.size), i', (a.size - i'), k] [(1, (.v 3), (.v 2)), (1, (.a (.v 2) (.v 1)), (.v 0)), (1, (.a (.v 0) (.n 1)), (.a (.v 1) (.v 3)))] rfl hk1 (sub_hi (Nat.le_of_not_lt fun hg => lin [(a.size), i'] [(1, (.a (.a (.v 1) (.n 1)) (.n 1)), (.v 0)), (1, (.a (.v 0) (.n 1)), (.v 1))] rfl hi' hg)) hg) hk2'
     refine ts_if (fun e3 => ?_) (fun e3 => ?_)
     ·simp only [beq_iff_eq] at e3
      exact wpS_pure ⟨hS4 _, .inl ⟨_, _, hMz.last sa sb e3 h2⟩⟩
     refine ts_if (fun e4 => ?_) (fun e4 => ?_)
     ·simp only [beq_iff_eq] at e4
      exact wpS_pure ⟨hS4 _, .inl ⟨_, _, hMz.done sa sb (.inr e4)⟩⟩
     simp only [beq_iff_eq] at e3 e4
     exact K (i' + k) _ ⟨hMz, by exact Nat.lt_of_not_le fun hg => Or.elim (Nat.lt_or_gt_of_ne e3) (fun hs0 => lin [(a.size), i', k] [(1, (.v 0), (.a (.a (.v 1) (.v 2)) (.n 1))), (1, (.a (.a (.a (.v 1) (.v 2)) (.n 1)) (.n 1)), (.v 0))] rfl hg hs0) (fun hs0 => Or.elim (Nat.lt_or_gt_of_ne e4) (fun hs1 => lin [(a.size), i', k] [(1, (.a (.v 0) (.n 1)), (.a (.a (.v 1) (.v 2)) (.n 1))), (1, (.a (.a (.v 1) (.v 2)) (.n 1)), (.v 0))] rfl hs0 hs1) (fun hs1 => lin [(a.size), i', (a.size - i'), k] [(1, (.v 3), (.v 2)), (1, (.a (.v 2) (.v 1)), (.v 0)), (1, (.a (.v 0) (.n 1)), (.a (.v 1) (.v 3)))] rfl hk1 (sub_hi (Nat.le_of_not_lt fun hg => lin [(a.size), i'] [(1, (.a (.a (.v 1) (.n 1)) (.n 1)), (.v 0)), (1, (.a (.v 0) (.n 1)), (.v 1))] rfl hi' hg)) hs1)), by exact Nat.le_of_not_lt fun hg => Or.elim (Nat.lt_or_gt_of_ne e3) (fun hs0 => Or.elim (sub_or (a.size) (i' + k)) (fun hs1 => lin [(a.size), i', (a.size - i'), (b.size - j'), N, k, (a.size - (i' + k))] [(1, (.a (.a (.v 2) (.v 3)) (.n 1)), (.v 4)), (1, (.a (.n 0) (.n 1)), (.v 5)), (1, (.v 0), (.a (.v 2) (.v 1))), (1, (.a (.v 4) (.n 1)), (.a (.a (.v 6) (.v 3)) (.n 1))), (1, (.a (.v 6) (.a (.v 1) (.v 5))), (.v 0))] rfl hr' hk (sub_lo (a.size) (i')) hg (Nat.le_of_eq hs1)) (fun hs1 => lin [(a.size), i', k, (a.size - (i' + k))] [(1, (.v 0), (.a (.v 3) (.a (.v 1) (.v 2)))), (1, (.a (.a (.a (.v 1) (.v 2)) (.n 1)) (.n 1)), (.v 0)), (1, (.v 3), (.n 0))] rfl (sub_lo (a.size) (i' + k)) hs0 (Nat.le_of_eq hs1))) (fun hs0 => Or.elim (Nat.lt_or_gt_of_ne e4) (fun hs1 => lin [(a.size), i', k] [(1, (.a (.v 0) (.n 1)), (.a (.a (.v 1) (.v 2)) (.n 1))), (1, (.a (.a (.v 1) (.v 2)) (.n 1)), (.v 0))] rfl hs0 hs1) (fun hs1 => lin [(a.size), i', (a.size - i'), k] [(1, (.v 3), (.v 2)), (1, (.a (.v 2) (.v 1)), (.v 0)), (1, (.a (.v 0) (.n 1)), (.a (.v 1) (.v 3)))] rfl hk1 (sub_hi (Nat.le_of_not_lt fun hg => lin [(a.size), i'] [(1, (.a (.a (.v 1) (.n 1)) (.n 1)), (.v 0)), (1, (.a (.v 0) (.n 1)), (.v 1))] rfl hi' hg)) hs1)), hk3'⟩
end walk
end Mine
end
noncomputable section
namespace Mine
open PySem PyProof.Rows
section pure
variable {O : KeyOrd} {key : Keyed → O.α}
structure MidH (key : Keyed → O.α) (a b out : Array Keyed) (na nb : Nat) : Prop where
 perm : (a.toList.take na ++ (b.toList.take nb ++ out.toList.reverse)).Perm (a.toList ++ b.toList)
 srt : Srt key out.toList.reverse
 high : ∀ x ∈ out.toList, (∀ i, i < na → i < a.size → O.kle (tk key a i) (key x)) ∧ (∀ j, j < nb → j < b.size → O.kle (tk key b j) (key x))
variable {a b out : Array Keyed} {na nb : Nat}
theorem take_get {arr : Array Keyed} {i : Nat} (h0 : 0 < i) (hi : i ≤ arr.size) : arr.toList.take i = arr.toList.take (i - 1) ++ [arr[i - 1]] := by
 obtain ⟨k, rfl⟩ : ∃ k, i = k + 1 := ⟨i - 1, by exact (Nat.sub_add_cancel h0).symm⟩
 rw [List.take_add_one, List.getElem?_eq_getElem (by simpa using (by exact hi : k < arr.size))]
 simp
theorem take_ext {arr : Array Keyed} {i j : Nat} (hij : i ≤ j) : arr.toList.take j = arr.toList.take i ++ (arr.extract i j).toList := by
 rw [Array.toList_extract, List.extract_eq_take_drop]
 obtain ⟨k, rfl⟩ : ∃ k, j = i + k := ⟨j - i, by exact Nat.le_antisymm (Nat.le_of_not_lt fun hg => lin [i, j, (j - i)] [(1, (.v 1), (.a (.v 2) (.v 0))), (1, (.a (.a (.v 0) (.v 2)) (.n 1)), (.v 1))] rfl (sub_lo (j) (i)) hg) (Nat.le_of_not_lt fun hg => lin [i, j, (j - i)] [(1, (.a (.v 2) (.v 0)), (.v 1)), (1, (.a (.v 1) (.n 1)), (.a (.v 0) (.v 2)))] rfl (sub_hi (Nat.le_of_not_lt fun hg => lin [i, j] [(1, (.v 0), (.v 1)), (1, (.a (.v 1) (.n 1)), (.v 0))] rfl hij hg)) hg)⟩
 rw [show i + k - i = k by exact Nat.le_antisymm (Nat.le_of_not_lt fun hg => lin [i, k, (i + k - i)] [(1, (.a (.v 2) (.v 0)), (.a (.v 0) (.v 1))), (1, (.a (.v 1) (.n 1)), (.v 2))] rfl (sub_hi (Nat.le_of_not_lt fun hg => lin [i, k] [(1, (.v 0), (.a (.v 0) (.v 1))), (1, (.a (.a (.v 0) (.v 1)) (.n 1)), (.v 0))] rfl hij hg)) hg) (Nat.le_of_not_lt fun hg => lin [i, k, (i + k - i)] [(1, (.a (.v 0) (.v 1)), (.a (.v 2) (.v 0))), (1, (.a (.v 2) (.n 1)), (.v 1))] rfl (sub_lo (i + k) (i)) hg), List.take_add]
theorem MidH.pushA (h : MidH key a b out na nb) (sa : Srt key a.toList) (h0 : 0 < na) (hi : na ≤ a.size) (hle : ∀ j, j < nb → j < b.size → O.kle (tk key b j) (tk key a (na - 1))) :
  MidH key a b (out.push a[na - 1]) (na - 1) nb := by
 have hi1 : na - 1 < a.size := by exact Nat.le_trans (Nat.sub_lt h0 Nat.one_pos) hi
 refine ⟨?_, ?_, fun x hx => ?_⟩
 ·refine List.Perm.trans ?_ h.perm
  rw [Array.toList_push, take_get h0 hi, List.append_assoc]
  refine List.Perm.append_left _ ?_
  rw [List.reverse_append, List.reverse_singleton, List.singleton_append, List.singleton_append]
  exact List.perm_middle
 ·rw [Array.toList_push, List.reverse_append, List.reverse_singleton]
  refine srt_app (List.pairwise_singleton ..) h.srt fun x hx y hy => ?_
  rw [List.mem_singleton.mp hx, ← tk_get (key := key) hi1]
  exact (h.high y (List.mem_reverse.mp hy)).1 _ (by exact Nat.sub_lt h0 Nat.one_pos) hi1
 ·rw [Array.toList_push] at hx
  rcases List.mem_append.mp hx with hx | hx
  ·exact ⟨fun i h1 h2 => (h.high x hx).1 i (by exact Nat.lt_of_not_le fun hg => lin [na, (na - 1), i] [(1, (.a (.v 2) (.n 1)), (.v 1)), (1, (.a (.v 1) (.n 1)), (.v 0)), (1, (.v 0), (.v 2))] rfl h1 (sub_hi (Nat.le_of_not_lt fun hg => lin [na] [(1, (.a (.n 0) (.n 1)), (.v 0)), (1, (.a (.v 0) (.n 1)), (.n 1))] rfl h0 hg)) hg) h2, (h.high x hx).2⟩
  ·rw [List.mem_singleton.mp hx, ← tk_get (key := key) hi1]
   exact ⟨fun i h1 h2 => srt_idx sa _ _ (by exact Nat.le_of_lt h1) (by exact hi1), hle⟩
theorem MidH.pushB (h : MidH key a b out na nb) (sb : Srt key b.toList) (h0 : 0 < nb) (hi : nb ≤ b.size) (hle : ∀ i, i < na → i < a.size → O.kle (tk key a i) (tk key b (nb - 1))) :
  MidH key a b (out.push b[nb - 1]) na (nb - 1) := by
 have hi1 : nb - 1 < b.size := by exact Nat.le_trans (Nat.sub_lt h0 Nat.one_pos) hi
 refine ⟨?_, ?_, fun x hx => ?_⟩
 ·refine List.Perm.trans ?_ h.perm
  rw [Array.toList_push, take_get h0 hi]
  refine List.Perm.append_left _ ?_
  rw [List.reverse_append, List.reverse_singleton, List.append_assoc]
 ·rw [Array.toList_push, List.reverse_append, List.reverse_singleton]
  refine srt_app (List.pairwise_singleton ..) h.srt fun x hx y hy => ?_
  rw [List.mem_singleton.mp hx, ← tk_get (key := key) hi1]
  exact (h.high y (List.mem_reverse.mp hy)).2 _ (by exact Nat.sub_lt h0 Nat.one_pos) hi1
 ·rw [Array.toList_push] at hx
  rcases List.mem_append.mp hx with hx | hx
  ·exact ⟨(h.high x hx).1, fun i h1 h2 => (h.high x hx).2 i (by exact Nat.lt_of_not_le fun hg => lin [nb, (nb - 1), i] [(1, (.a (.v 2) (.n 1)), (.v 1)), (1, (.a (.v 1) (.n 1)), (.v 0)), (1, (.v 0), (.v 2))] rfl h1 (sub_hi (Nat.le_of_not_lt fun hg => lin [nb] [(1, (.a (.n 0) (.n 1)), (.v 0)), (1, (.a (.v 0) (.n 1)), (.n 1))] rfl h0 hg)) hg) h2⟩
  ·rw [List.mem_singleton.mp hx, ← tk_get (key := key) hi1]
   exact ⟨hle, fun i h1 h2 => srt_idx sb _ _ (by exact Nat.le_of_lt h1) (by exact hi1)⟩
theorem MidH.appA (h : MidH key a b out na nb) (sa : Srt key a.toList) {k : Nat} (hk : k ≤ na) (hi : na ≤ a.size) (hle : ∀ i, k ≤ i → i < na → ∀ j, j < nb → j < b.size → O.kle (tk key b j) (tk key a i)) :
  MidH key a b (out ++ (a.extract k na).reverse) k nb := by
 refine ⟨?_, ?_, fun x hx => ?_⟩
 ·refine List.Perm.trans ?_ h.perm
  rw [Array.toList_append, Array.toList_reverse, List.reverse_append, List.reverse_reverse, take_ext hk, List.append_assoc]
  refine List.Perm.append_left _ ?_
  rw [← List.append_assoc, ← List.append_assoc]
  exact List.Perm.append_right _ List.perm_append_comm
 ·rw [Array.toList_append, Array.toList_reverse, List.reverse_append, List.reverse_reverse]
  refine srt_app (srt_of_idx (fun p q _ h2 h3 => srt_idx sa p q h2 (by exact Nat.le_trans h3 hi)) hi) h.srt fun x hx y hy => ?_
  obtain ⟨p, h1, h2, h3, e⟩ := mem_ext (key := key) hx
  rw [e]
  exact (h.high y (List.mem_reverse.mp hy)).1 p h2 h3
 ·rw [Array.toList_append, Array.toList_reverse] at hx
  rcases List.mem_append.mp hx with hx | hx
  ·exact ⟨fun i h1 h2 => (h.high x hx).1 i (by exact Nat.le_trans h1 hk) h2, (h.high x hx).2⟩
  ·obtain ⟨p, h1, h2, h3, e⟩ := mem_ext (key := key) (List.mem_reverse.mp hx)
   rw [e]
   exact ⟨fun j h4 h5 => srt_idx sa _ _ (by exact Nat.le_of_lt (Nat.lt_of_lt_of_le h4 h1)) h3, fun j h4 h5 => hle p h1 h2 j h4 h5⟩
theorem MidH.appB (h : MidH key a b out na nb) (sb : Srt key b.toList) {k : Nat} (hk : k ≤ nb) (hi : nb ≤ b.size) (hle : ∀ i, k ≤ i → i < nb → ∀ j, j < na → j < a.size → O.kle (tk key a j) (tk key b i)) :
  MidH key a b (out ++ (b.extract k nb).reverse) na k := by
 refine ⟨?_, ?_, fun x hx => ?_⟩
 ·refine List.Perm.trans ?_ h.perm
  rw [Array.toList_append, Array.toList_reverse, List.reverse_append, List.reverse_reverse, take_ext hk]
  refine List.Perm.append_left _ ?_
  rw [List.append_assoc]
 ·rw [Array.toList_append, Array.toList_reverse, List.reverse_append, List.reverse_reverse]
  refine srt_app (srt_of_idx (fun p q _ h2 h3 => srt_idx sb p q h2 (by exact Nat.le_trans h3 hi)) hi) h.srt fun x hx y hy => ?_
  obtain ⟨p, h1, h2, h3, e⟩ := mem_ext (key := key) hx
  rw [e]
  exact (h.high y (List.mem_reverse.mp hy)).2 p h2 h3
 ·rw [Array.toList_append, Array.toList_reverse] at hx
  rcases List.mem_append.mp hx with hx | hx
  ·exact ⟨(h.high x hx).1, fun i h1 h2 => (h.high x hx).2 i (by exact Nat.le_trans h1 hk) h2⟩
  ·obtain ⟨p, h1, h2, h3, e⟩ := mem_ext (key := key) (List.mem_reverse.mp hx)
   rw [e]
   exact ⟨fun j h4 h5 => hle p h1 h2 j h4 h5, fun j h4 h5 => srt_idx sb _ _ (by exact Nat.le_of_lt (Nat.lt_of_lt_of_le h4 h1)) h3⟩
theorem ext_take {arr : Array Keyed} {i : Nat} : (arr.extract 0 i).toList = arr.toList.take i := by
 rw [Array.toList_extract, List.extract_eq_take_drop]
 simp
theorem MidH.done (h : MidH key a b out na nb) (sa : Srt key a.toList) (sb : Srt key b.toList) (he : na = 0 ∨ nb = 0) :
  Good key a b (a.extract 0 na ++ b.extract 0 nb ++ out.reverse) := by
 refine ⟨by rw [Array.toList_append, Array.toList_append, ext_take, ext_take, Array.toList_reverse, List.append_assoc]; exact h.perm, ?_⟩
 rw [Array.toList_append, Array.toList_append, ext_take, ext_take, Array.toList_reverse]
 refine srt_app (srt_app (sa.sublist (List.take_sublist _ _)) (sb.sublist (List.take_sublist _ _)) fun x hx y hy => ?_) h.srt fun x hx y hy => ?_
 ·obtain ⟨i, h1, h2, e⟩ := mem_idxT (key := key) hy
  obtain ⟨j, h3, h4, e2⟩ := mem_idxT (key := key) hx
  exact False.elim (Or.elim he (fun hs0 => lin [na, j] [(1, (.a (.v 1) (.n 1)), (.v 0)), (1, (.v 0), (.n 0))] rfl h3 (Nat.le_of_eq hs0)) (fun hs0 => lin [nb, i] [(1, (.a (.v 1) (.n 1)), (.v 0)), (1, (.v 0), (.n 0))] rfl h1 (Nat.le_of_eq hs0)))
 ·have hy' := List.mem_reverse.mp hy
  rcases List.mem_append.mp hx with hx | hx
  ·obtain ⟨i, h1, h2, e⟩ := mem_idxT (key := key) hx
   rw [e]
   exact (h.high y hy').1 i h1 h2
  ·obtain ⟨i, h1, h2, e⟩ := mem_idxT (key := key) hx
   rw [e]
   exact (h.high y hy').2 i h1 h2
theorem MidH.first (h : MidH key a b out na nb) (sa : Srt key a.toList) (sb : Srt key b.toList) (he : nb = 1) (hl : ∀ i, i < a.size → O.kle (tk key b 0) (tk key a i)) :
  Good key a b (b.extract 0 nb ++ a.extract 0 na ++ out.reverse) := by
 refine ⟨?_, ?_⟩
 ·rw [Array.toList_append, Array.toList_append, ext_take, ext_take, Array.toList_reverse]
  refine List.Perm.trans ?_ h.perm
  rw [← List.append_assoc]
  exact List.Perm.append_right _ List.perm_append_comm
 rw [Array.toList_append, Array.toList_append, ext_take, ext_take, Array.toList_reverse]
 refine srt_app (srt_app (sb.sublist (List.take_sublist _ _)) (sa.sublist (List.take_sublist _ _)) fun x hx y hy => ?_) h.srt fun x hx y hy => ?_
 ·obtain ⟨i, h1, h2, e⟩ := mem_idxT (key := key) hy
  obtain ⟨j, h3, h4, e2⟩ := mem_idxT (key := key) hx
  rw [e, e2, show j = 0 by exact Nat.le_antisymm (Nat.le_of_not_lt fun hg => lin [nb, j] [(1, (.v 0), (.n 1)), (1, (.a (.v 1) (.n 1)), (.v 0)), (1, (.a (.n 0) (.n 1)), (.v 1))] rfl (Nat.le_of_eq he) h3 hg) (Nat.le_of_not_lt fun hg => lin [j] [(1, (.a (.v 0) (.n 1)), (.n 0))] rfl hg)]
  exact hl i h2
 ·have hy' := List.mem_reverse.mp hy
  rcases List.mem_append.mp hx with hx | hx
  ·obtain ⟨i, h1, h2, e⟩ := mem_idxT (key := key) hx
   rw [e]
   exact (h.high y hy').2 i h1 h2
  ·obtain ⟨i, h1, h2, e⟩ := mem_idxT (key := key) hx
   rw [e]
   exact (h.high y hy').1 i h1 h2
end pure
end Mine
end
noncomputable section
namespace Mine
open PySem PyProof.Rows
section walk
variable {prog : Program} {w : World} {A : Around} {E : Value → Shared → Prop} {s : Shared} {kd : SortKind} {O : KeyOrd} {key : Keyed → O.α} {a₀ : Array Keyed}
inductive HiI (key : Keyed → O.α) (a b : Array Keyed) (x n : Nat) {γ : Type} : Option (Array Keyed) × Nat × Nat × Array Keyed × γ → Prop
 | mk (i j : Nat) (out : Array Keyed) (r : γ) (hM : MidH key a b out i j) (hi : 0 < i) (hi2 : i ≤ a.size) (hj : 1 < j) (hj2 : j ≤ b.size) (hr : i + j + x ≤ n) : HiI key a b x n (none, i, j, out, r)
theorem ts_hi {st : SortSt} {a b : Array Keyed} {Q : Array Keyed → SortSt → Prop} (hL : LtOk prog w A E s kd O key a₀) (ha : ∀ x ∈ a.toList, x ∈ a₀.toList) (hb : ∀ x ∈ b.toList, x ∈ a₀.toList)
  (sa : Srt key a.toList) (sb : Srt key b.toList) (na : 0 < a.size) (nb : 0 < b.size) (h1 : ∀ i, i < a.size → O.kle (tk key b 0) (tk key a i))
  (h2 : ∀ j, j < b.size → O.kle (tk key b j) (tk key a (a.size - 1))) (hkd : kindOf st = kd)
  (h : ∀ m st', Good key a b m → Same st st' → Q m st') : wpS (model prog w) A E s (mergeHiM a b) Q st := by
 have ia : ∀ i j, i ≤ j → j < a.size → O.kle (tk key a i) (tk key a j) := srt_idx sa
 have ib : ∀ i j, i ≤ j → j < b.size → O.kle (tk key b i) (tk key b j) := srt_idx sb
 have m0 : MidH key a b #[a[a.size - 1]] (a.size - 1) b.size := by
  have : MidH key a b #[] a.size b.size := ⟨by rw [List.take_of_length_le (by simp), List.take_of_length_le (by simp)]; simp, by simp, by simp⟩
  exact this.pushA sa na (Nat.le_refl _) fun j _ => h2 j
 have hSin : ∀ n, 0 + n ≤ a.size → SIn key a 0 (0 + n) := fun n hd p q _ h4 h5 => ia _ _ h4 (by exact Nat.le_trans h5 hd)
 have hSib : ∀ n, 0 + n ≤ b.size → SIn key b 0 (0 + n) := fun n hd p q _ h4 h5 => ib _ _ h4 (by exact Nat.le_trans h5 hd)
 unfold mergeHiM
 refine wpS_bind (wpS_lift (wpAny_rule ⟨rfl, ?_⟩))
 refine wpS_bind (ts_elem (by exact Nat.sub_lt na Nat.one_pos : a.size - 1 < a.size) ?_)
 refine ts_if (fun e1 => ?_) (fun e1 => ?_)
 ·simp only [beq_iff_eq] at e1
  exact wpS_pure (h _ _ (m0.done sa sb (.inl e1)) Same.refl)
 refine ts_if (fun e2 => ?_) (fun e2 => ?_)
 ·simp only [beq_iff_eq] at e2
  exact wpS_pure (h _ _ (m0.first sa sb e2 h1) Same.refl)
 refine wpS_bind (wpS_get ?_)
 refine ts_for (fun x c st' => Same st st' ∧ HiI key a b x (a.size + b.size) c) (fun c st' => Same st st' ∧ LoD key a b c) ?step ?fin ?init ?post
 case init =>
  simp only [beq_iff_eq] at e1 e2
  exact ⟨Same.refl, _, _, _, _, m0, by exact Nat.pos_of_ne_zero e1, by exact Nat.sub_le _ _, by exact Nat.lt_of_not_le fun hg => Or.elim (Nat.lt_or_gt_of_ne e1) (fun hs0 => lin [(a.size), (a.size - 1)] [(1, (.a (.n 0) (.n 1)), (.v 0)), (1, (.v 0), (.a (.v 1) (.n 1))), (1, (.a (.v 1) (.n 1)), (.n 0))] rfl na (sub_lo (a.size) (1)) hs0) (fun hs0 => Or.elim (Nat.lt_or_gt_of_ne e2) (fun hs1 => lin [(b.size)] [(1, (.a (.n 0) (.n 1)), (.v 0)), (1, (.a (.v 0) (.n 1)), (.n 1))] rfl nb hs1) (fun hs1 => lin [(b.size)] [(1, (.v 0), (.n 1)), (1, (.a (.n 1) (.n 1)), (.v 0))] rfl hg hs1)), by exact Nat.le_refl _, by exact Nat.le_of_not_lt fun hg => lin [(a.size), (b.size), (a.size - 1)] [(1, (.a (.v 2) (.n 1)), (.v 0)), (1, (.a (.a (.v 0) (.v 1)) (.n 1)), (.a (.a (.v 2) (.v 1)) (.n 0)))] rfl (sub_hi (Nat.le_of_not_lt fun hg => lin [(a.size)] [(1, (.a (.n 0) (.n 1)), (.v 0)), (1, (.a (.v 0) (.n 1)), (.n 1))] rfl na hg)) hg⟩
 case fin =>
  rintro c st' ⟨hS, i, j, out, mg, hM, hi, hi2, hj, hj2, hx⟩
  exact And.intro (False.elim (lin [(a.size), (b.size), i, j, (max 0 (a.size + b.size))] [(1, (.a (.n 0) (.n 1)), (.v 2)), (1, (.a (.n 1) (.n 1)), (.v 3)), (1, (.a (.a (.v 2) (.v 3)) (.v 4)), (.a (.v 0) (.v 1))), (1, (.a (.v 0) (.v 1)), (.v 4))] rfl hi hj hx (Nat.le_max_right (0) (a.size + b.size)))) (False.elim (lin [(a.size), (b.size), i, j, (max 0 (a.size + b.size))] [(1, (.a (.n 0) (.n 1)), (.v 2)), (1, (.a (.n 1) (.n 1)), (.v 3)), (1, (.a (.a (.v 2) (.v 3)) (.v 4)), (.a (.v 0) (.v 1))), (1, (.a (.v 0) (.v 1)), (.v 4))] rfl hi hj hx (Nat.le_max_right (0) (a.size + b.size))))
 case post =>
  rintro K hK c st' ⟨hS, m, r, hG⟩
  subst hK
  exact wpS_pure (h m st' hG hS)
 case step =>
  rintro F hF x c st' ⟨hS, i, j, out, mg, hM, hi, hi2, hj, hj2, hr⟩
  clear e1 e2 m0
  subst hF
  dsimp only
  refine ts_for (fun y c st'' => st'' = st' ∧ HiI key a b y (i + j) c) (fun c st'' => st'' = st' ∧ (LoD key a b c ∨ HiI key a b 1 (i + j) c)) ?astep ?afin ⟨rfl, i, j, _, _, hM, hi, hi2, hj, hj2, by exact Nat.le_refl _⟩ ?apost
  case afin =>
   rintro c st'' ⟨rfl, i', j', out', ⟨p, q⟩, hM', hi', hi2', hj', hj2', hr'⟩
   exact ⟨rfl, .inr ⟨i', j', out', _, hM', hi', hi2', hj', hj2', by exact Nat.le_of_not_lt fun hg => lin [(a.size), (b.size), i, j, i', j', (max 0 (a.size + b.size))] [(1, (.v 2), (.v 0)), (1, (.v 3), (.v 1)), (1, (.a (.n 0) (.n 1)), (.v 4)), (1, (.a (.n 1) (.n 1)), (.v 5)), (1, (.a (.a (.v 4) (.v 5)) (.v 6)), (.a (.v 2) (.v 3))), (1, (.a (.v 0) (.v 1)), (.v 6))] rfl hi2 hj2 hi' hj' hr' (Nat.le_max_right (0) (a.size + b.size))⟩⟩
  case astep =>
   rintro F hF y c st'' ⟨rfl, i', j', out', ⟨p, q⟩, hM', hi', hi2', hj', hj2', hr'⟩
   have hia : i' - 1 < a.size := by exact Nat.le_trans (Nat.sub_lt hi' Nat.one_pos) hi2'
   have hjb : j' - 1 < b.size := by exact Nat.lt_of_not_le fun hg => lin [(b.size), j', (j' - 1)] [(1, (.v 1), (.v 0)), (1, (.a (.v 2) (.n 1)), (.v 1)), (1, (.v 0), (.v 2))] rfl hj2' (sub_hi (Nat.le_of_not_lt fun hg => lin [j'] [(1, (.a (.n 1) (.n 1)), (.v 0)), (1, (.a (.v 0) (.n 1)), (.n 1))] rfl hj' hg)) hg
   cases hlt : O.blt (tk key b (j' - 1)) (tk key a (i' - 1)) with
   | true =>
    have hM2 := hM'.pushA sa hi' hi2' fun k h3 h4 => KeyOrd.kle_trans (ib k (j' - 1) (by exact Nat.le_of_not_lt fun hg => lin [j', (j' - 1), k] [(1, (.a (.v 2) (.n 1)), (.v 0)), (1, (.v 0), (.a (.v 1) (.n 1))), (1, (.a (.v 1) (.n 1)), (.v 2))] rfl h3 (sub_lo (j') (1)) hg) hjb) (KeyOrd.kle_of_klt hlt)
    subst hF
    refine wpS_bind (ts_elem hjb (wpS_bind (ts_elem hia (wpS_bind (ts_lt hL hb ha hjb hia (hS.kind.trans hkd) ?_)))))
    rw [hlt]
    refine wpS_bind (ts_elem hia ?_)
    refine ts_if (fun e3 => ?_) (fun e3 => ?_)
    ·simp only [beq_iff_eq] at e3
     exact wpS_pure ⟨rfl, .inl ⟨_, _, hM2.done sa sb (.inl e3)⟩⟩
    simp only [beq_iff_eq] at e3
    have hi3 : 0 < i' - 1 := Nat.pos_of_ne_zero e3
    have hr2 : i' - 1 + j' + (y + 1) ≤ i + j := by exact Nat.le_of_not_lt fun hg => lin [i, j, i', j', y, (i' - 1)] [(1, (.a (.a (.v 2) (.v 3)) (.v 4)), (.a (.v 0) (.v 1))), (1, (.a (.v 5) (.n 1)), (.v 2)), (1, (.a (.a (.v 0) (.v 1)) (.n 1)), (.a (.a (.v 5) (.v 3)) (.a (.v 4) (.n 1))))] rfl hr' (sub_hi (Nat.le_of_not_lt fun hg => lin [i'] [(1, (.a (.n 0) (.n 1)), (.v 0)), (1, (.a (.v 0) (.n 1)), (.n 1))] rfl hi' hg)) hg
    have hr3 : i' - 1 + j' + 1 ≤ i + j := by exact Nat.lt_of_le_of_lt (Nat.le_add_right _ _) hr2
    exact ts_if (fun _ => wpS_pure ⟨rfl, .inr ⟨_, _, _, _, hM2, hi3, Nat.le_of_lt hia, hj', hj2', hr3⟩⟩) fun _ => wpS_pure ⟨rfl, _, _, _, _, hM2, hi3, Nat.le_of_lt hia, hj', hj2', hr2⟩
   | false =>
    have hM2 := hM'.pushB sb (by exact Nat.le_of_lt hj') hj2' fun k h3 h4 => KeyOrd.kle_trans (ia k (i' - 1) (by exact Nat.le_of_not_lt fun hg => lin [i', (i' - 1), k] [(1, (.a (.v 2) (.n 1)), (.v 0)), (1, (.v 0), (.a (.v 1) (.n 1))), (1, (.a (.v 1) (.n 1)), (.v 2))] rfl h3 (sub_lo (i') (1)) hg) hia) (show O.kle _ _ from hlt)
    subst hF
    refine wpS_bind (ts_elem hjb (wpS_bind (ts_elem hia (wpS_bind (ts_lt hL hb ha hjb hia (hS.kind.trans hkd) ?_)))))
    rw [hlt]
    refine wpS_bind (ts_elem hjb ?_)
    refine ts_if (fun e3 => ?_) (fun e3 => ?_)
    ·simp only [beq_iff_eq] at e3
     exact wpS_pure ⟨rfl, .inl ⟨_, _, hM2.first sa sb e3 h1⟩⟩
    simp only [beq_iff_eq] at e3
    have hj3 : 1 < j' - 1 := by exact Nat.lt_of_not_le fun hg => Or.elim (Nat.lt_or_gt_of_ne e3) (fun hs0 => lin [j', (j' - 1)] [(1, (.a (.n 1) (.n 1)), (.v 0)), (1, (.v 0), (.a (.v 1) (.n 1))), (1, (.a (.v 1) (.n 1)), (.n 1))] rfl hj' (sub_lo (j') (1)) hs0) (fun hs0 => lin [(j' - 1)] [(1, (.v 0), (.n 1)), (1, (.a (.n 1) (.n 1)), (.v 0))] rfl hg hs0)
    have hr2 : i' + (j' - 1) + (y + 1) ≤ i + j := by exact Nat.le_of_not_lt fun hg => lin [i, j, i', j', y, (j' - 1)] [(1, (.a (.a (.v 2) (.v 3)) (.v 4)), (.a (.v 0) (.v 1))), (1, (.a (.v 5) (.n 1)), (.v 3)), (1, (.a (.a (.v 0) (.v 1)) (.n 1)), (.a (.a (.v 2) (.v 5)) (.a (.v 4) (.n 1))))] rfl hr' (sub_hi (Nat.le_of_not_lt fun hg => lin [j'] [(1, (.a (.n 1) (.n 1)), (.v 0)), (1, (.a (.v 0) (.n 1)), (.n 1))] rfl hj' hg)) hg
    have hr3 : i' + (j' - 1) + 1 ≤ i + j := by exact Nat.lt_of_le_of_lt (Nat.le_add_right _ _) hr2
    exact ts_if (fun _ => wpS_pure ⟨rfl, .inr ⟨_, _, _, _, hM2, hi', hi2', hj3, Nat.le_of_lt hjb, hr3⟩⟩) fun _ => wpS_pure ⟨rfl, _, _, _, _, hM2, hi', hi2', hj3, Nat.le_of_lt hjb, hr2⟩
  case apost =>
   rintro K hK c st'' ⟨rfl, ⟨m, r, hG⟩ | ⟨i', j', out', ⟨p, q⟩, hM', hi', hi2', hj', hj2', hr'⟩⟩
   ·subst hK
    exact wpS_pure ⟨hS, m, _, hG⟩
   subst hK
   dsimp only
   refine wpS_bind (wpS_lift (wpAny_rule ⟨rfl, ?_⟩))
   refine ts_for (fun y c st3 => Same st st3 ∧ HiI key a b 1 (i + j) c) (fun c st3 => Same st st3 ∧ (LoD key a b c ∨ HiI key a b 1 (i + j) c)) ?gstep ?gfin ⟨hS, i', j', _, _, hM', hi', hi2', hj', hj2', hr'⟩ ?gpost
   case gfin =>
    rintro c st3 ⟨hS3, i', j', out', ⟨g, p, q⟩, hM', hi', hi2', hj', hj2', hr'⟩
    exact ⟨hS3, .inr ⟨i', j', out', _, hM', hi', hi2', hj', hj2', hr'⟩⟩
   case gpost =>
    rintro K hK c st3 ⟨hS3, ⟨m, r, hG⟩ | ⟨i', j', out', ⟨g, p, q⟩, hM', hi', hi2', hj', hj2', hr'⟩⟩
    ·subst hK
     exact wpS_pure ⟨hS3, m, _, hG⟩
    subst hK
    dsimp only
    refine wpS_bind (wpS_modify ?_)
    exact wpS_pure ⟨hS3.trans ⟨rfl, rfl, rfl, rfl⟩, _, _, _, _, hM', hi', hi2', hj', hj2', by exact Nat.le_of_not_lt fun hg => lin [(a.size), (b.size), i, j, x, i', j'] [(1, (.a (.a (.v 2) (.v 3)) (.v 4)), (.a (.v 0) (.v 1))), (1, (.a (.a (.v 5) (.v 6)) (.n 1)), (.a (.v 2) (.v 3))), (1, (.a (.a (.v 0) (.v 1)) (.n 1)), (.a (.a (.v 5) (.v 6)) (.a (.v 4) (.n 1))))] rfl hr hr' hg⟩
   case gstep =>
    clear hM' hi' hj' hr' hi2' hj2' hr hM hi hi2 hj hj2 hS
    generalize i + j = N
    rintro F hF y c st3 ⟨hS3, i', j', out', ⟨g, p, q⟩, hM', hi', hi2', hj', hj2', hr'⟩
    have hjb : j' - 1 < b.size := by exact Nat.lt_of_not_le fun hg => lin [(b.size), j', (j' - 1)] [(1, (.v 1), (.v 0)), (1, (.a (.v 2) (.n 1)), (.v 1)), (1, (.v 0), (.v 2))] rfl hj2' (sub_hi (Nat.le_of_not_lt fun hg => lin [j'] [(1, (.a (.n 1) (.n 1)), (.v 0)), (1, (.a (.v 0) (.n 1)), (.n 1))] rfl hj' hg)) hg
    have hS4 : ∀ g', Same st (SortSt.mk' (kindOf st3) (arrOf st3) (pendingOf st3) g' (failedOf st3)) := fun g' => hS3.trans ⟨rfl, rfl, rfl, rfl⟩
    subst hF
    dsimp only
    refine' ts_ifG g (g - 1) ?he ?ht ?_
    case he => apply Eq.refl
    case ht => exact rfl
    intro g'
    refine wpS_bind (wpS_modify ?_)
    refine wpS_bind (ts_elem hjb ?_)
    refine ts_bindK fun K hK => ts_gallop (left := false) (n := i') (hint := i' - 1) hL (hb _ (by simp)) ha (by exact Nat.le_of_not_lt fun hg => lin [(a.size), i'] [(1, (.v 1), (.v 0)), (1, (.a (.v 0) (.n 1)), (.a (.n 0) (.v 1)))] rfl hi2' hg) (by exact Nat.sub_lt hi' Nat.one_pos) (hS3.kind.trans hkd) (bey_mono (hSin _ (by exact Nat.le_of_not_lt fun hg => lin [(a.size), i'] [(1, (.v 1), (.v 0)), (1, (.a (.v 0) (.n 1)), (.a (.n 0) (.v 1)))] rfl hi2' hg))) fun k hk1 hk2 hk3 => ?_
    have hk2' : ∀ u, u < k → u < a.size → O.kle (tk key a u) (tk key b (j' - 1)) := fun u h3 h4 => by
     have := bey_right.1 (hk2 u h3)
     rwa [Nat.zero_add, ← tk_get (key := key) hjb] at this
    have hk3' : ∀ u, k ≤ u → u < i' → ∀ v, v < j' → v < b.size → O.kle (tk key b v) (tk key a u) := fun u h3 h4 v h5 h6 => by
     have := bey_right.2 (hk3 u h3 h4)
     rw [Nat.zero_add, ← tk_get (key := key) hjb] at this
     exact KeyOrd.kle_trans (ib v (j' - 1) (by exact Nat.le_of_not_lt fun hg => lin [j', (j' - 1), v] [(1, (.a (.v 2) (.n 1)), (.v 0)), (1, (.v 0), (.a (.v 1) (.n 1))), (1, (.a (.v 1) (.n 1)), (.v 2))] rfl h5 (sub_lo (j') (1)) hg) hjb) (KeyOrd.kle_of_klt this)
    clear hk2 hk3
    subst hK
    dsimp only
    generalize hd1 : i' - k = d1
    refine' ts_ifF (fun i2 o2 => MidH key a b o2 i2 j' ∧ 0 < i2 ∧ i2 ≤ a.size ∧ i2 + j' + 1 ≤ N ∧ ∀ u, u < i2 → u < a.size → O.kle (tk key a u) (tk key b (j' - 1))) i' out' ?he ?_ (fun hk K => ?_) (fun hk => ⟨hM', hi', hi2', hr', fun u h3 h4 => hk2' u (by omega) h4⟩)
    case he => apply Eq.refl
    ·clear hM' hi' hi2' hr' hk1 hk2' hk3' hd1
     rintro i2 o2 ⟨hMz, hz, hz2, hzr, hzb⟩
     refine wpS_bind (ts_elem hjb ?_)
     refine ts_if (fun e5 => ?_) (fun e5 => ?_)
     ·simp only [beq_iff_eq] at e5
      exact wpS_pure ⟨hS4 _, .inl ⟨_, _, (hMz.pushB sb (by exact Nat.le_of_lt hj') hj2' hzb).first sa sb e5 h1⟩⟩
     refine wpS_bind (ts_elem (by exact Nat.le_trans (Nat.sub_lt hz Nat.one_pos) hz2 : i2 - 1 < a.size) ?_)
     refine ts_bindK fun K hK => ts_gallop (left := true) (n := j' - 1) (hint := j' - 1 - 1) hL (ha _ (by simp)) hb (by exact Nat.le_of_not_lt fun hg => lin [(b.size), j', (j' - 1)] [(1, (.v 1), (.v 0)), (1, (.a (.v 2) (.n 1)), (.v 1)), (1, (.a (.v 0) (.n 1)), (.a (.n 0) (.v 2)))] rfl hj2' (sub_hi (Nat.le_of_not_lt fun hg => lin [j'] [(1, (.a (.n 1) (.n 1)), (.v 0)), (1, (.a (.v 0) (.n 1)), (.n 1))] rfl hj' hg)) hg) (by exact Nat.lt_of_not_le fun hg => lin [(j' - 1), (j' - 1 - 1)] [(1, (.a (.v 1) (.n 1)), (.v 0)), (1, (.v 0), (.v 1))] rfl (sub_hi (Nat.le_of_not_lt fun hg => lin [j', (j' - 1)] [(1, (.a (.n 1) (.n 1)), (.v 0)), (1, (.v 0), (.a (.v 1) (.n 1))), (1, (.a (.v 1) (.n 1)), (.n 1))] rfl hj' (sub_lo (j') (1)) hg)) hg) (hS3.kind.trans hkd) (bey_mono (hSib _ (by exact Nat.le_of_not_lt fun hg => lin [(b.size), j', (j' - 1)] [(1, (.v 1), (.v 0)), (1, (.a (.v 2) (.n 1)), (.v 1)), (1, (.a (.v 0) (.n 1)), (.a (.n 0) (.v 2)))] rfl hj2' (sub_hi (Nat.le_of_not_lt fun hg => lin [j'] [(1, (.a (.n 1) (.n 1)), (.v 0)), (1, (.a (.v 0) (.n 1)), (.n 1))] rfl hj' hg)) hg))) fun k2 l1 l2 l3 => ?_
     have hz' : i2 - 1 < a.size := by exact Nat.le_trans (Nat.sub_lt hz Nat.one_pos) hz2
     have hM2 := hMz.pushB sb (by exact Nat.le_of_lt hj') hj2' hzb
     simp only [beq_iff_eq] at e5
     have l2' := fun u (h3 : u < k2) => bey_left.1 (l2 u h3)
     have l3' := fun u (h3 : k2 ≤ u) (h4 : u < j' - 1) => bey_left.2 (l3 u h3 h4)
     simp only [Nat.zero_add] at l2' l3'
     rw [← tk_get (key := key) hz'] at l2' l3'
     have hMm := hM2.appB sb l1 (by exact Nat.le_of_lt hjb) fun u h3 h4 v h5 h6 => KeyOrd.kle_trans (ia v _ (by exact Nat.le_of_not_lt fun hg => lin [i2, (i2 - 1), v] [(1, (.a (.v 2) (.n 1)), (.v 0)), (1, (.v 0), (.a (.v 1) (.n 1))), (1, (.a (.v 1) (.n 1)), (.v 2))] rfl h5 (sub_lo (i2) (1)) hg) hz') (l3' u h3 h4)
     have hv : ∀ v, v < k2 → v < b.size → O.kle (tk key b v) (tk key a (i2 - 1)) := fun v h4 h5 => KeyOrd.kle_of_klt (l2' v h4)
     have hj1 : 1 < j' - 1 := by exact Nat.lt_of_not_le fun hg => Or.elim (Nat.lt_or_gt_of_ne e5) (fun hs0 => lin [j', (j' - 1)] [(1, (.a (.n 1) (.n 1)), (.v 0)), (1, (.v 0), (.a (.v 1) (.n 1))), (1, (.a (.v 1) (.n 1)), (.n 1))] rfl hj' (sub_lo (j') (1)) hs0) (fun hs0 => lin [(j' - 1)] [(1, (.v 0), (.n 1)), (1, (.a (.n 1) (.n 1)), (.v 0))] rfl hg hs0)
     have hj12 : j' - 1 ≤ b.size := by exact Nat.le_of_lt hjb
     have hm1 : i2 - 1 + (j' - 1) + 1 ≤ N := by exact Nat.le_of_not_lt fun hg => lin [j', (j' - 1), i2, N, (i2 - 1)] [(1, (.a (.a (.v 2) (.v 0)) (.n 1)), (.v 3)), (1, (.a (.v 1) (.n 1)), (.v 0)), (1, (.a (.v 4) (.n 1)), (.v 2)), (1, (.a (.v 3) (.n 1)), (.a (.a (.v 4) (.v 1)) (.n 1)))] rfl hzr (sub_hi (Nat.le_of_not_lt fun hg => lin [j'] [(1, (.a (.n 1) (.n 1)), (.v 0)), (1, (.a (.v 0) (.n 1)), (.n 1))] rfl hj' hg)) (sub_hi (Nat.le_of_not_lt fun hg => lin [i2] [(1, (.a (.n 0) (.n 1)), (.v 0)), (1, (.a (.v 0) (.n 1)), (.n 1))] rfl hz hg)) hg
     clear l2 l3 l2' l3' e5
     subst hK
     dsimp only
     generalize o2.push b[j' - 1] = o1 at hM2 hMm ⊢
     generalize j' - 1 = j1 at hM2 hMm hj1 hj12 hm1 l1 ⊢
     generalize hd2 : j1 - k2 = d2
     refine' ts_ifF (fun j2 o3 => MidH key a b o3 i2 j2 ∧ 1 < j2 ∧ j2 ≤ b.size ∧ i2 - 1 + j2 + 1 ≤ N ∧ ∀ v, v < j2 → v < b.size → O.kle (tk key b v) (tk key a (i2 - 1))) j1 o1 ?he ?_ (fun hk K => ?_) (fun hk => ⟨hM2, hj1, hj12, hm1, fun v h4 h5 => hv v (by omega) h5⟩)
     case he => apply Eq.refl
     ·clear hM2 hv hMm hj1 hj12 hm1 l1 hd2
      rintro j2 o3 ⟨hM3, hj3, hj4, hm2, hw⟩
      have hM5 := hM3.pushA sa hz hz2 hw
      refine wpS_bind (ts_elem hz' ?_)
      refine ts_if (fun e7 => ?_) (fun e7 => ?_)
      ·simp only [beq_iff_eq] at e7
       exact wpS_pure ⟨hS4 _, .inl ⟨_, _, hM5.done sa sb (.inl e7)⟩⟩
      simp only [beq_iff_eq] at e7
      have hi5 : 0 < i2 - 1 := Nat.pos_of_ne_zero e7
      exact ts_if (fun _ => wpS_pure ⟨hS4 _, .inr ⟨_, _, _, _, hM5, hi5, Nat.le_of_lt hz', hj3, hj4, hm2⟩⟩) fun _ => wpS_pure ⟨hS4 _, _, _, _, _, hM5, hi5, Nat.le_of_lt hz', hj3, hj4, hm2⟩
     ·refine ts_if (fun e6 => ?_) (fun e6 => ?_)
      ·simp only [beq_iff_eq] at e6
       exact wpS_pure ⟨hS4 _, .inl ⟨_, _, hMm.first sa sb e6 h1⟩⟩
      refine ts_if (fun e9 => ?_) (fun e9 => ?_)
      ·simp only [beq_iff_eq] at e9
       exact wpS_pure ⟨hS4 _, .inl ⟨_, _, hMm.done sa sb (.inr e9)⟩⟩
      simp only [beq_iff_eq] at e6 e9
      exact K k2 _ ⟨hMm, by exact Nat.lt_of_not_le fun hg => Or.elim (Nat.lt_or_gt_of_ne e6) (fun hs0 => Or.elim (Nat.lt_or_gt_of_ne e9) (fun hs1 => lin [k2] [(1, (.a (.v 0) (.n 1)), (.n 0))] rfl hs1) (fun hs1 => lin [k2] [(1, (.a (.v 0) (.n 1)), (.n 1)), (1, (.a (.n 0) (.n 1)), (.v 0))] rfl hs0 hs1)) (fun hs0 => lin [k2] [(1, (.v 0), (.n 1)), (1, (.a (.n 1) (.n 1)), (.v 0))] rfl hg hs0), by exact Nat.le_trans l1 hj12, by exact Nat.le_of_not_lt fun hg => lin [N, (i2 - 1), j1, k2] [(1, (.a (.a (.v 1) (.v 2)) (.n 1)), (.v 0)), (1, (.v 3), (.v 2)), (1, (.a (.v 0) (.n 1)), (.a (.a (.v 1) (.v 3)) (.n 1)))] rfl hm1 l1 hg, hv⟩
    ·have hMz := hM'.appA sa hk1 hi2' hk3'
     refine ts_if (fun e3 => ?_) (fun e3 => ?_)
     ·simp only [beq_iff_eq] at e3
      exact wpS_pure ⟨hS4 _, .inl ⟨_, _, hMz.done sa sb (.inl e3)⟩⟩
     simp only [beq_iff_eq] at e3
     exact K k _ ⟨hMz, by exact Nat.pos_of_ne_zero e3, by exact Nat.le_trans hk1 hi2', by exact Nat.le_of_not_lt fun hg => lin [i', j', N, k] [(1, (.a (.a (.v 0) (.v 1)) (.n 1)), (.v 2)), (1, (.v 3), (.v 0)), (1, (.a (.v 2) (.n 1)), (.a (.a (.v 3) (.v 1)) (.n 1)))] rfl hr' hk1 hg, hk2'⟩
end walk
end Mine
end
noncomputable section
namespace Mine
open PySem PyProof.Rows
section pure
variable {O : KeyOrd} {key : Keyed → O.α}
theorem fold_set (o : Nat) : ∀ (l : List Keyed) (d : Nat) (arr : Array Keyed), o + d + l.length ≤ arr.size →
  ((l.zipIdx d).foldl (fun a (pj : Keyed × Nat) => a.setIfInBounds (o + pj.2) pj.1) arr).toList = arr.toList.take (o + d) ++ (l ++ arr.toList.drop (o + d + l.length))
 | [], d, arr, h => by simp
 | x :: l, d, arr, h => by
  rw [List.zipIdx_cons, List.foldl_cons]
  simp only [List.length_cons] at h
  rw [fold_set o l (d + 1) _ (by rw [Array.size_setIfInBounds]; exact Nat.le_of_not_lt fun hg => lin [o, d, (l.length), (arr.size)] [(1, (.a (.a (.v 0) (.v 1)) (.a (.v 2) (.n 1))), (.v 3)), (1, (.a (.v 3) (.n 1)), (.a (.a (.v 0) (.a (.v 1) (.n 1))) (.v 2)))] rfl h hg)]
  rw [Array.toList_setIfInBounds]
  have hl : arr.toList.length = arr.size := Array.length_toList
  rw [List.take_set, List.drop_set_of_lt (by exact Nat.le_add_right _ _), show o + (d + 1) = o + d + 1 by exact rfl]
  rw [List.take_add_one, List.getElem?_eq_getElem (by exact Nat.lt_of_le_of_lt (Nat.le_add_right _ _) h), List.set_append]
  simp only [Option.toList_some, List.length_take, List.length_cons]
  rw [if_neg (by exact fun hg => lin [o, d, (min (o + d) arr.toList.length)] [(1, (.v 2), (.a (.v 0) (.v 1))), (1, (.a (.a (.v 0) (.v 1)) (.n 1)), (.v 2))] rfl (Nat.min_le_left (o + d) (arr.toList.length)) hg), show o + d - min (o + d) arr.toList.length = 0 by exact Nat.le_antisymm (Nat.le_of_not_lt fun hg => Or.elim (sub_or (o + d) (min (o + d) arr.toList.length)) (fun hs0 => Or.elim (min_or (o + d) (arr.toList.length)) (fun hs1 => lin [o, d, (o + d - min (o + d) arr.toList.length), (min (o + d) arr.toList.length)] [(1, (.a (.v 2) (.v 3)), (.a (.v 0) (.v 1))), (1, (.a (.n 0) (.n 1)), (.v 2)), (1, (.a (.v 0) (.v 1)), (.v 3))] rfl (sub_hi (Nat.le_of_not_lt fun hg => lin [o, d, (min (o + d) arr.toList.length)] [(1, (.v 2), (.a (.v 0) (.v 1))), (1, (.a (.a (.v 0) (.v 1)) (.n 1)), (.v 2))] rfl (Nat.min_le_left (o + d) (arr.toList.length)) hg)) hg hs1) (fun hs1 => lin [o, d, (l.length), (arr.size), (o + d - min (o + d) arr.toList.length), (min (o + d) arr.toList.length)] [(1, (.a (.a (.v 0) (.v 1)) (.a (.v 2) (.n 1))), (.v 3)), (1, (.a (.v 4) (.v 5)), (.a (.v 0) (.v 1))), (1, (.a (.n 0) (.n 1)), (.v 4)), (1, (.v 3), (.v 5))] rfl h (sub_hi (Nat.le_of_not_lt fun hg => lin [o, d, (min (o + d) arr.toList.length)] [(1, (.v 2), (.a (.v 0) (.v 1))), (1, (.a (.a (.v 0) (.v 1)) (.n 1)), (.v 2))] rfl (Nat.min_le_left (o + d) (arr.toList.length)) hg)) hg hs1)) (fun hs0 => lin [(o + d - min (o + d) arr.toList.length)] [(1, (.a (.n 0) (.n 1)), (.v 0)), (1, (.v 0), (.n 0))] rfl hg (Nat.le_of_eq hs0))) (Nat.le_of_not_lt fun hg => lin [o, d, (o + d - min (o + d) arr.toList.length), (min (o + d) arr.toList.length)] [(1, (.v 3), (.a (.v 0) (.v 1))), (1, (.a (.v 0) (.v 1)), (.a (.v 2) (.v 3))), (1, (.a (.v 2) (.n 1)), (.n 0))] rfl (Nat.min_le_left (o + d) (arr.toList.length)) (sub_lo (o + d) (min (o + d) arr.toList.length)) hg)]
  simp only [List.set_cons_zero, List.append_assoc, List.cons_append, List.nil_append]
  rw [show o + d + 1 + l.length = o + d + (l.length + 1) by exact Nat.add_right_comm _ _ _]
theorem mid_get {arr arr' : Array Keyed} {M : List Keyed} {i j : Nat} (e : arr'.toList = arr.toList.take i ++ (M ++ arr.toList.drop j)) (hij : i ≤ j) (hj : j ≤ arr.size) (hM : M.length = j - i) (p : Nat) :
  arr'[p]? = if p < i then arr[p]? else if p < j then M[p - i]? else arr[p]? := by
 have hl : arr.toList.length = arr.size := Array.length_toList
 rw [← Array.getElem?_toList, e, List.getElem?_append]
 simp only [List.length_take, hl]
 rw [show min i arr.size = i by exact Nat.le_antisymm (Nat.le_of_not_lt fun hg => lin [i, (min i arr.size)] [(1, (.v 1), (.v 0)), (1, (.a (.v 0) (.n 1)), (.v 1))] rfl (Nat.min_le_left (i) (arr.size)) hg) (Nat.le_of_not_lt fun hg => Or.elim (sub_or (j) (i)) (fun hs0 => Or.elim (min_or (i) (arr.size)) (fun hs1 => lin [i, (min i arr.size)] [(1, (.a (.v 1) (.n 1)), (.v 0)), (1, (.v 0), (.v 1))] rfl hg hs1) (fun hs1 => lin [i, j, (arr.size), (min i arr.size)] [(1, (.v 0), (.v 1)), (1, (.v 1), (.v 2)), (1, (.a (.v 3) (.n 1)), (.v 0)), (1, (.v 2), (.v 3))] rfl hij hj hg hs1)) (fun hs0 => Or.elim (min_or (i) (arr.size)) (fun hs1 => lin [i, (min i arr.size)] [(1, (.a (.v 1) (.n 1)), (.v 0)), (1, (.v 0), (.v 1))] rfl hg hs1) (fun hs1 => lin [i, j, (arr.size), (min i arr.size)] [(1, (.v 0), (.v 1)), (1, (.v 1), (.v 2)), (1, (.a (.v 3) (.n 1)), (.v 0)), (1, (.v 2), (.v 3))] rfl hij hj hg hs1)))]
 split
 ·rename_i h
  rw [List.getElem?_take_of_lt h, Array.getElem?_toList]
 ·rw [List.getElem?_append, hM]
  split
  ·rename_i h h'
   rw [if_pos (by exact Nat.lt_of_not_le fun hg => lin [i, j, (j - i), p, (p - i)] [(1, (.a (.v 4) (.n 1)), (.v 2)), (1, (.a (.v 2) (.v 0)), (.v 1)), (1, (.v 3), (.a (.v 4) (.v 0))), (1, (.v 1), (.v 3))] rfl h' (sub_hi (Nat.le_of_not_lt fun hg => lin [i, j] [(1, (.v 0), (.v 1)), (1, (.a (.v 1) (.n 1)), (.v 0))] rfl hij hg)) (sub_lo (p) (i)) hg)]
  ·rename_i h h'
   rw [if_neg (by exact fun hg => lin [i, j, (j - i), p, (p - i)] [(1, (.v 2), (.v 4)), (1, (.v 1), (.a (.v 2) (.v 0))), (1, (.a (.v 4) (.v 0)), (.v 3)), (1, (.a (.v 3) (.n 1)), (.v 1))] rfl (Nat.le_of_not_lt h') (sub_lo (j) (i)) (sub_hi (Nat.le_of_not_lt fun hg => lin [i, p] [(1, (.v 0), (.v 1)), (1, (.a (.v 1) (.n 1)), (.v 0))] rfl (Nat.le_of_not_lt h) hg)) hg), List.getElem?_drop, Array.getElem?_toList]
   congr 1
   exact Nat.le_antisymm (Nat.le_of_not_lt fun hg => lin [i, j, (j - i), p, (p - i), (p - i - (j - i))] [(1, (.v 1), (.a (.v 2) (.v 0))), (1, (.a (.v 4) (.v 0)), (.v 3)), (1, (.a (.v 5) (.v 2)), (.v 4)), (1, (.a (.v 3) (.n 1)), (.a (.v 1) (.v 5)))] rfl (sub_lo (j) (i)) (sub_hi (Nat.le_of_not_lt fun hg => lin [i, p] [(1, (.v 0), (.v 1)), (1, (.a (.v 1) (.n 1)), (.v 0))] rfl (Nat.le_of_not_lt h) hg)) (sub_hi (Nat.le_of_not_lt fun hg => lin [(j - i), (p - i)] [(1, (.v 0), (.v 1)), (1, (.a (.v 1) (.n 1)), (.v 0))] rfl (Nat.le_of_not_lt h') hg)) hg) (Nat.le_of_not_lt fun hg => lin [i, j, (j - i), p, (p - i), (p - i - (j - i))] [(1, (.a (.v 2) (.v 0)), (.v 1)), (1, (.v 3), (.a (.v 4) (.v 0))), (1, (.v 4), (.a (.v 5) (.v 2))), (1, (.a (.a (.v 1) (.v 5)) (.n 1)), (.v 3))] rfl (sub_hi (Nat.le_of_not_lt fun hg => lin [i, j] [(1, (.v 0), (.v 1)), (1, (.a (.v 1) (.n 1)), (.v 0))] rfl hij hg)) (sub_lo (p) (i)) (sub_lo (p - i) (j - i)) hg)
theorem cut_three {arr : Array Keyed} {i j k : Nat} (hij : i ≤ j) (hjk : j ≤ k) : arr.toList = arr.toList.take i ++ ((arr.extract i j).toList ++ (arr.extract j k).toList ++ arr.toList.drop k) := by
 have h1 := take_ext (arr := arr) hij
 have h2 := take_ext (arr := arr) hjk
 rw [List.append_assoc, ← List.append_assoc, ← h1, ← List.append_assoc, ← h2, List.take_append_drop]
theorem tk_ext {arr : Array Keyed} {i j p : Nat} (hp : i + p < j) (hj : j ≤ arr.size) : tk key (arr.extract i j) p = tk key arr (i + p) := by
 apply tk_congr
 rw [Array.getElem?_extract, if_pos (by exact Nat.lt_of_not_le fun hg => Or.elim (sub_or (min j arr.size) (i)) (fun hs0 => Or.elim (min_or (j) (arr.size)) (fun hs1 => lin [i, p, j, (min j arr.size - i), (min j arr.size)] [(1, (.a (.a (.v 0) (.v 1)) (.n 1)), (.v 2)), (1, (.v 4), (.a (.v 3) (.v 0))), (1, (.v 3), (.v 1)), (1, (.v 2), (.v 4))] rfl hp (sub_lo (min j arr.size) (i)) hg hs1) (fun hs1 => lin [i, p, j, (arr.size), (min j arr.size - i), (min j arr.size)] [(1, (.a (.a (.v 0) (.v 1)) (.n 1)), (.v 2)), (1, (.v 2), (.v 3)), (1, (.v 5), (.a (.v 4) (.v 0))), (1, (.v 4), (.v 1)), (1, (.v 3), (.v 5))] rfl hp hj (sub_lo (min j arr.size) (i)) hg hs1)) (fun hs0 => Or.elim (min_or (j) (arr.size)) (fun hs1 => lin [i, p, j, (min j arr.size - i), (min j arr.size)] [(1, (.a (.a (.v 0) (.v 1)) (.n 1)), (.v 2)), (1, (.v 4), (.a (.v 3) (.v 0))), (1, (.v 3), (.v 1)), (1, (.v 2), (.v 4))] rfl hp (sub_lo (min j arr.size) (i)) hg hs1) (fun hs1 => lin [i, p, j, (arr.size), (min j arr.size - i), (min j arr.size)] [(1, (.a (.a (.v 0) (.v 1)) (.n 1)), (.v 2)), (1, (.v 2), (.v 3)), (1, (.v 5), (.a (.v 4) (.v 0))), (1, (.v 4), (.v 1)), (1, (.v 3), (.v 5))] rfl hp hj (sub_lo (min j arr.size) (i)) hg hs1)))]
end pure
section walk
variable {prog : Program} {w : World} {A : Around} {E : Value → Shared → Prop} {s : Shared} {kd : SortKind} {O : KeyOrd} {key : Keyed → O.α} {a₀ : Array Keyed}
theorem ts_set {st st' : SortSt} {Q : PUnit → SortSt → Prop} (h : Q ⟨⟩ st') : wpS (model prog w) A E s (set st' : StateT SortSt Sem PUnit) Q st := by
 unfold wpS; rw [StateT.run_set]; exact wpAny_pure ⟨rfl, h⟩
theorem ts_mergeAt {st : SortSt} {i : Nat} {p1 p2 : List (Nat × Nat × Nat)} {sa na pw sb nb pw2 : Nat} {Q : Bool → SortSt → Prop} (hL : LtOk prog w A E s kd O key a₀) (hB : SB kd a₀ st)
  (hp : (pendingOf st).toList = p1 ++ (sa, na, pw) :: (sb, nb, pw2) :: p2) (hi : i = p1.length) (hsb : sb = sa + na) (hna : 0 < na) (hnb : 0 < nb) (hsz : sb + nb ≤ a₀.size)
  (h1 : SIn key (arrOf st) sa sb) (h2 : SIn key (arrOf st) sb (sb + nb))
  (h : ∀ st', SB kd a₀ st' → (pendingOf st').toList = p1 ++ (sa, na + nb, pw) :: p2 → (∀ k, k < sa ∨ sb + nb ≤ k → (arrOf st')[k]? = (arrOf st)[k]?) → SIn key (arrOf st') sa (sb + nb) → Q true st') :
  wpS (model prog w) A E s (mergeAt' i) Q st := by
 have hsize := hB.size
 have hmem : ∀ x ∈ (arrOf st).toList, x ∈ a₀.toList := fun x hx => (Array.perm_iff_toList_perm.mp hB.perm).mem_iff.mp hx
 have q1 : (pendingOf st)[i]? = some (sa, na, pw) := by
  rw [← Array.getElem?_toList, hp, hi, List.getElem?_append_right (Nat.le_refl _)]; simp
 have q2 : (pendingOf st)[i + 1]? = some (sb, nb, pw2) := by
  rw [← Array.getElem?_toList, hp, hi, List.getElem?_append_right (by exact Nat.le_add_right _ _)]; simp
 have hpend : (((pendingOf st).setIfInBounds i (sa, na + nb, pw)).eraseIdxIfInBounds (i + 1)).toList = p1 ++ (sa, na + nb, pw) :: p2 := by
  rw [Array.toList_eraseIdxIfInBounds, Array.toList_setIfInBounds, hp, hi, List.set_append_right _ _ (Nat.le_refl _), List.eraseIdx_append_of_length_le (by exact Nat.le_add_right _ _)]
  simp
 unfold mergeAt'
 refine wpS_bind (wpS_get ?_)
 dsimp only
 rw [q1, q2]
 dsimp only
 refine wpS_bind (ts_set ?_)
 have hsbs : sb < (arrOf st).size := by exact Nat.lt_of_not_le fun hg => lin [sb, nb, (a₀.size), ((arrOf st).size)] [(1, (.a (.n 0) (.n 1)), (.v 1)), (1, (.a (.v 0) (.v 1)), (.v 2)), (1, (.v 2), (.v 3)), (1, (.v 3), (.v 0))] rfl hnb hsz (Nat.le_of_eq (Eq.symm hsize)) hg
 have bn1 : sa + na ≤ (arrOf st).size := by exact Nat.le_of_not_lt fun hg => lin [sb, sa, na, nb, (a₀.size), ((arrOf st).size)] [(1, (.a (.v 1) (.v 2)), (.v 0)), (1, (.a (.n 0) (.n 1)), (.v 3)), (1, (.a (.v 0) (.v 3)), (.v 4)), (1, (.v 4), (.v 5)), (1, (.a (.v 5) (.n 1)), (.a (.v 1) (.v 2)))] rfl (Nat.le_of_eq (Eq.symm hsb)) hnb hsz (Nat.le_of_eq (Eq.symm hsize)) hg
 have bn2 : sb + nb ≤ (arrOf st).size := by exact Nat.le_trans hsz (Nat.le_of_eq hsize.symm)
 refine wpS_bind (ts_elem hsbs ?_)
 refine wpS_bind (ts_gallop (left := false) (n := na) (hint := 0) hL (hmem _ (by simp)) hmem bn1 hna hB.kind (bey_mono (by rw [← hsb]; exact h1)) fun k hk1 hk2 hk3 => ?_)
 dsimp only
 have hk2' : ∀ u, sa ≤ u → u < sa + k → O.kle (tk key (arrOf st) u) (tk key (arrOf st) sb) := fun u h3 h4 => by
  have := bey_right.1 (hk2 (u - sa) (by exact Nat.lt_of_not_le fun hg => lin [sa, k, u, (u - sa)] [(1, (.a (.v 2) (.n 1)), (.a (.v 0) (.v 1))), (1, (.a (.v 3) (.v 0)), (.v 2)), (1, (.v 1), (.v 3))] rfl h4 (sub_hi (Nat.le_of_not_lt fun hg => lin [sa, u] [(1, (.v 0), (.v 1)), (1, (.a (.v 1) (.n 1)), (.v 0))] rfl h3 hg)) hg))
  rwa [show sa + (u - sa) = u by exact Nat.add_sub_cancel' h3, ← tk_get (key := key) hsbs] at this
 have hk3' : ∀ u, sa + k ≤ u → u < sb → O.klt (tk key (arrOf st) sb) (tk key (arrOf st) u) := fun u h3 h4 => by
  have := bey_right.2 (hk3 (u - sa) (by exact Nat.le_of_not_lt fun hg => lin [sa, k, u, (u - sa)] [(1, (.a (.v 0) (.v 1)), (.v 2)), (1, (.v 2), (.a (.v 3) (.v 0))), (1, (.a (.v 3) (.n 1)), (.v 1))] rfl h3 (sub_lo (u) (sa)) hg) (by exact Nat.lt_of_not_le fun hg => lin [sb, sa, na, u, (u - sa)] [(1, (.v 0), (.a (.v 1) (.v 2))), (1, (.a (.v 3) (.n 1)), (.v 0)), (1, (.a (.v 4) (.v 1)), (.v 3)), (1, (.v 2), (.v 4))] rfl (Nat.le_of_eq hsb) h4 (sub_hi (Nat.le_of_not_lt fun hg => lin [sa, k, u] [(1, (.a (.v 0) (.v 1)), (.v 2)), (1, (.a (.v 2) (.n 1)), (.v 0))] rfl h3 hg)) hg))
  rwa [show sa + (u - sa) = u by exact Nat.le_antisymm (Nat.le_of_not_lt fun hg => lin [sa, u, (u - sa)] [(1, (.a (.v 2) (.v 0)), (.v 1)), (1, (.a (.v 1) (.n 1)), (.a (.v 0) (.v 2)))] rfl (sub_hi (Nat.le_of_not_lt fun hg => lin [sa, k, u] [(1, (.a (.v 0) (.v 1)), (.v 2)), (1, (.a (.v 2) (.n 1)), (.v 0))] rfl h3 hg)) hg) (Nat.le_of_not_lt fun hg => lin [sa, u, (u - sa)] [(1, (.v 1), (.a (.v 2) (.v 0))), (1, (.a (.a (.v 0) (.v 2)) (.n 1)), (.v 1))] rfl (sub_lo (u) (sa)) hg), ← tk_get (key := key) hsbs] at this
 refine ts_if (fun e1 => ?_) (fun e1 => ?_)
 ·simp only [beq_iff_eq] at e1
  refine wpS_pure (h _ ⟨hB.perm, hB.kind, hB.failed⟩ hpend (fun _ _ => rfl) fun p q hp1 hpq hq => ?_)
  show O.kle (tk key (arrOf st) p) (tk key (arrOf st) q)
  by_cases hq2 : q < sb
  ·exact h1 p q hp1 hpq hq2
  ·by_cases hp2 : p < sb
   ·exact KeyOrd.kle_trans (hk2' p hp1 (by exact Nat.lt_of_not_le fun hg => lin [sb, sa, na, k, (na - k), p] [(1, (.v 0), (.a (.v 1) (.v 2))), (1, (.v 4), (.n 0)), (1, (.a (.v 5) (.n 1)), (.v 0)), (1, (.v 2), (.a (.v 4) (.v 3))), (1, (.a (.v 1) (.v 3)), (.v 5))] rfl (Nat.le_of_eq hsb) (Nat.le_of_eq e1) hp2 (sub_lo (na) (k)) hg)) (h2 sb q (Nat.le_refl _) (by exact Nat.le_of_not_lt hq2) hq)
   ·exact h2 p q (by exact Nat.le_of_not_lt hp2) hpq hq
 simp only [beq_iff_eq] at e1
 have hlast : sa + k + (na - k) - 1 < (arrOf st).size := by exact Nat.lt_of_not_le fun hg => lin [sb, sa, na, nb, (a₀.size), ((arrOf st).size), k, (na - k), (sa + k + (na - k) - 1)] [(1, (.a (.v 1) (.v 2)), (.v 0)), (1, (.a (.n 0) (.n 1)), (.v 3)), (1, (.a (.v 0) (.v 3)), (.v 4)), (1, (.v 4), (.v 5)), (1, (.a (.v 7) (.v 6)), (.v 2)), (1, (.a (.v 8) (.n 1)), (.a (.a (.v 1) (.v 6)) (.v 7))), (1, (.v 5), (.v 8))] rfl (Nat.le_of_eq (Eq.symm hsb)) hnb hsz (Nat.le_of_eq (Eq.symm hsize)) (sub_hi (Nat.le_of_not_lt fun hg => lin [na, k] [(1, (.v 1), (.v 0)), (1, (.a (.v 0) (.n 1)), (.v 1))] rfl hk1 hg)) (sub_hi (Nat.le_of_not_lt fun hg => lin [sa, na, k, (na - k)] [(1, (.a (.n 0) (.n 1)), (.v 1)), (1, (.v 1), (.a (.v 3) (.v 2))), (1, (.a (.a (.a (.v 0) (.v 2)) (.v 3)) (.n 1)), (.n 1))] rfl hna (sub_lo (na) (k)) hg)) hg
 have elast : sa + k + (na - k) - 1 = sb - 1 := by exact Nat.le_antisymm (Nat.le_of_not_lt fun hg => lin [sb, sa, na, k, (na - k), (sa + k + (na - k) - 1), (sb - 1)] [(1, (.a (.v 1) (.v 2)), (.v 0)), (1, (.a (.v 4) (.v 3)), (.v 2)), (1, (.a (.v 5) (.n 1)), (.a (.a (.v 1) (.v 3)) (.v 4))), (1, (.v 0), (.a (.v 6) (.n 1))), (1, (.a (.v 6) (.n 1)), (.v 5))] rfl (Nat.le_of_eq (Eq.symm hsb)) (sub_hi (Nat.le_of_not_lt fun hg => lin [na, k] [(1, (.v 1), (.v 0)), (1, (.a (.v 0) (.n 1)), (.v 1))] rfl hk1 hg)) (sub_hi (Nat.le_of_not_lt fun hg => lin [sa, na, k, (na - k)] [(1, (.a (.n 0) (.n 1)), (.v 1)), (1, (.v 1), (.a (.v 3) (.v 2))), (1, (.a (.a (.a (.v 0) (.v 2)) (.v 3)) (.n 1)), (.n 1))] rfl hna (sub_lo (na) (k)) hg)) (sub_lo (sb) (1)) hg) (Nat.le_of_not_lt fun hg => lin [sb, sa, na, k, (na - k), (sa + k + (na - k) - 1), (sb - 1)] [(1, (.v 0), (.a (.v 1) (.v 2))), (1, (.v 2), (.a (.v 4) (.v 3))), (1, (.a (.a (.v 1) (.v 3)) (.v 4)), (.a (.v 5) (.n 1))), (1, (.a (.v 6) (.n 1)), (.v 0)), (1, (.a (.v 5) (.n 1)), (.v 6))] rfl (Nat.le_of_eq hsb) (sub_lo (na) (k)) (sub_lo (sa + k + (na - k)) (1)) (sub_hi (Nat.le_of_not_lt fun hg => lin [sb, sa, na] [(1, (.a (.v 1) (.v 2)), (.v 0)), (1, (.a (.n 0) (.n 1)), (.v 2)), (1, (.a (.v 0) (.n 1)), (.n 1))] rfl (Nat.le_of_eq (Eq.symm hsb)) hna hg)) hg)
 refine wpS_bind (ts_elem hlast ?_)
 refine wpS_bind (ts_gallop (left := true) (n := nb) (hint := nb - 1) hL (hmem _ (by simp)) hmem bn2 (by exact Nat.sub_lt hnb Nat.one_pos) hB.kind (bey_mono h2) fun k2 l1 l2 l3 => ?_)
 dsimp only
 have l2' : ∀ u, sb ≤ u → u < sb + k2 → O.klt (tk key (arrOf st) u) (tk key (arrOf st) (sb - 1)) := fun u h3 h4 => by
  have := bey_left.1 (l2 (u - sb) (by exact Nat.lt_of_not_le fun hg => lin [sb, k2, u, (u - sb)] [(1, (.a (.v 2) (.n 1)), (.a (.v 0) (.v 1))), (1, (.a (.v 3) (.v 0)), (.v 2)), (1, (.v 1), (.v 3))] rfl h4 (sub_hi (Nat.le_of_not_lt fun hg => lin [sb, u] [(1, (.v 0), (.v 1)), (1, (.a (.v 1) (.n 1)), (.v 0))] rfl h3 hg)) hg))
  rwa [show sb + (u - sb) = u by exact Nat.add_sub_cancel' h3, ← tk_get (key := key) hlast, elast] at this
 have l3' : ∀ u, sb + k2 ≤ u → u < sb + nb → O.kle (tk key (arrOf st) (sb - 1)) (tk key (arrOf st) u) := fun u h3 h4 => by
  have := bey_left.2 (l3 (u - sb) (by exact Nat.le_of_not_lt fun hg => lin [sb, k2, u, (u - sb)] [(1, (.a (.v 0) (.v 1)), (.v 2)), (1, (.v 2), (.a (.v 3) (.v 0))), (1, (.a (.v 3) (.n 1)), (.v 1))] rfl h3 (sub_lo (u) (sb)) hg) (by exact Nat.lt_of_not_le fun hg => lin [sb, nb, u, (u - sb)] [(1, (.a (.v 2) (.n 1)), (.a (.v 0) (.v 1))), (1, (.a (.v 3) (.v 0)), (.v 2)), (1, (.v 1), (.v 3))] rfl h4 (sub_hi (Nat.le_of_not_lt fun hg => lin [sb, k2, u] [(1, (.a (.v 0) (.v 1)), (.v 2)), (1, (.a (.v 2) (.n 1)), (.v 0))] rfl h3 hg)) hg))
  rwa [show sb + (u - sb) = u by exact Nat.le_antisymm (Nat.le_of_not_lt fun hg => lin [sb, u, (u - sb)] [(1, (.a (.v 2) (.v 0)), (.v 1)), (1, (.a (.v 1) (.n 1)), (.a (.v 0) (.v 2)))] rfl (sub_hi (Nat.le_of_not_lt fun hg => lin [sb, k2, u] [(1, (.a (.v 0) (.v 1)), (.v 2)), (1, (.a (.v 2) (.n 1)), (.v 0))] rfl h3 hg)) hg) (Nat.le_of_not_lt fun hg => lin [sb, u, (u - sb)] [(1, (.v 1), (.a (.v 2) (.v 0))), (1, (.a (.a (.v 0) (.v 2)) (.n 1)), (.v 1))] rfl (sub_lo (u) (sb)) hg), ← tk_get (key := key) hlast, elast] at this
 refine ts_if (fun e2 => ?_) (fun e2 => ?_)
 ·simp only [beq_iff_eq] at e2
  refine wpS_pure (h _ ⟨hB.perm, hB.kind, hB.failed⟩ hpend (fun _ _ => rfl) fun p q hp1 hpq hq => ?_)
  show O.kle (tk key (arrOf st) p) (tk key (arrOf st) q)
  by_cases hq2 : q < sb
  ·exact h1 p q hp1 hpq hq2
  ·by_cases hp2 : p < sb
   ·exact KeyOrd.kle_trans (h1 p (sb - 1) hp1 (by exact Nat.le_of_not_lt fun hg => lin [sb, sa, na, k, (na - k), (sa + k + (na - k) - 1), (sb - 1), p] [(1, (.v 0), (.a (.v 1) (.v 2))), (1, (.v 5), (.v 6)), (1, (.a (.v 7) (.n 1)), (.v 0)), (1, (.v 2), (.a (.v 4) (.v 3))), (1, (.a (.a (.v 1) (.v 3)) (.v 4)), (.a (.v 5) (.n 1))), (1, (.a (.v 6) (.n 1)), (.v 7))] rfl (Nat.le_of_eq hsb) (Nat.le_of_eq elast) hp2 (sub_lo (na) (k)) (sub_lo (sa + k + (na - k)) (1)) hg) (by exact Nat.lt_of_not_le fun hg => lin [sb, sa, na, k, (na - k), (sa + k + (na - k) - 1), (sb - 1)] [(1, (.a (.v 1) (.v 2)), (.v 0)), (1, (.v 6), (.v 5)), (1, (.a (.v 4) (.v 3)), (.v 2)), (1, (.a (.v 5) (.n 1)), (.a (.a (.v 1) (.v 3)) (.v 4))), (1, (.v 0), (.v 6))] rfl (Nat.le_of_eq (Eq.symm hsb)) (Nat.le_of_eq (Eq.symm elast)) (sub_hi (Nat.le_of_not_lt fun hg => lin [na, k] [(1, (.v 1), (.v 0)), (1, (.a (.v 0) (.n 1)), (.v 1))] rfl hk1 hg)) (sub_hi (Nat.le_of_not_lt fun hg => lin [sa, na, k, (na - k)] [(1, (.a (.n 0) (.n 1)), (.v 1)), (1, (.v 1), (.a (.v 3) (.v 2))), (1, (.a (.a (.a (.v 0) (.v 2)) (.v 3)) (.n 1)), (.n 1))] rfl hna (sub_lo (na) (k)) hg)) hg)) (l3' q (by exact Nat.le_of_not_lt fun hg => lin [sb, k2, q] [(1, (.v 1), (.n 0)), (1, (.v 0), (.v 2)), (1, (.a (.v 2) (.n 1)), (.a (.v 0) (.v 1)))] rfl (Nat.le_of_eq e2) (Nat.le_of_not_lt hq2) hg) hq)
   ·exact h2 p q (by exact Nat.le_of_not_lt hp2) hpq hq
 simp only [beq_iff_eq] at e2
 have hxs : ((arrOf st).extract (sa + k) sb).size = sb - (sa + k) := by rw [Array.size_extract]; exact Nat.le_antisymm (Nat.le_of_not_lt fun hg => Or.elim (Nat.lt_or_gt_of_ne e1) (fun hs0 => lin [na, k, (na - k)] [(1, (.v 1), (.v 0)), (1, (.v 0), (.a (.v 2) (.v 1))), (1, (.a (.v 2) (.n 1)), (.n 0))] rfl hk1 (sub_lo (na) (k)) hs0) (fun hs0 => Or.elim (sub_or (min sb (arrOf st).size) (sa + k)) (fun hs1 => lin [sb, sa, k, (min sb (arrOf st).size - (sa + k)), (sb - (sa + k)), (min sb (arrOf st).size)] [(1, (.v 5), (.v 0)), (1, (.v 0), (.a (.v 4) (.a (.v 1) (.v 2)))), (1, (.a (.v 4) (.n 1)), (.v 3)), (1, (.a (.v 3) (.a (.v 1) (.v 2))), (.v 5))] rfl (Nat.min_le_left (sb) ((arrOf st).size)) (sub_lo (sb) (sa + k)) hg (Nat.le_of_eq hs1)) (fun hs1 => lin [sb, sa, na, k, (na - k), (min sb (arrOf st).size - (sa + k)), (sb - (sa + k))] [(1, (.a (.v 1) (.v 2)), (.v 0)), (1, (.a (.v 4) (.v 3)), (.v 2)), (1, (.v 0), (.a (.v 6) (.a (.v 1) (.v 3)))), (1, (.a (.v 6) (.n 1)), (.v 5)), (1, (.a (.n 0) (.n 1)), (.v 4)), (1, (.v 5), (.n 0))] rfl (Nat.le_of_eq (Eq.symm hsb)) (sub_hi (Nat.le_of_not_lt fun hg => lin [na, k] [(1, (.v 1), (.v 0)), (1, (.a (.v 0) (.n 1)), (.v 1))] rfl hk1 hg)) (sub_lo (sb) (sa + k)) hg hs0 (Nat.le_of_eq hs1)))) (Nat.le_of_not_lt fun hg => Or.elim (Nat.lt_or_gt_of_ne e1) (fun hs0 => lin [na, k, (na - k)] [(1, (.v 1), (.v 0)), (1, (.v 0), (.a (.v 2) (.v 1))), (1, (.a (.v 2) (.n 1)), (.n 0))] rfl hk1 (sub_lo (na) (k)) hs0) (fun hs0 => Or.elim (min_or (sb) ((arrOf st).size)) (fun hs1 => lin [sb, sa, k, (min sb (arrOf st).size - (sa + k)), (sb - (sa + k)), (min sb (arrOf st).size)] [(1, (.v 5), (.a (.v 3) (.a (.v 1) (.v 2)))), (1, (.a (.v 4) (.a (.v 1) (.v 2))), (.v 0)), (1, (.a (.v 3) (.n 1)), (.v 4)), (1, (.v 0), (.v 5))] rfl (sub_lo (min sb (arrOf st).size) (sa + k)) (sub_hi (Nat.le_of_not_lt fun hg => lin [sb, sa, na, k] [(1, (.a (.v 1) (.v 2)), (.v 0)), (1, (.v 3), (.v 2)), (1, (.a (.v 0) (.n 1)), (.a (.v 1) (.v 3)))] rfl (Nat.le_of_eq (Eq.symm hsb)) hk1 hg)) hg hs1) (fun hs1 => lin [sb, nb, (a₀.size), ((arrOf st).size), (min sb (arrOf st).size)] [(1, (.a (.n 0) (.n 1)), (.v 1)), (1, (.a (.v 0) (.v 1)), (.v 2)), (1, (.v 2), (.v 3)), (1, (.v 4), (.v 0)), (1, (.v 3), (.v 4))] rfl hnb hsz (Nat.le_of_eq (Eq.symm hsize)) (Nat.min_le_left (sb) ((arrOf st).size)) hs1)))
 have hys : ((arrOf st).extract sb (sb + k2)).size = k2 := by rw [Array.size_extract]; exact Nat.le_antisymm (Nat.le_of_not_lt fun hg => Or.elim (Nat.lt_or_gt_of_ne e1) (fun hs0 => lin [na, k, (na - k)] [(1, (.v 1), (.v 0)), (1, (.v 0), (.a (.v 2) (.v 1))), (1, (.a (.v 2) (.n 1)), (.n 0))] rfl hk1 (sub_lo (na) (k)) hs0) (fun hs0 => Or.elim (sub_or (min (sb + k2) (arrOf st).size) (sb)) (fun hs1 => lin [sb, k2, (min (sb + k2) (arrOf st).size - sb), (min (sb + k2) (arrOf st).size)] [(1, (.v 3), (.a (.v 0) (.v 1))), (1, (.a (.v 1) (.n 1)), (.v 2)), (1, (.a (.v 2) (.v 0)), (.v 3))] rfl (Nat.min_le_left (sb + k2) ((arrOf st).size)) hg (Nat.le_of_eq hs1)) (fun hs1 => lin [k2, (min (sb + k2) (arrOf st).size - sb)] [(1, (.a (.v 0) (.n 1)), (.v 1)), (1, (.v 1), (.n 0))] rfl hg (Nat.le_of_eq hs1)))) (Nat.le_of_not_lt fun hg => Or.elim (Nat.lt_or_gt_of_ne e1) (fun hs0 => lin [na, k, (na - k)] [(1, (.v 1), (.v 0)), (1, (.v 0), (.a (.v 2) (.v 1))), (1, (.a (.v 2) (.n 1)), (.n 0))] rfl hk1 (sub_lo (na) (k)) hs0) (fun hs0 => Or.elim (min_or (sb + k2) ((arrOf st).size)) (fun hs1 => lin [sb, k2, (min (sb + k2) (arrOf st).size - sb), (min (sb + k2) (arrOf st).size)] [(1, (.v 3), (.a (.v 2) (.v 0))), (1, (.a (.v 2) (.n 1)), (.v 1)), (1, (.a (.v 0) (.v 1)), (.v 3))] rfl (sub_lo (min (sb + k2) (arrOf st).size) (sb)) hg hs1) (fun hs1 => lin [sb, nb, (a₀.size), ((arrOf st).size), k2, (min (sb + k2) (arrOf st).size - sb), (min (sb + k2) (arrOf st).size)] [(1, (.a (.v 0) (.v 1)), (.v 2)), (1, (.v 2), (.v 3)), (1, (.v 4), (.v 1)), (1, (.v 6), (.a (.v 5) (.v 0))), (1, (.a (.v 5) (.n 1)), (.v 4)), (1, (.v 3), (.v 6))] rfl hsz (Nat.le_of_eq (Eq.symm hsize)) l1 (sub_lo (min (sb + k2) (arrOf st).size) (sb)) hg hs1)))
 have hxm : ∀ x ∈ ((arrOf st).extract (sa + k) sb).toList, x ∈ a₀.toList := fun x hx => hmem x (by
  rw [Array.toList_extract, List.extract_eq_take_drop] at hx
  exact List.drop_subset _ _ (List.take_subset _ _ hx))
 have hym : ∀ x ∈ ((arrOf st).extract sb (sb + k2)).toList, x ∈ a₀.toList := fun x hx => hmem x (by
  rw [Array.toList_extract, List.extract_eq_take_drop] at hx
  exact List.drop_subset _ _ (List.take_subset _ _ hx))
 have hsx : Srt key ((arrOf st).extract (sa + k) sb).toList := srt_of_idx (fun p q a b c => h1 p q (by exact Nat.le_trans (Nat.le_add_right _ _) a) b c) (by exact Nat.le_of_lt hsbs)
 have hsy : Srt key ((arrOf st).extract sb (sb + k2)).toList := srt_of_idx (fun p q a b c => h2 p q a b (by exact Nat.lt_of_not_le fun hg => lin [sb, nb, k2, q] [(1, (.v 2), (.v 1)), (1, (.a (.v 3) (.n 1)), (.a (.v 0) (.v 2))), (1, (.a (.v 0) (.v 1)), (.v 3))] rfl l1 c hg)) (by exact Nat.le_of_not_lt fun hg => lin [sb, nb, (a₀.size), ((arrOf st).size), k2] [(1, (.a (.v 0) (.v 1)), (.v 2)), (1, (.v 2), (.v 3)), (1, (.v 4), (.v 1)), (1, (.a (.v 3) (.n 1)), (.a (.v 0) (.v 4)))] rfl hsz (Nat.le_of_eq (Eq.symm hsize)) l1 hg)
 have hfst : ∀ i, i < ((arrOf st).extract (sa + k) sb).size → O.kle (tk key ((arrOf st).extract sb (sb + k2)) 0) (tk key ((arrOf st).extract (sa + k) sb) i) := fun i hi => by
  rw [hxs] at hi
  rw [tk_ext (by exact Nat.lt_of_not_le fun hg => Or.elim (Nat.lt_or_gt_of_ne e1) (fun hs0 => lin [na, k, (na - k)] [(1, (.v 1), (.v 0)), (1, (.v 0), (.a (.v 2) (.v 1))), (1, (.a (.v 2) (.n 1)), (.n 0))] rfl hk1 (sub_lo (na) (k)) hs0) (fun hs0 => Or.elim (Nat.lt_or_gt_of_ne e2) (fun hs1 => lin [k2] [(1, (.a (.v 0) (.n 1)), (.n 0))] rfl hs1) (fun hs1 => lin [sb, k2] [(1, (.a (.v 0) (.v 1)), (.a (.v 0) (.n 0))), (1, (.a (.n 0) (.n 1)), (.v 1))] rfl hg hs1))) (by exact Nat.le_of_not_lt fun hg => lin [sb, nb, (a₀.size), ((arrOf st).size), k2] [(1, (.a (.v 0) (.v 1)), (.v 2)), (1, (.v 2), (.v 3)), (1, (.v 4), (.v 1)), (1, (.a (.v 3) (.n 1)), (.a (.v 0) (.v 4)))] rfl hsz (Nat.le_of_eq (Eq.symm hsize)) l1 hg), tk_ext (by exact Nat.lt_of_not_le fun hg => lin [sb, sa, k, (sb - (sa + k)), i] [(1, (.a (.v 4) (.n 1)), (.v 3)), (1, (.a (.v 3) (.a (.v 1) (.v 2))), (.v 0)), (1, (.v 0), (.a (.a (.v 1) (.v 2)) (.v 4)))] rfl hi (sub_hi (Nat.le_of_not_lt fun hg => lin [sb, sa, na, k] [(1, (.a (.v 1) (.v 2)), (.v 0)), (1, (.v 3), (.v 2)), (1, (.a (.v 0) (.n 1)), (.a (.v 1) (.v 3)))] rfl (Nat.le_of_eq (Eq.symm hsb)) hk1 hg)) hg) (by exact Nat.le_of_lt hsbs), Nat.add_zero]
  exact KeyOrd.kle_of_klt (hk3' _ (by exact Nat.le_add_right _ _) (by exact Nat.lt_of_not_le fun hg => lin [sb, sa, k, (sb - (sa + k)), i] [(1, (.a (.v 4) (.n 1)), (.v 3)), (1, (.a (.v 3) (.a (.v 1) (.v 2))), (.v 0)), (1, (.v 0), (.a (.a (.v 1) (.v 2)) (.v 4)))] rfl hi (sub_hi (Nat.le_of_not_lt fun hg => lin [sb, sa, na, k] [(1, (.a (.v 1) (.v 2)), (.v 0)), (1, (.v 3), (.v 2)), (1, (.a (.v 0) (.n 1)), (.a (.v 1) (.v 3)))] rfl (Nat.le_of_eq (Eq.symm hsb)) hk1 hg)) hg))
 have hlst : ∀ j, j < ((arrOf st).extract sb (sb + k2)).size → O.kle (tk key ((arrOf st).extract sb (sb + k2)) j) (tk key ((arrOf st).extract (sa + k) sb) (((arrOf st).extract (sa + k) sb).size - 1)) := fun j hj => by
  rw [hys] at hj
  rw [hxs, tk_ext (by exact Nat.add_le_add_left hj _) (by exact Nat.le_of_not_lt fun hg => lin [sb, nb, (a₀.size), ((arrOf st).size), k2] [(1, (.a (.v 0) (.v 1)), (.v 2)), (1, (.v 2), (.v 3)), (1, (.v 4), (.v 1)), (1, (.a (.v 3) (.n 1)), (.a (.v 0) (.v 4)))] rfl hsz (Nat.le_of_eq (Eq.symm hsize)) l1 hg), tk_ext (by exact Nat.lt_of_not_le fun hg => Or.elim (Nat.lt_or_gt_of_ne e1) (fun hs0 => lin [na, k, (na - k)] [(1, (.v 1), (.v 0)), (1, (.v 0), (.a (.v 2) (.v 1))), (1, (.a (.v 2) (.n 1)), (.n 0))] rfl hk1 (sub_lo (na) (k)) hs0) (fun hs0 => Or.elim (sub_or (sb - (sa + k)) (1)) (fun hs1 => lin [sb, sa, k, (sb - (sa + k)), (sb - (sa + k) - 1)] [(1, (.a (.v 3) (.a (.v 1) (.v 2))), (.v 0)), (1, (.v 0), (.a (.a (.v 1) (.v 2)) (.v 4))), (1, (.a (.v 4) (.n 1)), (.v 3))] rfl (sub_hi (Nat.le_of_not_lt fun hg => lin [sb, sa, na, k] [(1, (.a (.v 1) (.v 2)), (.v 0)), (1, (.v 3), (.v 2)), (1, (.a (.v 0) (.n 1)), (.a (.v 1) (.v 3)))] rfl (Nat.le_of_eq (Eq.symm hsb)) hk1 hg)) hg (Nat.le_of_eq hs1)) (fun hs1 => lin [sb, sa, na, k, (na - k), (sb - (sa + k) - 1)] [(1, (.a (.v 1) (.v 2)), (.v 0)), (1, (.a (.v 4) (.v 3)), (.v 2)), (1, (.v 0), (.a (.a (.v 1) (.v 3)) (.v 5))), (1, (.a (.n 0) (.n 1)), (.v 4)), (1, (.v 5), (.n 0))] rfl (Nat.le_of_eq (Eq.symm hsb)) (sub_hi (Nat.le_of_not_lt fun hg => lin [na, k] [(1, (.v 1), (.v 0)), (1, (.a (.v 0) (.n 1)), (.v 1))] rfl hk1 hg)) hg hs0 (Nat.le_of_eq hs1)))) (by exact Nat.le_of_lt hsbs), show sa + k + (sb - (sa + k) - 1) = sb - 1 by exact Nat.le_antisymm (Nat.le_of_not_lt fun hg => Or.elim (Nat.lt_or_gt_of_ne e1) (fun hs0 => lin [na, k, (na - k)] [(1, (.v 1), (.v 0)), (1, (.v 0), (.a (.v 2) (.v 1))), (1, (.a (.v 2) (.n 1)), (.n 0))] rfl hk1 (sub_lo (na) (k)) hs0) (fun hs0 => Or.elim (sub_or (sb - (sa + k)) (1)) (fun hs1 => lin [sb, sa, na, k, (na - k), (sa + k + (na - k) - 1), (sb - 1), (sb - (sa + k)), (sb - (sa + k) - 1)] [(1, (.v 0), (.a (.v 1) (.v 2))), (1, (.v 5), (.v 6)), (1, (.v 2), (.a (.v 4) (.v 3))), (1, (.a (.a (.v 1) (.v 3)) (.v 4)), (.a (.v 5) (.n 1))), (1, (.a (.v 7) (.a (.v 1) (.v 3))), (.v 0)), (1, (.a (.v 6) (.n 1)), (.a (.a (.v 1) (.v 3)) (.v 8))), (1, (.a (.v 8) (.n 1)), (.v 7))] rfl (Nat.le_of_eq hsb) (Nat.le_of_eq elast) (sub_lo (na) (k)) (sub_lo (sa + k + (na - k)) (1)) (sub_hi (Nat.le_of_not_lt fun hg => lin [sb, sa, na, k] [(1, (.a (.v 1) (.v 2)), (.v 0)), (1, (.v 3), (.v 2)), (1, (.a (.v 0) (.n 1)), (.a (.v 1) (.v 3)))] rfl (Nat.le_of_eq (Eq.symm hsb)) hk1 hg)) hg (Nat.le_of_eq hs1)) (fun hs1 => lin [sa, k, (na - k), (sa + k + (na - k) - 1), (sb - 1), (sb - (sa + k) - 1)] [(1, (.v 3), (.v 4)), (1, (.a (.a (.v 0) (.v 1)) (.v 2)), (.a (.v 3) (.n 1))), (1, (.a (.v 4) (.n 1)), (.a (.a (.v 0) (.v 1)) (.v 5))), (1, (.a (.n 0) (.n 1)), (.v 2)), (1, (.v 5), (.n 0))] rfl (Nat.le_of_eq elast) (sub_lo (sa + k + (na - k)) (1)) hg hs0 (Nat.le_of_eq hs1)))) (Nat.le_of_not_lt fun hg => lin [sb, sa, na, k, (na - k), (sa + k + (na - k) - 1), (sb - 1), (sb - (sa + k)), (sb - (sa + k) - 1)] [(1, (.a (.v 1) (.v 2)), (.v 0)), (1, (.v 6), (.v 5)), (1, (.a (.v 4) (.v 3)), (.v 2)), (1, (.a (.v 5) (.n 1)), (.a (.a (.v 1) (.v 3)) (.v 4))), (1, (.v 0), (.a (.v 7) (.a (.v 1) (.v 3)))), (1, (.v 7), (.a (.v 8) (.n 1))), (1, (.a (.a (.a (.v 1) (.v 3)) (.v 8)) (.n 1)), (.v 6))] rfl (Nat.le_of_eq (Eq.symm hsb)) (Nat.le_of_eq (Eq.symm elast)) (sub_hi (Nat.le_of_not_lt fun hg => lin [na, k] [(1, (.v 1), (.v 0)), (1, (.a (.v 0) (.n 1)), (.v 1))] rfl hk1 hg)) (sub_hi (Nat.le_of_not_lt fun hg => lin [sa, na, k, (na - k)] [(1, (.a (.n 0) (.n 1)), (.v 1)), (1, (.v 1), (.a (.v 3) (.v 2))), (1, (.a (.a (.a (.v 0) (.v 2)) (.v 3)) (.n 1)), (.n 1))] rfl hna (sub_lo (na) (k)) hg)) (sub_lo (sb) (sa + k)) (sub_lo (sb - (sa + k)) (1)) hg)]
  exact KeyOrd.kle_of_klt (l2' _ (by exact Nat.le_add_right _ _) (by exact Nat.add_le_add_left hj _))
 have fin : ∀ (m : Array Keyed) (st' : SortSt), Good key ((arrOf st).extract (sa + k) sb) ((arrOf st).extract sb (sb + k2)) m →
   Same (SortSt.mk' (kindOf st) (arrOf st) (((pendingOf st).setIfInBounds i (sa, na + nb, pw)).eraseIdxIfInBounds (i + 1)) (gallopOf st) (failedOf st)) st' →
   failedOf st' = none ∧ Q true (setArr st' (m.toList.zipIdx.foldl (fun a (pj : Keyed × Nat) => a.setIfInBounds (sa + k + pj.2) pj.1) (arrOf st'))) := by
  intro m st' hG hS
  have hf : failedOf st' = none := hS.failed.trans hB.failed
  have ha' : arrOf st' = arrOf st := hS.arr
  have hlen : m.toList.length = sb + k2 - (sa + k) := by
   rw [hG.perm.length_eq, List.length_append, Array.length_toList, Array.length_toList, hxs, hys]; exact Nat.le_antisymm (Nat.le_of_not_lt fun hg => lin [sb, sa, k, k2, (sb - (sa + k)), (sb + k2 - (sa + k))] [(1, (.a (.v 4) (.a (.v 1) (.v 2))), (.v 0)), (1, (.a (.v 0) (.v 3)), (.a (.v 5) (.a (.v 1) (.v 2)))), (1, (.a (.v 5) (.n 1)), (.a (.v 4) (.v 3)))] rfl (sub_hi (Nat.le_of_not_lt fun hg => lin [sb, sa, na, k] [(1, (.a (.v 1) (.v 2)), (.v 0)), (1, (.v 3), (.v 2)), (1, (.a (.v 0) (.n 1)), (.a (.v 1) (.v 3)))] rfl (Nat.le_of_eq (Eq.symm hsb)) hk1 hg)) (sub_lo (sb + k2) (sa + k)) hg) (Nat.le_of_not_lt fun hg => lin [sb, sa, k, k2, (sb - (sa + k)), (sb + k2 - (sa + k))] [(1, (.v 0), (.a (.v 4) (.a (.v 1) (.v 2)))), (1, (.a (.v 5) (.a (.v 1) (.v 2))), (.a (.v 0) (.v 3))), (1, (.a (.a (.v 4) (.v 3)) (.n 1)), (.v 5))] rfl (sub_lo (sb) (sa + k)) (sub_hi (Nat.le_of_not_lt fun hg => lin [sb, sa, na, k, k2] [(1, (.a (.v 1) (.v 2)), (.v 0)), (1, (.v 3), (.v 2)), (1, (.a (.a (.v 0) (.v 4)) (.n 1)), (.a (.v 1) (.v 3)))] rfl (Nat.le_of_eq (Eq.symm hsb)) hk1 hg)) hg)
  have hl := fold_set (sa + k) m.toList 0 (arrOf st') (by rw [ha', hlen]; exact Nat.le_of_not_lt fun hg => lin [sb, sa, nb, (a₀.size), ((arrOf st).size), k, k2, (sb + k2 - (sa + k))] [(1, (.a (.v 0) (.v 2)), (.v 3)), (1, (.v 3), (.v 4)), (1, (.v 6), (.v 2)), (1, (.a (.v 7) (.a (.v 1) (.v 5))), (.a (.v 0) (.v 6))), (1, (.a (.v 4) (.n 1)), (.a (.a (.a (.v 1) (.v 5)) (.n 0)) (.v 7)))] rfl hsz (Nat.le_of_eq (Eq.symm hsize)) l1 (sub_hi (Nat.le_of_not_lt fun hg => lin [sb, sa, na, k, k2] [(1, (.a (.v 1) (.v 2)), (.v 0)), (1, (.v 3), (.v 2)), (1, (.a (.a (.v 0) (.v 4)) (.n 1)), (.a (.v 1) (.v 3)))] rfl (Nat.le_of_eq (Eq.symm hsb)) hk1 hg)) hg)
  rw [ha', hlen, Nat.add_zero, show sa + k + (sb + k2 - (sa + k)) = sb + k2 by exact Nat.le_antisymm (Nat.le_of_not_lt fun hg => lin [sb, sa, k, k2, (sb + k2 - (sa + k))] [(1, (.a (.v 4) (.a (.v 1) (.v 2))), (.a (.v 0) (.v 3))), (1, (.a (.a (.v 0) (.v 3)) (.n 1)), (.a (.a (.v 1) (.v 2)) (.v 4)))] rfl (sub_hi (Nat.le_of_not_lt fun hg => lin [sb, sa, na, k, k2] [(1, (.a (.v 1) (.v 2)), (.v 0)), (1, (.v 3), (.v 2)), (1, (.a (.a (.v 0) (.v 4)) (.n 1)), (.a (.v 1) (.v 3)))] rfl (Nat.le_of_eq (Eq.symm hsb)) hk1 hg)) hg) (Nat.le_of_not_lt fun hg => lin [sb, sa, k, k2, (sb + k2 - (sa + k))] [(1, (.a (.v 0) (.v 3)), (.a (.v 4) (.a (.v 1) (.v 2)))), (1, (.a (.a (.a (.v 1) (.v 2)) (.v 4)) (.n 1)), (.a (.v 0) (.v 3)))] rfl (sub_lo (sb + k2) (sa + k)) hg)] at hl
  have hget := mid_get hl (by exact Nat.le_of_not_lt fun hg => lin [sb, sa, na, k, k2] [(1, (.a (.v 1) (.v 2)), (.v 0)), (1, (.v 3), (.v 2)), (1, (.a (.a (.v 0) (.v 4)) (.n 1)), (.a (.v 1) (.v 3)))] rfl (Nat.le_of_eq (Eq.symm hsb)) hk1 hg) (by exact Nat.le_of_not_lt fun hg => lin [sb, nb, (a₀.size), ((arrOf st).size), k2] [(1, (.a (.v 0) (.v 1)), (.v 2)), (1, (.v 2), (.v 3)), (1, (.v 4), (.v 1)), (1, (.a (.v 3) (.n 1)), (.a (.v 0) (.v 4)))] rfl hsz (Nat.le_of_eq (Eq.symm hsize)) l1 hg) hlen
  have hmid : ∀ p, sa + k ≤ p → p < sb + k2 → ∃ x r, m.toList[p - (sa + k)]? = some x ∧ sa + k ≤ r ∧ r < sb + k2 ∧ key x = tk key (arrOf st) r := by
   intro p h3 h4
   have hlt : p - (sa + k) < m.toList.length := by exact Nat.lt_of_not_le fun hg => lin [sb, sa, k, k2, (m.toList.length), (sb + k2 - (sa + k)), p, (p - (sa + k))] [(1, (.v 5), (.v 4)), (1, (.a (.v 6) (.n 1)), (.a (.v 0) (.v 3))), (1, (.a (.v 0) (.v 3)), (.a (.v 5) (.a (.v 1) (.v 2)))), (1, (.a (.v 7) (.a (.v 1) (.v 2))), (.v 6)), (1, (.v 4), (.v 7))] rfl (Nat.le_of_eq (Eq.symm hlen)) h4 (sub_lo (sb + k2) (sa + k)) (sub_hi (Nat.le_of_not_lt fun hg => lin [sa, k, p] [(1, (.a (.v 0) (.v 1)), (.v 2)), (1, (.a (.v 2) (.n 1)), (.a (.v 0) (.v 1)))] rfl h3 hg)) hg
   have hx : m.toList[p - (sa + k)] ∈ m.toList := List.getElem_mem hlt
   rcases List.mem_append.mp (hG.perm.mem_iff.mp hx) with hx | hx
   ·obtain ⟨r, a1, a2, a3, e⟩ := mem_ext (key := key) hx
    exact ⟨_, r, List.getElem?_eq_getElem hlt, a1, by exact Nat.le_trans a2 (Nat.le_add_right _ _), e⟩
   ·obtain ⟨r, a1, a2, a3, e⟩ := mem_ext (key := key) hx
    exact ⟨_, r, List.getElem?_eq_getElem hlt, by exact Nat.le_of_not_lt fun hg => lin [sb, sa, na, k, r] [(1, (.a (.v 1) (.v 2)), (.v 0)), (1, (.v 3), (.v 2)), (1, (.v 0), (.v 4)), (1, (.a (.v 4) (.n 1)), (.a (.v 1) (.v 3)))] rfl (Nat.le_of_eq (Eq.symm hsb)) hk1 a1 hg, a2, e⟩
  refine ⟨hf, h _ ⟨?_, hS.kind.trans hB.kind, hf⟩ ?_ ?_ ?_⟩
  ·refine Array.Perm.trans (Array.perm_iff_toList_perm.mpr ?_) hB.perm
   show List.Perm (Array.toList (List.foldl _ (arrOf st') _)) _
   rw [ha', hl]
   rw [cut_three (arr := arrOf st) (i := sa + k) (j := sb) (k := sb + k2) (by exact Nat.le_of_not_lt fun hg => lin [sb, sa, na, k] [(1, (.a (.v 1) (.v 2)), (.v 0)), (1, (.v 3), (.v 2)), (1, (.a (.v 0) (.n 1)), (.a (.v 1) (.v 3)))] rfl (Nat.le_of_eq (Eq.symm hsb)) hk1 hg) (by exact Nat.le_add_right _ _)]
   have e1 : ((arrOf st).toList.take (sa + k) ++ (((arrOf st).extract (sa + k) sb).toList ++ ((arrOf st).extract sb (sb + k2)).toList ++ (arrOf st).toList.drop (sb + k2))).take (sa + k) = (arrOf st).toList.take (sa + k) := by
    rw [← cut_three (by exact Nat.le_of_not_lt fun hg => lin [sb, sa, na, k] [(1, (.a (.v 1) (.v 2)), (.v 0)), (1, (.v 3), (.v 2)), (1, (.a (.v 0) (.n 1)), (.a (.v 1) (.v 3)))] rfl (Nat.le_of_eq (Eq.symm hsb)) hk1 hg) (by exact Nat.le_add_right _ _)]
   have e2 : ((arrOf st).toList.take (sa + k) ++ (((arrOf st).extract (sa + k) sb).toList ++ ((arrOf st).extract sb (sb + k2)).toList ++ (arrOf st).toList.drop (sb + k2))).drop (sb + k2) = (arrOf st).toList.drop (sb + k2) := by
    rw [← cut_three (by exact Nat.le_of_not_lt fun hg => lin [sb, sa, na, k] [(1, (.a (.v 1) (.v 2)), (.v 0)), (1, (.v 3), (.v 2)), (1, (.a (.v 0) (.n 1)), (.a (.v 1) (.v 3)))] rfl (Nat.le_of_eq (Eq.symm hsb)) hk1 hg) (by exact Nat.le_add_right _ _)]
   rw [e1, e2]
   exact List.Perm.append_left _ (List.Perm.append_right _ hG.perm)
  ·show (pendingOf st').toList = _
   rw [hS.pend]
   exact hpend
  ·intro q hq
   show (List.foldl _ (arrOf st') _)[q]? = _
   rw [ha', hget q]
   rcases hq with hq | hq
   ·rw [if_pos (by exact Nat.le_trans hq (Nat.le_add_right _ _))]
   ·rw [if_neg (by exact fun hg => lin [sb, sa, na, nb, k, q] [(1, (.a (.v 1) (.v 2)), (.v 0)), (1, (.a (.n 0) (.n 1)), (.v 3)), (1, (.v 4), (.v 2)), (1, (.a (.v 0) (.v 3)), (.v 5)), (1, (.a (.v 5) (.n 1)), (.a (.v 1) (.v 4)))] rfl (Nat.le_of_eq (Eq.symm hsb)) hnb hk1 hq hg), if_neg (by exact fun hg => lin [sb, nb, k2, q] [(1, (.v 2), (.v 1)), (1, (.a (.v 0) (.v 1)), (.v 3)), (1, (.a (.v 3) (.n 1)), (.a (.v 0) (.v 2)))] rfl l1 hq hg)]
  ·intro p q hp1 hpq hq
   show O.kle (tk key (List.foldl _ (arrOf st') _) p) (tk key (List.foldl _ (arrOf st') _) q)
   rw [ha']
   have tlow : ∀ p, p < sa + k → tk key (List.foldl (fun a (pj : Keyed × Nat) => a.setIfInBounds (sa + k + pj.2) pj.1) (arrOf st) m.toList.zipIdx) p = tk key (arrOf st) p := fun p hp => tk_congr (by rw [hget p, if_pos hp])
   have thigh : ∀ p, sb + k2 ≤ p → tk key (List.foldl (fun a (pj : Keyed × Nat) => a.setIfInBounds (sa + k + pj.2) pj.1) (arrOf st) m.toList.zipIdx) p = tk key (arrOf st) p := fun p hp => tk_congr (by rw [hget p, if_neg (by exact fun hg => lin [sb, sa, na, k, k2, p] [(1, (.a (.v 1) (.v 2)), (.v 0)), (1, (.v 3), (.v 2)), (1, (.a (.v 0) (.v 4)), (.v 5)), (1, (.a (.v 5) (.n 1)), (.a (.v 1) (.v 3)))] rfl (Nat.le_of_eq (Eq.symm hsb)) hk1 hp hg), if_neg (by exact Nat.not_lt_of_le hp)])
   have tmid : ∀ p x, sa + k ≤ p → p < sb + k2 → m.toList[p - (sa + k)]? = some x → tk key (List.foldl (fun a (pj : Keyed × Nat) => a.setIfInBounds (sa + k + pj.2) pj.1) (arrOf st) m.toList.zipIdx) p = key x := fun p x a1 a2 e => by
    unfold tk
    rw [hget p, if_neg (by exact Nat.not_lt_of_le a1), if_pos a2, e]
    rfl
   by_cases c1 : q < sa + k
   ·rw [tlow p (by exact Nat.lt_of_le_of_lt hpq c1), tlow q c1]
    exact h1 p q hp1 hpq (by exact Nat.lt_of_not_le fun hg => lin [sb, sa, na, k, q] [(1, (.a (.v 1) (.v 2)), (.v 0)), (1, (.v 3), (.v 2)), (1, (.a (.v 4) (.n 1)), (.a (.v 1) (.v 3))), (1, (.v 0), (.v 4))] rfl (Nat.le_of_eq (Eq.symm hsb)) hk1 c1 hg)
   by_cases c2 : q < sb + k2
   ·obtain ⟨y, r, ey, r1, r2, ek⟩ := hmid q (by exact Nat.le_of_not_lt c1) c2
    rw [tmid q y (by exact Nat.le_of_not_lt c1) c2 ey]
    by_cases c3 : p < sa + k
    ·rw [tlow p c3, ek]
     by_cases c4 : r < sb
     ·exact h1 p r hp1 (by exact Nat.le_of_lt (Nat.lt_of_lt_of_le c3 r1)) c4
     ·exact KeyOrd.kle_trans (hk2' p hp1 c3) (h2 sb r (Nat.le_refl _) (by exact Nat.le_of_not_lt c4) (by exact Nat.lt_of_not_le fun hg => lin [sb, nb, k2, r] [(1, (.v 2), (.v 1)), (1, (.a (.v 3) (.n 1)), (.a (.v 0) (.v 2))), (1, (.a (.v 0) (.v 1)), (.v 3))] rfl l1 r2 hg))
    ·obtain ⟨x, r', ex, r1', r2', ek'⟩ := hmid p (by exact Nat.le_of_not_lt c3) (by exact Nat.lt_of_le_of_lt hpq c2)
     rw [tmid p x (by exact Nat.le_of_not_lt c3) (by exact Nat.lt_of_le_of_lt hpq c2) ex]
     by_cases c5 : p = q
     ·subst c5
      rw [ex] at ey
      cases ey
      exact KeyOrd.kle_refl _
     ·have hp3 : p - (sa + k) < m.toList.length := by exact Nat.lt_of_not_le fun hg => lin [sb, sa, k, k2, (m.toList.length), (sb + k2 - (sa + k)), p, q, (p - (sa + k))] [(1, (.v 5), (.v 4)), (1, (.v 6), (.v 7)), (1, (.a (.v 7) (.n 1)), (.a (.v 0) (.v 3))), (1, (.a (.v 0) (.v 3)), (.a (.v 5) (.a (.v 1) (.v 2)))), (1, (.a (.v 8) (.a (.v 1) (.v 2))), (.v 6)), (1, (.v 4), (.v 8))] rfl (Nat.le_of_eq (Eq.symm hlen)) hpq c2 (sub_lo (sb + k2) (sa + k)) (sub_hi (Nat.le_of_not_lt fun hg => lin [sa, k, p] [(1, (.a (.v 0) (.v 1)), (.v 2)), (1, (.a (.v 2) (.n 1)), (.a (.v 0) (.v 1)))] rfl (Nat.le_of_not_lt c3) hg)) hg
      have hq3 : q - (sa + k) < m.toList.length := by exact Nat.lt_of_not_le fun hg => lin [sb, sa, k, k2, (m.toList.length), (sb + k2 - (sa + k)), q, (q - (sa + k))] [(1, (.v 5), (.v 4)), (1, (.a (.v 6) (.n 1)), (.a (.v 0) (.v 3))), (1, (.a (.v 0) (.v 3)), (.a (.v 5) (.a (.v 1) (.v 2)))), (1, (.a (.v 7) (.a (.v 1) (.v 2))), (.v 6)), (1, (.v 4), (.v 7))] rfl (Nat.le_of_eq (Eq.symm hlen)) c2 (sub_lo (sb + k2) (sa + k)) (sub_hi (Nat.le_of_not_lt fun hg => lin [sa, k, q] [(1, (.a (.v 0) (.v 1)), (.v 2)), (1, (.a (.v 2) (.n 1)), (.a (.v 0) (.v 1)))] rfl (Nat.le_of_not_lt c1) hg)) hg
      have := List.pairwise_iff_getElem.mp hG.srt (p - (sa + k)) (q - (sa + k)) hp3 hq3 (by exact Nat.lt_of_not_le fun hg => Or.elim (Nat.lt_or_gt_of_ne e1) (fun hs0 => lin [na, k, (na - k)] [(1, (.v 1), (.v 0)), (1, (.v 0), (.a (.v 2) (.v 1))), (1, (.a (.v 2) (.n 1)), (.n 0))] rfl hk1 (sub_lo (na) (k)) hs0) (fun hs0 => Or.elim (Nat.lt_or_gt_of_ne c5) (fun hs1 => lin [sa, k, p, q, (p - (sa + k)), (q - (sa + k))] [(1, (.a (.v 4) (.a (.v 0) (.v 1))), (.v 2)), (1, (.v 3), (.a (.v 5) (.a (.v 0) (.v 1)))), (1, (.v 5), (.v 4)), (1, (.a (.v 2) (.n 1)), (.v 3))] rfl (sub_hi (Nat.le_of_not_lt fun hg => lin [sa, k, p] [(1, (.a (.v 0) (.v 1)), (.v 2)), (1, (.a (.v 2) (.n 1)), (.a (.v 0) (.v 1)))] rfl (Nat.le_of_not_lt c3) hg)) (sub_lo (q) (sa + k)) hg hs1) (fun hs1 => lin [p, q] [(1, (.v 0), (.v 1)), (1, (.a (.v 1) (.n 1)), (.v 0))] rfl hpq hs1)))
      rw [List.getElem?_eq_getElem hp3] at ex
      rw [List.getElem?_eq_getElem hq3] at ey
      rw [Option.some.inj ex, Option.some.inj ey] at this
      exact this
   ·rw [thigh q (by exact Nat.le_of_not_lt c2)]
    by_cases c3 : p < sa + k
    ·rw [tlow p c3]
     exact KeyOrd.kle_trans (hk2' p hp1 c3) (h2 sb q (Nat.le_refl _) (by exact Nat.le_of_not_lt fun hg => lin [sb, k2, q] [(1, (.a (.v 0) (.v 1)), (.v 2)), (1, (.a (.v 2) (.n 1)), (.v 0))] rfl (Nat.le_of_not_lt c2) hg) hq)
    by_cases c4 : p < sb + k2
    ·obtain ⟨x, r', ex, r1', r2', ek'⟩ := hmid p (by exact Nat.le_of_not_lt c3) c4
     rw [tmid p x (by exact Nat.le_of_not_lt c3) c4 ex, ek']
     by_cases c5 : r' < sb
     ·exact KeyOrd.kle_trans (h1 r' (sb - 1) (by exact Nat.le_trans (Nat.le_add_right _ _) r1') (by exact Nat.le_of_not_lt fun hg => lin [sb, sa, na, k, (na - k), (sa + k + (na - k) - 1), (sb - 1), r'] [(1, (.v 0), (.a (.v 1) (.v 2))), (1, (.v 5), (.v 6)), (1, (.a (.v 7) (.n 1)), (.v 0)), (1, (.v 2), (.a (.v 4) (.v 3))), (1, (.a (.a (.v 1) (.v 3)) (.v 4)), (.a (.v 5) (.n 1))), (1, (.a (.v 6) (.n 1)), (.v 7))] rfl (Nat.le_of_eq hsb) (Nat.le_of_eq elast) c5 (sub_lo (na) (k)) (sub_lo (sa + k + (na - k)) (1)) hg) (by exact Nat.lt_of_not_le fun hg => lin [sb, sa, na, k, (na - k), (sa + k + (na - k) - 1), (sb - 1)] [(1, (.a (.v 1) (.v 2)), (.v 0)), (1, (.v 6), (.v 5)), (1, (.a (.v 4) (.v 3)), (.v 2)), (1, (.a (.v 5) (.n 1)), (.a (.a (.v 1) (.v 3)) (.v 4))), (1, (.v 0), (.v 6))] rfl (Nat.le_of_eq (Eq.symm hsb)) (Nat.le_of_eq (Eq.symm elast)) (sub_hi (Nat.le_of_not_lt fun hg => lin [na, k] [(1, (.v 1), (.v 0)), (1, (.a (.v 0) (.n 1)), (.v 1))] rfl hk1 hg)) (sub_hi (Nat.le_of_not_lt fun hg => lin [sa, na, k, (na - k)] [(1, (.a (.n 0) (.n 1)), (.v 1)), (1, (.v 1), (.a (.v 3) (.v 2))), (1, (.a (.a (.a (.v 0) (.v 2)) (.v 3)) (.n 1)), (.n 1))] rfl hna (sub_lo (na) (k)) hg)) hg)) (l3' q (by exact Nat.le_of_not_lt c2) hq)
     ·exact h2 r' q (by exact Nat.le_of_not_lt c5) (by exact Nat.le_of_not_lt fun hg => lin [sb, k2, q, r'] [(1, (.a (.v 0) (.v 1)), (.v 2)), (1, (.a (.v 3) (.n 1)), (.a (.v 0) (.v 1))), (1, (.a (.v 2) (.n 1)), (.v 3))] rfl (Nat.le_of_not_lt c2) r2' hg) hq
    ·rw [thigh p (by exact Nat.le_of_not_lt c4)]
     exact h2 p q (by exact Nat.le_of_not_lt fun hg => lin [sb, k2, p] [(1, (.a (.v 0) (.v 1)), (.v 2)), (1, (.a (.v 2) (.n 1)), (.v 0))] rfl (Nat.le_of_not_lt c4) hg) hpq hq
 have bx : 0 < ((arrOf st).extract (sa + k) sb).size := by exact Nat.lt_of_not_le fun hg => Or.elim (Nat.lt_or_gt_of_ne e1) (fun hs0 => lin [na, k, (na - k)] [(1, (.v 1), (.v 0)), (1, (.v 0), (.a (.v 2) (.v 1))), (1, (.a (.v 2) (.n 1)), (.n 0))] rfl hk1 (sub_lo (na) (k)) hs0) (fun hs0 => lin [sb, sa, na, k, (na - k), (((arrOf st).extract (sa + k) sb).size), (sb - (sa + k))] [(1, (.a (.v 1) (.v 2)), (.v 0)), (1, (.v 6), (.v 5)), (1, (.a (.v 4) (.v 3)), (.v 2)), (1, (.v 0), (.a (.v 6) (.a (.v 1) (.v 3)))), (1, (.v 5), (.n 0)), (1, (.a (.n 0) (.n 1)), (.v 4))] rfl (Nat.le_of_eq (Eq.symm hsb)) (Nat.le_of_eq (Eq.symm hxs)) (sub_hi (Nat.le_of_not_lt fun hg => lin [na, k] [(1, (.v 1), (.v 0)), (1, (.a (.v 0) (.n 1)), (.v 1))] rfl hk1 hg)) (sub_lo (sb) (sa + k)) hg hs0)
 have by' : 0 < ((arrOf st).extract sb (sb + k2)).size := by exact Nat.lt_of_not_le fun hg => Or.elim (Nat.lt_or_gt_of_ne e1) (fun hs0 => lin [na, k, (na - k)] [(1, (.v 1), (.v 0)), (1, (.v 0), (.a (.v 2) (.v 1))), (1, (.a (.v 2) (.n 1)), (.n 0))] rfl hk1 (sub_lo (na) (k)) hs0) (fun hs0 => Or.elim (Nat.lt_or_gt_of_ne e2) (fun hs1 => lin [k2] [(1, (.a (.v 0) (.n 1)), (.n 0))] rfl hs1) (fun hs1 => lin [k2, (((arrOf st).extract sb (sb + k2)).size)] [(1, (.v 0), (.v 1)), (1, (.v 1), (.n 0)), (1, (.a (.n 0) (.n 1)), (.v 0))] rfl (Nat.le_of_eq (Eq.symm hys)) hg hs1))
 refine ts_if (fun e3 => ?_) (fun e3 => ?_)
 ·refine wpS_bind (ts_lo hL hxm hym hsx hsy bx by' hfst hlst hB.kind fun m st' hG hS => ?_)
  obtain ⟨hf, hq⟩ := fin m st' hG hS
  refine wpS_bind (wpS_modify ?_)
  refine wpS_bind (wpS_get (wpS_pure ?_))
  show Q (failedOf st').isNone _
  rw [hf]
  exact hq
 ·refine wpS_bind (ts_hi hL hxm hym hsx hsy bx by' hfst hlst hB.kind fun m st' hG hS => ?_)
  obtain ⟨hf, hq⟩ := fin m st' hG hS
  refine wpS_bind (wpS_modify ?_)
  refine wpS_bind (wpS_get (wpS_pure ?_))
  show Q (failedOf st').isNone _
  rw [hf]
  exact hq
end walk
end Mine
end
noncomputable section
namespace Mine
open PySem PyProof.Rows
section pure
variable {O : KeyOrd} {key : Keyed → O.α}
noncomputable def Runs (key : Keyed → O.α) (arr : Array Keyed) : List (Nat × Nat × Nat) → Nat → Nat → Prop
 | [], a, b => a = b
 | r :: rs, a, b => r.1 = a ∧ 0 < r.2.1 ∧ SIn key arr a (a + r.2.1) ∧ Runs key arr rs (a + r.2.1) b
theorem runs_app {arr : Array Keyed} : ∀ {p q : List (Nat × Nat × Nat)} {a b : Nat}, Runs key arr (p ++ q) a b ↔ ∃ c, Runs key arr p a c ∧ Runs key arr q c b
 | [], q, a, b => ⟨fun h => ⟨a, rfl, h⟩, fun ⟨c, e, h⟩ => by cases (e : a = c); exact h⟩
 | r :: p, q, a, b => by
  show (r.1 = a ∧ 0 < r.2.1 ∧ SIn key arr a (a + r.2.1) ∧ Runs key arr (p ++ q) (a + r.2.1) b) ↔ _
  rw [runs_app]
  exact ⟨fun ⟨h1, h2, h3, c, h4, h5⟩ => ⟨c, ⟨h1, h2, h3, h4⟩, h5⟩, fun ⟨c, ⟨h1, h2, h3, h4⟩, h5⟩ => ⟨h1, h2, h3, c, h4, h5⟩⟩
theorem runs_le {arr : Array Keyed} : ∀ {p : List (Nat × Nat × Nat)} {a b : Nat}, Runs key arr p a b → a + p.length ≤ b
 | [], a, b, h => by cases (h : a = b); exact Nat.le_refl _
 | r :: p, a, b, ⟨_, h2, _, h4⟩ => by
  have := runs_le h4
  rw [List.length_cons]
  omega
theorem sin_congr {arr arr' : Array Keyed} {i j : Nat} (h : SIn key arr i j) (e : ∀ k, i ≤ k → k < j → arr'[k]? = arr[k]?) : SIn key arr' i j := by
 intro p q h1 h2 h3
 rw [tk_congr (e p h1 (by exact Nat.lt_of_le_of_lt h2 h3)), tk_congr (e q (by exact Nat.le_trans h1 h2) h3)]
 exact h p q h1 h2 h3
theorem runs_congr {arr arr' : Array Keyed} : ∀ {p : List (Nat × Nat × Nat)} {a b : Nat}, Runs key arr p a b → (∀ k, a ≤ k → k < b → arr'[k]? = arr[k]?) → Runs key arr' p a b
 | [], a, b, h, _ => h
 | r :: p, a, b, ⟨h1, h2, h3, h4⟩, e => by
  have := runs_le h4
  exact ⟨h1, h2, sin_congr h3 fun k a1 a2 => e k a1 (by exact Nat.lt_of_not_le fun hg => lin [a, (r.snd.fst), (p.length), b, k] [(1, (.a (.a (.v 0) (.v 1)) (.v 2)), (.v 3)), (1, (.a (.v 4) (.n 1)), (.a (.v 0) (.v 1))), (1, (.v 3), (.v 4))] rfl this a2 hg), runs_congr h4 fun k a1 a2 => e k (by exact Nat.le_trans (Nat.le_add_right _ _) a1) a2⟩
theorem modify_last {α : Type} {f : α → α} {t : α} : ∀ (p : List α), (p ++ [t]).modify p.length f = p ++ [f t]
 | [] => rfl
 | x :: p => by
  show x :: (p ++ [t]).modify p.length f = x :: (p ++ [f t])
  rw [modify_last p]
theorem runs_pow {arr : Array Keyed} {p : List (Nat × Nat × Nat)} {a b : Nat} {s n u v : Nat} (h : Runs key arr (p ++ [(s, n, u)]) a b) : Runs key arr (p ++ [(s, n, v)]) a b := by
 rw [runs_app] at h ⊢
 exact h
end pure
section walk
variable {prog : Program} {w : World} {A : Around} {E : Value → Shared → Prop} {s : Shared} {kd : SortKind} {O : KeyOrd} {key : Keyed → O.α} {a₀ : Array Keyed}
theorem ts_mergeRun {st : SortSt} {i lo : Nat} {Q : Bool → SortSt → Prop} (hL : LtOk prog w A E s kd O key a₀) (hB : SB kd a₀ st) (hR : Runs key (arrOf st) (pendingOf st).toList 0 lo) (hlo : lo ≤ a₀.size)
  (hi : i + 1 < (pendingOf st).size)
  (h : ∀ st', SB kd a₀ st' → Runs key (arrOf st') (pendingOf st').toList 0 lo → (pendingOf st').size + 1 = (pendingOf st).size → (∀ k, lo ≤ k → (arrOf st')[k]? = (arrOf st)[k]?) → Q true st') :
  wpS (model prog w) A E s (mergeAt' i) Q st := by
 have hl : (pendingOf st).toList.length = (pendingOf st).size := Array.length_toList
 obtain ⟨p1, x, y, p2, e, e1⟩ : ∃ p1 x y p2, (pendingOf st).toList = p1 ++ x :: y :: p2 ∧ i = p1.length := by
  refine ⟨(pendingOf st).toList.take i, (pendingOf st).toList[i], (pendingOf st).toList[i + 1], (pendingOf st).toList.drop (i + 2), ?_, ?_⟩
  ·rw [List.getElem_cons_drop, List.getElem_cons_drop, List.take_append_drop]
  ·rw [List.length_take]; exact Nat.le_antisymm (Nat.le_of_not_lt fun hg => Or.elim (min_or (i) ((pendingOf st).toList.length)) (fun hs0 => lin [i, (min i (pendingOf st).toList.length)] [(1, (.a (.v 1) (.n 1)), (.v 0)), (1, (.v 0), (.v 1))] rfl hg hs0) (fun hs0 => lin [i, ((pendingOf st).size), (min i (pendingOf st).toList.length)] [(1, (.a (.a (.v 0) (.n 1)) (.n 1)), (.v 1)), (1, (.a (.v 2) (.n 1)), (.v 0)), (1, (.v 1), (.v 2))] rfl hi hg hs0)) (Nat.le_of_not_lt fun hg => lin [i, (min i (pendingOf st).toList.length)] [(1, (.v 1), (.v 0)), (1, (.a (.v 0) (.n 1)), (.v 1))] rfl (Nat.min_le_left (i) ((pendingOf st).toList.length)) hg)
 obtain ⟨sa, na, pw⟩ := x
 obtain ⟨sb, nb, pw2⟩ := y
 rw [e] at hR
 obtain ⟨c, R1, a1, a2, a3, b1, b2, b3, R2⟩ := runs_app.mp hR
 dsimp only at a1 a2 a3 b1 b2 b3 R2
 have hc := runs_le R1
 have hd := runs_le R2
 subst a1
 subst b1
 refine ts_mergeAt hL hB e e1 rfl a2 b2 (by exact Nat.le_of_not_lt fun hg => lin [lo, (a₀.size), na, nb, sa, (p2.length)] [(1, (.v 0), (.v 1)), (1, (.a (.a (.a (.v 4) (.v 2)) (.v 3)) (.v 5)), (.v 0)), (1, (.a (.v 1) (.n 1)), (.a (.a (.v 4) (.v 2)) (.v 3)))] rfl hlo hd hg) a3 b3 fun st' hB' hp' hk' hs' => h st' hB' ?_ ?_ ?_
 ·rw [hp', runs_app]
  refine ⟨sa, runs_congr R1 fun k _ h2 => hk' k (.inl h2), rfl, ?_, ?_, ?_⟩
  ·show 0 < na + nb
   exact Nat.le_trans a2 (Nat.le_add_right _ _)
  ·show SIn key (arrOf st') sa (sa + (na + nb))
   rw [← Nat.add_assoc]
   exact hs'
  ·show Runs key (arrOf st') p2 (sa + (na + nb)) lo
   rw [← Nat.add_assoc]
   exact runs_congr R2 fun k h1 _ => hk' k (.inr h1)
 ·have h1 : (pendingOf st').toList.length = (pendingOf st').size := Array.length_toList
  rw [← h1, ← hl, hp', e]
  simp
  omega
 ·exact fun k hk => hk' k (.inr (by exact Nat.le_of_not_lt fun hg => lin [lo, na, nb, sa, (p2.length), k] [(1, (.a (.a (.a (.v 3) (.v 1)) (.v 2)) (.v 4)), (.v 0)), (1, (.v 0), (.v 5)), (1, (.a (.v 5) (.n 1)), (.a (.a (.v 3) (.v 1)) (.v 2)))] rfl hd hk hg))
theorem ts_ifS {α β : Type} {st : SortSt} {c : Prop} [Decidable c] {t e : StateT SortSt Sem α} {Q : α → SortSt → Prop} {G : β → StateT SortSt Sem α} (H : β → SortSt → Prop) (x : β) (he : e = G x)
  (key : ∀ x' st', H x' st' → wpS (model prog w) A E s (G x') Q st') (h1 : c → (∀ x' st', H x' st' → wpS (model prog w) A E s (G x') Q st') → wpS (model prog w) A E s t Q st) (h2 : ¬c → H x st) :
  wpS (model prog w) A E s (if c then t else e) Q st := ts_if (fun h => h1 h key) (fun h => he ▸ key x st (h2 h))
structure RunAt (kd : SortKind) (key : Keyed → O.α) (a₀ : Array Keyed) (lo n : Nat) (st : SortSt) : Prop where
 b : SB kd a₀ st
 r : Runs key (arrOf st) (pendingOf st).toList 0 lo
 n1 : 1 ≤ n
 n2 : lo + n ≤ a₀.size
 s : SIn key (arrOf st) lo (lo + n)
structure Wait (kd : SortKind) (key : Keyed → O.α) (a₀ : Array Keyed) (lo : Nat) (st3 st4 : SortSt) : Prop where
 b : SB kd a₀ st4
 r : Runs key (arrOf st4) (pendingOf st4).toList 0 lo
 z : 0 < (pendingOf st4).size
 k : ∀ k, lo ≤ k → (arrOf st4)[k]? = (arrOf st3)[k]?
theorem ts_runs {st : SortSt} {Q : Unit → SortSt → Prop} (hL : LtOk prog w A E s kd O key a₀) (hB : SB kd a₀ st) (hP : pendingOf st = #[])
  (h : ∀ st', (arrOf st').Perm a₀ → failedOf st' = none → SIn key (arrOf st') 0 a₀.size → Q () st') : wpS (model prog w) A E s sortRuns' Q st := by
 rw [sortRuns'_eq]
 refine wpS_bind (wpS_get ?_)
 simp only [hB.size]
 generalize minRun' a₀.size a₀.size 0 = mr
 refine ts_for (fun x c st' => ∃ lo, c = (none, lo) ∧ SB kd a₀ st' ∧ Runs key (arrOf st') (pendingOf st').toList 0 lo ∧ lo ≤ a₀.size ∧ x ≤ lo)
  (fun c st' => c = (none, a₀.size) ∧ SB kd a₀ st' ∧ Runs key (arrOf st') (pendingOf st').toList 0 a₀.size) ?step ?fin ⟨0, rfl, hB, by rw [hP]; rfl, Nat.zero_le _, Nat.le_refl _⟩ ?post
 case fin =>
  rintro c st' ⟨lo, rfl, hB', hR, h1, h2⟩
  have : lo = a₀.size := by exact Nat.le_antisymm (Nat.le_of_not_lt fun hg => lin [lo, (a₀.size)] [(1, (.v 0), (.v 1)), (1, (.a (.v 1) (.n 1)), (.v 0))] rfl h1 hg) (Nat.le_of_not_lt fun hg => lin [lo, (a₀.size)] [(1, (.v 1), (.v 0)), (1, (.a (.v 0) (.n 1)), (.v 1))] rfl h2 hg)
  subst this
  exact ⟨rfl, hB', hR⟩
 case step =>
  rintro F hF x c st' ⟨lo, rfl, hB', hR, h1, h2⟩
  subst hF
  refine ts_if (fun e1 => ?_) (fun e1 => ?_)
  ·have : lo = a₀.size := by exact Nat.le_antisymm h1 e1
   subst this
   exact wpS_pure ⟨rfl, hB', hR⟩
  refine ts_bindK fun K hK => ts_count hL (by exact Nat.le_of_not_lt fun hg => lin [lo, (a₀.size), (a₀.size - (none, lo).snd)] [(1, (.a (.v 2) (.v 0)), (.v 1)), (1, (.a (.v 1) (.n 1)), (.a (.v 0) (.v 2)))] rfl (sub_hi (Nat.le_of_not_lt fun hg => lin [lo, (a₀.size)] [(1, (.v 0), (.v 1)), (1, (.a (.v 1) (.n 1)), (.v 0))] rfl h1 hg)) hg) (by omega) hB' fun m st2 hB2 hK2 hm1 hm2 hs2 => ?_
  have hR2 : Runs key (arrOf st2) (pendingOf st2).toList 0 lo := by rw [hK2.pend]; exact runs_congr hR fun k _ hk => hK2.low k hk
  have hx : x ≤ lo := h2
  clear hK2 hR hB' h2
  subst hK
  dsimp only
  refine' ts_ifS (RunAt kd key a₀ lo) m ?he ?_ (fun e2 K => ?_) (fun _ => ⟨hB2, hR2, hm1, by exact Nat.le_of_not_lt fun hg => lin [lo, (a₀.size), m, (a₀.size - (none, lo).snd)] [(1, (.v 2), (.v 3)), (1, (.a (.v 3) (.v 0)), (.v 1)), (1, (.a (.v 1) (.n 1)), (.a (.v 0) (.v 2)))] rfl hm2 (sub_hi (Nat.le_of_not_lt fun hg => lin [lo, (a₀.size)] [(1, (.v 0), (.v 1)), (1, (.a (.v 1) (.n 1)), (.v 0))] rfl h1 hg)) hg, hs2⟩)
  case he => apply Eq.refl
  ·clear hB2 hm1 hm2 hs2 hR2
   rintro n st3 ⟨hB3, hR3, hn1, hn2, hs3⟩
   refine wpS_bind (wpS_get ?_)
   cases hb : (pendingOf st3).back? with
   | none =>
    refine wpS_bind (wpS_modify (wpS_pure ⟨_, rfl, ⟨hB3.perm, hB3.kind, hB3.failed⟩, ?_, hn2, by exact Nat.le_of_not_lt fun hg => lin [lo, x, n] [(1, (.v 1), (.v 0)), (1, (.n 1), (.v 2)), (1, (.a (.a (.v 0) (.v 2)) (.n 1)), (.a (.v 1) (.n 1)))] rfl hx hn1 hg⟩))
    show Runs key (arrOf st3) ((pendingOf st3).push _).toList 0 _
    rw [Array.toList_push, runs_app]
    exact ⟨lo, hR3, rfl, hn1, hs3, rfl⟩
   | some t =>
    obtain ⟨s1, n1, o1⟩ := t
    refine ts_for (fun y c st4 => c = (none, ()) ∧ Wait kd key a₀ lo st3 st4) (fun c st4 => c = (none, ()) ∧ Wait kd key a₀ lo st3 st4) ?_ (fun _ _ hh => hh) ⟨rfl, hB3, hR3, ?_, fun _ _ => rfl⟩ ?_
    ·rintro F hF y c st4 ⟨rfl, hW⟩
     subst hF
     refine wpS_bind (wpS_get ?_)
     by_cases hz : (pendingOf st4).size > 1
     ·rw [if_pos hz, getElem?_pos (pendingOf st4) ((pendingOf st4).size - 2) (by exact Nat.lt_of_not_le fun hg => lin [((pendingOf st4).size), ((pendingOf st4).size - 2)] [(1, (.a (.v 1) (.n 2)), (.v 0)), (1, (.v 0), (.v 1))] rfl (sub_hi (Nat.le_of_not_lt fun hg => lin [((pendingOf st4).size)] [(1, (.a (.n 1) (.n 1)), (.v 0)), (1, (.a (.v 0) (.n 1)), (.n 2))] rfl hz hg)) hg)]
      refine ts_if (fun e5 => wpS_pure ⟨rfl, hW⟩) (fun e5 => ?_)
      refine wpS_bind (ts_mergeRun hL hW.b hW.r h1 (by exact Nat.lt_of_not_le fun hg => lin [((pendingOf st4).size), ((pendingOf st4).size - 2)] [(1, (.a (.v 1) (.n 2)), (.v 0)), (1, (.v 0), (.a (.v 1) (.n 1)))] rfl (sub_hi (Nat.le_of_not_lt fun hg => lin [((pendingOf st4).size)] [(1, (.a (.n 1) (.n 1)), (.v 0)), (1, (.a (.v 0) (.n 1)), (.n 2))] rfl hz hg)) hg) fun st5 hB5 hR5 hz5 hk5 => ?_)
      exact wpS_pure ⟨rfl, hB5, hR5, by exact Nat.lt_of_not_le fun hg => lin [((pendingOf st4).size), ((pendingOf st5).size)] [(1, (.a (.n 1) (.n 1)), (.v 0)), (1, (.v 0), (.a (.v 1) (.n 1))), (1, (.v 1), (.n 0))] rfl hz (Nat.le_of_eq (Eq.symm hz5)) hg, fun k hk => (hk5 k hk).trans (hW.k k hk)⟩
     ·rw [if_neg hz]
      exact wpS_pure ⟨rfl, hW⟩
    ·rcases Nat.eq_zero_or_pos (pendingOf st3).size with h0 | h0
     ·rw [Array.eq_empty_of_size_eq_zero h0] at hb; simp at hb
     ·exact h0
    ·rintro K hK c st4 ⟨rfl, hB4, hR4, hz4, hk4⟩
     subst hK
     refine wpS_bind (wpS_modify ?_)
     refine wpS_bind (wpS_modify (wpS_pure ⟨_, rfl, ⟨hB4.perm, hB4.kind, hB4.failed⟩, ?_, hn2, by exact Nat.le_of_not_lt fun hg => lin [lo, x, n] [(1, (.v 1), (.v 0)), (1, (.n 1), (.v 2)), (1, (.a (.a (.v 0) (.v 2)) (.n 1)), (.a (.v 1) (.n 1)))] rfl hx hn1 hg⟩))
     show Runs key (arrOf st4) (Array.push (Array.modify (pendingOf st4) ((pendingOf st4).size - 1) _) _).toList 0 _
     rw [Array.toList_push, runs_app]
     refine ⟨lo, ?_, rfl, hn1, sin_congr hs3 fun k hk _ => hk4 k hk, rfl⟩
     have hl : (pendingOf st4).toList.length = (pendingOf st4).size := Array.length_toList
     obtain ⟨p, t, et⟩ : ∃ p t, (pendingOf st4).toList = p ++ [t] := by
      have hne' : (pendingOf st4).toList ≠ [] := fun h0 => by rw [h0] at hl; simp at hl; exact lin [((pendingOf st4).size)] [(1, (.a (.n 0) (.n 1)), (.v 0)), (1, (.v 0), (.n 0))] rfl hz4 (Nat.le_of_eq (Eq.symm hl))
      exact ⟨_, _, (List.dropLast_concat_getLast hne').symm⟩
     rw [Array.toList_modify, ← hl, et, List.length_append, List.length_singleton, Nat.add_sub_cancel]
     obtain ⟨u, v, z⟩ := t
     rw [et] at hR4
     rw [modify_last]
     exact runs_pow hR4
  ·refine wpS_bind (wpS_lift (wpAny_rule ⟨rfl, ?_⟩))
   refine wpS_bind (ts_bin hL (by omega) (by exact Nat.le_of_not_lt fun hg => Or.elim (sub_or (a₀.size) ((none, lo).snd)) (fun hs0 => Or.elim (min_or (a₀.size - lo) (mr)) (fun hs1 => lin [m, (a₀.size - (none, lo).snd), (min (a₀.size - lo) mr)] [(1, (.v 0), (.v 1)), (1, (.a (.v 2) (.n 1)), (.v 0)), (1, (.v 1), (.v 2))] rfl hm2 hg hs1) (fun hs1 => lin [m, mr, (min (a₀.size - lo) mr)] [(1, (.a (.v 0) (.n 1)), (.v 1)), (1, (.a (.v 2) (.n 1)), (.v 0)), (1, (.v 1), (.v 2))] rfl e2 hg hs1)) (fun hs0 => lin [m, (a₀.size - (none, lo).snd)] [(1, (.n 1), (.v 0)), (1, (.v 0), (.v 1)), (1, (.v 1), (.n 0))] rfl hm1 hm2 (Nat.le_of_eq hs0))) hB2 hs2 fun st3 hB3 hK3 hs3 => ?_)
   exact K _ st3 ⟨hB3, by rw [hK3.pend]; exact runs_congr hR2 fun k _ hk => hK3.low k hk, by exact Nat.le_of_not_lt fun hg => Or.elim (sub_or (a₀.size) ((none, lo).snd)) (fun hs0 => Or.elim (min_or (a₀.size - lo) (mr)) (fun hs1 => lin [m, (a₀.size - (none, lo).snd), (min (a₀.size - lo) mr)] [(1, (.n 1), (.v 0)), (1, (.v 0), (.v 1)), (1, (.a (.v 2) (.n 1)), (.n 1)), (1, (.v 1), (.v 2))] rfl hm1 hm2 hg hs1) (fun hs1 => lin [m, mr, (min (a₀.size - lo) mr)] [(1, (.n 1), (.v 0)), (1, (.a (.v 0) (.n 1)), (.v 1)), (1, (.a (.v 2) (.n 1)), (.n 1)), (1, (.v 1), (.v 2))] rfl hm1 e2 hg hs1)) (fun hs0 => lin [m, (a₀.size - (none, lo).snd)] [(1, (.n 1), (.v 0)), (1, (.v 0), (.v 1)), (1, (.v 1), (.n 0))] rfl hm1 hm2 (Nat.le_of_eq hs0)), by omega, hs3⟩
 case post =>
  rintro K hK c st' ⟨rfl, hB', hR⟩
  subst hK
  refine ts_for (fun x c st'' => c = (none, ()) ∧ SB kd a₀ st'' ∧ Runs key (arrOf st'') (pendingOf st'').toList 0 a₀.size ∧ (pendingOf st'').size + x ≤ a₀.size)
   (fun c st'' => c = (none, ()) ∧ SB kd a₀ st'' ∧ Runs key (arrOf st'') (pendingOf st'').toList 0 a₀.size ∧ (pendingOf st'').size ≤ 1) ?cstep ?cfin ?cinit ?cpost
  case cinit =>
   have := runs_le hR
   rw [Array.length_toList] at this
   exact ⟨rfl, hB', hR, by exact Nat.le_trans (Nat.le_add_left _ _) this⟩
  case cfin =>
   rintro c st'' ⟨rfl, hB4, hR4, hx⟩
   exact ⟨rfl, hB4, hR4, by exact Nat.le_of_not_lt fun hg => lin [((pendingOf st'').size), (max 0 a₀.size)] [(1, (.a (.v 0) (.v 1)), (.v 1)), (1, (.a (.n 1) (.n 1)), (.v 0))] rfl hx hg⟩
  case cpost =>
   rintro K hK c st'' ⟨rfl, hB4, hR4, hx⟩
   subst hK
   refine wpS_pure (h _ hB4.perm hB4.failed ?_)
   have hl : (pendingOf st'').toList.length ≤ 1 := by rw [Array.length_toList]; exact hx
   generalize (pendingOf st'').toList = P at hR4 hl
   match P, hR4, hl with
   | [], e, _ => intro p q _ _ h3; have : (0 : Nat) = a₀.size := e; (rename_i zz1 zz0; exact False.elim (lin [p, q, (a₀.size)] [(1, (.n 0), (.v 0)), (1, (.v 0), (.v 1)), (1, (.a (.v 1) (.n 1)), (.v 2)), (1, (.v 2), (.n 0))] rfl zz1 zz0 h3 (Nat.le_of_eq (Eq.symm this))))
   | [r], ⟨_, _, h3, h4⟩, _ => rw [show a₀.size = 0 + r.2.1 from (h4 : 0 + r.2.1 = a₀.size).symm]; exact h3
   | _ :: _ :: _, _, hl => simp at hl
  case cstep =>
   rintro F hF x c st'' ⟨rfl, hB4, hR4, hx4⟩
   subst hF
   refine wpS_bind (wpS_get ?_)
   refine ts_if (fun e1 => ?_) (fun e1 => ?_)
   ·exact wpS_pure ⟨rfl, hB4, hR4, e1⟩
   refine wpS_bind (ts_mergeRun hL hB4 hR4 (Nat.le_refl _) ?_ fun st5 hB5 hR5 hz5 _ => ?_)
   ·have hif : ∀ (c : Prop) [Decidable c] (n : Nat), 1 < n → (if c then n - 2 - 1 else n - 2) + 1 < n := by intro c _ n hn; split <;> (first | exact Nat.lt_of_not_le fun hg => Or.elim (sub_or (n - 2) (1)) (fun hs0 => lin [n, (n - 2 - 1), (n - 2)] [(1, (.a (.v 2) (.n 2)), (.v 0)), (1, (.v 0), (.a (.v 1) (.n 1))), (1, (.a (.v 1) (.n 1)), (.v 2))] rfl (sub_hi (Nat.le_of_not_lt fun hg => lin [n] [(1, (.a (.n 1) (.n 1)), (.v 0)), (1, (.a (.v 0) (.n 1)), (.n 2))] rfl hn hg)) hg (Nat.le_of_eq hs0)) (fun hs0 => lin [n, (n - 2 - 1)] [(1, (.a (.n 1) (.n 1)), (.v 0)), (1, (.v 0), (.a (.v 1) (.n 1))), (1, (.v 1), (.n 0))] rfl hn hg (Nat.le_of_eq hs0)) | exact Nat.lt_of_not_le fun hg => lin [n, (n - 2)] [(1, (.a (.v 1) (.n 2)), (.v 0)), (1, (.v 0), (.a (.v 1) (.n 1)))] rfl (sub_hi (Nat.le_of_not_lt fun hg => lin [n] [(1, (.a (.n 1) (.n 1)), (.v 0)), (1, (.a (.v 0) (.n 1)), (.n 2))] rfl hn hg)) hg)
    exact hif _ _ (by exact Nat.lt_of_not_le e1)
   ·exact wpS_pure ⟨rfl, hB5, hR5, by exact Nat.le_of_not_lt fun hg => lin [((pendingOf st'').size), x, (a₀.size), ((pendingOf st5).size)] [(1, (.a (.v 0) (.v 1)), (.v 2)), (1, (.a (.v 3) (.n 1)), (.v 0)), (1, (.a (.v 2) (.n 1)), (.a (.v 3) (.a (.v 1) (.n 1))))] rfl hx4 (Nat.le_of_eq hz5) hg⟩
end walk
end Mine
end
noncomputable section
namespace Mine
open PySem PyProof.Rows
section
variable {prog : Program} {w : World} {A : Around} {E : Value → Shared → Prop} {s : Shared} {kd : SortKind} {O : KeyOrd} {key : Keyed → O.α}
theorem sin_srt {arr : Array Keyed} (h : SIn key arr 0 arr.size) : Srt key arr.toList := by
 refine List.pairwise_iff_getElem.mpr fun i j hi hj hij => ?_
 rw [Array.length_toList] at hi hj
 have := h i j (Nat.zero_le _) (Nat.le_of_lt hij) hj
 rw [tk_get hi, tk_get hj] at this
 simpa using this
theorem ts_sort {a : Addr} {vs : List Value} {n : Nat} {P : Fin → Shared → Prop} (ho : s.heap.get? a = some (seqObj "list" vs.toArray n)) (hz : vs.length ≤ 16777216)
  (hkk : 2 ≤ vs.length → ∀ s' : Shared, (∀ b o, b ≠ a → s.heap.get? b = some o → s'.heap.get? b = some o) → ∀ Q : SortKind → Shared → Prop, Q kd s' → wpAny (model prog w) A (keyKind' vs.toArray) Q E s')
  (hL : ∀ s' : Shared, (∀ b o, b ≠ a → s.heap.get? b = some o → s'.heap.get? b = some o) → LtOk prog w A E s' kd O key (pairsOf vs))
  (h : ∀ out : List Value, out.Perm vs → (out.Pairwise fun x y => O.kle (key (x, x)) (key (y, y))) → P (.done (.ret .none)) { s with heap := sortedHeap s.heap a vs out.toArray }) :
  wpAny (model prog w) A (Builtin.«list.sort» ⟨[.ref a], []⟩) P E s := by
 rw [list_sort_plain]
 have hsl : sizeLine = 16777216 := sizeLine_eq
 have ha : a < s.heap.objs.size := Heap.lt_size ho
 refine wpAny_bind (listItems_at ho rfl ?_)
 refine wpAny_bind (listUpdate_at ho rfl ?_ (hsz := by rw [List.size_toArray]; exact hz) (hsz2 := by simp))
 obtain ⟨e1, ho1⟩ : ∃ e1, (s.heap.update a (Obj.mapSeq fun _ => #[])).get? a = some (seqObj "list" #[] e1) := ⟨_, get?_update_seq ho (fun _ => #[])⟩
 refine wpAny_bind (seqEpoch_at ho1 rfl ?_)
 refine wpAny_bind (wpAny_newTuple ?_ (by rw [List.toList_toArray]; exact hz))
 refine wpAny_bind (wpAny_newList ?_)
 refine wpAny_holding ?_
 have ho6 : (((s.heap.update a (Obj.mapSeq fun _ => #[])).push (seqObj "tuple" vs.toArray 0)).push (seqObj "list" #[] 0)).get? a = some (seqObj "list" #[] e1) := by
  rw [Heap.get?_push_ne _ _ _ (by rw [size_push', Heap.size_update]; exact Nat.ne_of_lt (Nat.lt_succ_of_lt ha)), Heap.get?_push_ne _ _ _ (by rw [Heap.size_update]; exact Nat.ne_of_lt ha)]
  exact ho1
 have hkeep : ∀ b o, b ≠ a → s.heap.get? b = some o → (((s.heap.update a (Obj.mapSeq fun _ => #[])).push (seqObj "tuple" vs.toArray 0)).push (seqObj "list" #[] 0)).get? b = some o := by
  intro b o hb e
  have hlt := Heap.lt_size e
  rw [Heap.get?_push_ne _ _ _ (by rw [size_push', Heap.size_update]; exact Nat.ne_of_lt (Nat.lt_succ_of_lt hlt)), Heap.get?_push_ne _ _ _ (by rw [Heap.size_update]; exact Nat.ne_of_lt hlt), Heap.get?_update_ne _ _ _ _ hb]
  exact e
 show wpAny (model prog w) A _ P E { s with heap := ((s.heap.update a (Obj.mapSeq fun _ => #[])).push (seqObj "tuple" vs.toArray 0)).push (seqObj "list" #[] 0) }
 dsimp only
 have hsz : vs.toArray.size = vs.length := by simp
 have fin : ∀ st' : SortSt, (arrOf st').Perm (pairsOf vs) → SIn key (arrOf st') 0 (pairsOf vs).size →
   P (.done (.ret .none)) { s with heap := sortedHeap s.heap a vs ((arrOf st').map (·.2)) } := by
  intro st' hp hs
  have hl : (arrOf st').toList.Perm (vs.zip vs) := by rw [← pairsOf_toList]; exact Array.perm_iff_toList_perm.mp hp
  have hmem : ∀ p, p ∈ (arrOf st').toList → p.1 = p.2 := fun p hp' => (mem_zip_self (hl.mem_iff.mp hp')).1
  have e : ((arrOf st').map (·.2)) = ((arrOf st').toList.map (·.2)).toArray := by rw [← Array.toList_map, Array.toArray_toList]
  rw [e]
  refine h _ ?_ ?_
  ·have := hl.map (·.2)
   rwa [List.map_snd_zip (Nat.le_refl _)] at this
  ·rw [← hp.size_eq] at hs
   have hsr := sin_srt hs
   rw [List.pairwise_map]
   refine hsr.imp_of_mem fun {x y} hx hy hxy => ?_
   have ex : (x.2, x.2) = x := Prod.ext (hmem x hx).symm rfl
   have ey : (y.2, y.2) = y := Prod.ext (hmem y hy).symm rfl
   rw [ex, ey]
   exact hxy
 by_cases h2 : vs.toArray.size < 2
 ·rw [if_pos h2, if_pos h2]
  refine wpAny_bind (wpAny_pure ?_)
  rw [StateT.run_pure]
  refine wpAny_bind (wpAny_pure ?_)
  dsimp only
  refine wpAny_bind (seqEpoch_at ho6 rfl ?_)
  refine wpAny_bind (listUpdate_at ho6 rfl ?_ (hsz2 := by rw [Array.size_map]; show (pairsOf vs).size ≤ _; rw [pairsOf_size]; exact Nat.le_succ_of_le hz))
  simp only [bne_self_eq_false, Bool.false_eq_true, if_false]
  refine wpAny_pure (fin (SortSt.mk' general' (vs.toArray.zip vs.toArray) #[] 7 none) (Array.Perm.refl _) ?_)
  intro i j _ hij hj
  have : i = j := by rw [pairsOf_size] at hj; omega
  subst this; exact KeyOrd.kle_refl _
 ·rw [if_neg h2, if_neg h2]
  refine wpAny_bind (hkk (by exact Nat.le_of_not_lt h2) _ hkeep _ ?_)
  refine wpAny_bind (wpAny_mono (ts_runs (a₀ := pairsOf vs) (st := SortSt.mk' kd (vs.toArray.zip vs.toArray) #[] 7 none)
   (Q := fun _ st' => (arrOf st').Perm (pairsOf vs) ∧ failedOf st' = none ∧ SIn key (arrOf st') 0 (pairsOf vs).size)
   (hL _ hkeep) ⟨Array.Perm.refl _, rfl, rfl⟩ rfl fun st' a1 a2 a3 => ⟨a1, a2, a3⟩) ?_ fun _ _ e => e)
  rintro ⟨⟨⟩, st'⟩ s' ⟨rfl, hp, hf, hs⟩
  dsimp only
  refine wpAny_bind (seqEpoch_at ho6 rfl ?_)
  refine wpAny_bind (listUpdate_at ho6 rfl ?_ (hsz2 := by refine Nat.le_trans (Nat.le_of_eq ((Array.size_map ..).trans (hp.size_eq.trans (pairsOf_size _)))) ?_; exact Nat.le_succ_of_le hz))
  rw [hf]
  simp only [bne_self_eq_false, Bool.false_eq_true, if_false]
  exact wpAny_pure (fin st' hp hs)
theorem lt_one {κ : PyProof.Rows.KeyKind} (hO : κ.OneLt) {a₀ : Array Keyed} (h0 : KeysOf κ a₀) : LtOk prog w A E s oneType' κ.toKeyOrd (fun p => (κ.keyOf p.1).getD κ.dflt) a₀ := by
 intro x y hx hy Q st hk h
 obtain ⟨ax, ex⟩ := h0 x hx
 obtain ⟨ay, ey⟩ := h0 y hy
 dsimp only at h
 rw [ex, ey] at h
 rw [lt'_eq]
 refine wpS_bind (wpS_get ?_)
 rw [hk, keyLt'_oneType]
 refine wpS_bind (wpS_lift (wpAny_attempt (hO prog w A _ s x.1 y.1 ax ay ex ey ⟨rfl, ?_⟩)))
 exact wpS_pure h
theorem sort_strs {a : Addr} {vs : List Value} {ss : List Str} {n : Nat} {P : Fin → Shared → Prop} (ho : s.heap.get? a = some (seqObj "list" vs.toArray n)) (hz : vs.length ≤ 16777216) (hS : StrsAre vs ss)
  (h : ∀ (out : List Value) (ss' : List Str), StrsAre out ss' → ss'.Perm ss → (ss'.Pairwise fun x y => ¬ y.cps.toList < x.cps.toList) → P (.done (.ret .none)) { s with heap := sortedHeap s.heap a vs out.toArray }) :
  wpAny (model prog w) A (Builtin.«list.sort» ⟨[.ref a], []⟩) P E s := by
 refine ts_sort (kd := oneType') (O := PyProof.Rows.strKind.toKeyOrd) (key := fun p => (PyProof.Rows.strKind.keyOf p.1).getD PyProof.Rows.strKind.dflt) ho hz (fun h2 s' _ Q q => ?_) (fun s' _ => lt_one PyProof.Rows.strKind_oneLt hS.keysOf) fun out hp hs => ?_
 ·match vs, h2, hS with
  | v₁ :: v₂ :: rest, _, hS => rw [keyKind_strs hS]; exact wpAny_pure q
 ·refine h out (out.map strOf) (strsAre_map out fun v hv => hS.all v (hp.mem_iff.mp hv)) ?_ ?_
  ·rw [← hS.strs]; exact hp.map _
  ·rw [List.pairwise_map]
   refine hs.imp_of_mem fun {x y} hx hy hxy => ?_
   obtain ⟨a1, t1, rfl⟩ := hS.all x (hp.mem_iff.mp hx)
   obtain ⟨a2, t2, rfl⟩ := hS.all y (hp.mem_iff.mp hy)
   have : decide (a2.cps.toList < a1.cps.toList) = false := hxy
   exact of_decide_eq_false this
end
end Mine
end
noncomputable section
namespace Mine
open PySem PyProof.Rows
section
variable {prog : Program} {w : World} {A : Around} {E : Value → Shared → Prop} {s : Shared}
end
end Mine
end
noncomputable section
namespace Mine
open PySem PyProof.Rows
section
variable {prog : Program} {w : World} {E : Value → Shared → Prop}
end
end Mine
end
noncomputable section
namespace Mine
open PySem PyProof.Rows
section
variable {prog : Program} {w : World} {A : Around} {E : Value → Shared → Prop}
end
end Mine
end
noncomputable section
namespace Mine
open PySem PyProof.Rows
end Mine
end
noncomputable section
namespace Mine
open PySem PyProof.Rows
section
variable {prog : Program} {w : World} {A : Around} {E : Value → Shared → Prop}
end
end Mine
end
noncomputable section
namespace Mine
open PySem PySem.W PyProof.Rows
section
variable {prog : Program} {w : World} {A : Around} {E : Value → Shared → Prop}
end
end Mine
end
noncomputable section
namespace Mine
open PySem PySem.W PyProof.Rows
section
variable {prog : Program} {w : World} {E : Value → Shared → Prop}
end
end Mine
end
noncomputable section
namespace Mine
open PySem PySem.W PyProof.Rows PySem.Calls
noncomputable def rowq (f : V → V → Option Bool) : List V → List V → Option Bool
 | [], [] => some true
 | [], _ :: _ => some false
 | _ :: _, [] => some false
 | a :: as, b :: bs => match f a b with
  | some true => rowq f as bs
  | some false => some false
  | Option.none => Option.none
noncomputable def dictq (k2 : List (Str × V)) : List (Str × V) → Option Bool
 | [] => some true
 | (k, v) :: r => match vget k2 k with
  | Option.none => some false
  | some y => match veq0 v y, dictq k2 r with
   | some e, some b => some (e && b)
   | _, _ => Option.none
noncomputable def dq : Nat → View → V → V → Option Bool
 | 0, _, a, b => veq0 a b
 | n + 1, σ, .tup xs, .tup ys => rowq (dq n σ) xs ys
 | n + 1, σ, .ref a, .ref b => match σ a, σ b with
  | some (.list xs), some (.list ys) => if xs.length = ys.length then rowq (dq n σ) xs ys else some false
  | some (.dict k1 _), some (.dict k2 _) => if k1.length = k2.length then dictq k2 k1 else some false
  | _, _ => Option.none
 | _ + 1, _, a, b => veq0 a b
section
variable {C : Cx} {sc : Scope} {k : Nat}
theorem CmpW.tuples {A : Around} {s : Shared} {l b : Addr} {xs ys : List Value} {r : Bool} (hl : s.heap.IsTuple l xs.toArray) (hb : s.heap.IsTuple b ys.toArray) (hu : A.units < cLine) (he : EqWs C A.in1 s xs ys r) : CmpW C A s (.ref l) (.ref b) r := by
 obtain ⟨⟨cls, dd, data, sl⟩, ho, hc, n, hd⟩ := id hl
 obtain ⟨⟨cls2, dd2, data2, sl2⟩, ho2, hc2, n2, hd2⟩ := id hb
 simp only at hc hd hc2 hd2
 subst hc hd hc2 hd2
 intro op E Q hop h
 rcases hop with rfl | rfl
 ·exact wpAny_richCompare_same_room (op := .Eq) ⟨_, ho, rfl⟩ ⟨_, ho2, rfl⟩ _root_.PySem.F.slot_tuple_eq (call_meetsIn _root_.PySem.F.slot_tuple_eq ⟨_, ho, rfl⟩ _root_.PySem.F.entry_tuple_eq (_root_.PySem.F.args_tuple_eq_2 _ _)
   (S := fun A' R s' => A' = A ∧ s' = s ∧ R (.ok (.ret (.bool r))) s) (fun A' R s' ⟨e1, e2, hR⟩ => by subst e1 e2; exact tup_eqW l b xs ys n n2 dd dd2 sl sl2 ho ho2 he hR) ⟨rfl, rfl, (fun x => nomatch x), h⟩) hu
 ·exact wpAny_richCompare_same_room (op := .NotEq) ⟨_, ho, rfl⟩ ⟨_, ho2, rfl⟩ _root_.PySem.F.slot_tuple_ne (call_meetsIn _root_.PySem.F.slot_tuple_ne ⟨_, ho, rfl⟩ _root_.PySem.F.entry_tuple_ne (_root_.PySem.F.args_tuple_ne_2 _ _)
   (S := fun A' R s' => A' = A ∧ s' = s ∧ R (.ok (.ret (.bool (!r)))) s) (fun A' R s' ⟨e1, e2, hR⟩ => by subst e1 e2; exact tup_neW l b xs ys n n2 dd dd2 sl sl2 ho ho2 he hR) ⟨rfl, rfl, (fun x => nomatch x), h⟩) hu
theorem CmpW.lists {A : Around} {s : Shared} {l b : Addr} {xs ys : List Value} {r : Bool} (hl : s.heap.IsList l xs.toArray) (hb : s.heap.IsList b ys.toArray) (hu : A.units < cLine) (he : xs.length = ys.length → EqWs C A.in1 s xs ys r) (hne : xs.length ≠ ys.length → r = false) : CmpW C A s (.ref l) (.ref b) r := by
 obtain ⟨⟨cls, dd, data, sl⟩, ho, hc, n, hd⟩ := id hl
 obtain ⟨⟨cls2, dd2, data2, sl2⟩, ho2, hc2, n2, hd2⟩ := id hb
 simp only at hc hd hc2 hd2
 subst hc hd hc2 hd2
 intro op E Q hop h
 rcases hop with rfl | rfl
 ·exact wpAny_richCompare_same_room (op := .Eq) ⟨_, ho, rfl⟩ ⟨_, ho2, rfl⟩ _root_.PySem.F.slot_list_eq (call_meetsIn _root_.PySem.F.slot_list_eq ⟨_, ho, rfl⟩ _root_.PySem.F.entry_list_eq (_root_.PySem.F.args_list_eq_2 _ _)
   (S := fun A' R s' => A' = A ∧ s' = s ∧ R (.ok (.ret (.bool r))) s) (fun A' R s' ⟨e1, e2, hR⟩ => by subst e1 e2; exact list_eqW l b xs ys n n2 dd dd2 sl sl2 ho ho2 he hne hR) ⟨rfl, rfl, (fun x => nomatch x), h⟩) hu
 ·exact wpAny_richCompare_same_room (op := .NotEq) ⟨_, ho, rfl⟩ ⟨_, ho2, rfl⟩ _root_.PySem.F.slot_list_ne (call_meetsIn _root_.PySem.F.slot_list_ne ⟨_, ho, rfl⟩ _root_.PySem.F.entry_list_ne (_root_.PySem.F.args_list_ne_2 _ _)
   (S := fun A' R s' => A' = A ∧ s' = s ∧ R (.ok (.ret (.bool (!r)))) s) (fun A' R s' ⟨e1, e2, hR⟩ => by subst e1 e2; exact list_neW l b xs ys n n2 dd dd2 sl sl2 ho ho2 he hne hR) ⟨rfl, rfl, (fun x => nomatch x), h⟩) hu
theorem hits_of {A : Around} {s : Shared} {k2 : List (Str × V)} {w2 : List (Str × Value)} (h2 : PRel C.aS s.heap k2 w2) : ∀ {k1 : List (Str × V)} {w1 : List (Str × Value)} {r : Bool}, PRel C.aS s.heap k1 w1 → dictq k2 k1 = some r → KeqHits A s w2 w1 r
 | [], [], r, _, h => by cases h; exact .nil
 | (k, v) :: k1, (k', w) :: w1, r, ⟨e, hv, hr⟩, h => by
  subst e
  unfold dictq at h
  cases hg : vget k2 k with
  | none =>
   rw [hg] at h
   cases h
   have : (valueAt w2 k).isSome = false := by rw [← h2.none (k := k), hg]; rfl
   exact .miss (by cases e : valueAt w2 k with | none => rfl | some _ => rw [e] at this; cases this)
  | some y =>
   rw [hg] at h
   obtain ⟨wy, e1, e2⟩ := h2.find hg
   dsimp only at h
   split at h
   ·rename_i e b h3 h4
    cases h
    exact .hit e1 (eqAt0 h3 hv e2) (hits_of h2 hr h4)
   ·cases h
theorem row_self {f : V → V → Option Bool} {s : Shared} (hf : ∀ a b w r, f a b = some r → VRel C.aS s.heap a w → VRel C.aS s.heap b w → r = true) : ∀ {as bs : List V} {ws : List Value} {r : Bool}, rowq f as bs = some r → VRels C.aS s.heap as ws → VRels C.aS s.heap bs ws → r = true
 | [], bs, ws, r, h, ha, hb => by
  have := hb.length
  rw [ha.inv0] at this
  rw [List.length_eq_zero_iff.mp this] at h
  cases h; rfl
 | a :: as, bs, ws, r, h, ha, hb => by
  obtain ⟨w, ws', rfl, va, ra⟩ := ha.invC
  match bs, hb with
  | [], hb => exact absurd hb.inv0 (by simp)
  | b :: bs, hb =>
   obtain ⟨w2, ws2, e, vb, rb⟩ := hb.invC
   cases e
   unfold rowq at h
   split at h
   ·exact row_self hf h ra rb
   ·rename_i h1
    have := hf _ _ _ _ h1 va vb
    cases this
   ·cases h
theorem dict_self {k0 : List (Str × V)} (hn : (k0.map (·.1)).Nodup) : ∀ {k1 : List (Str × V)} {r : Bool}, (∀ q ∈ k1, q ∈ k0) → dictq k0 k1 = some r → r = true
 | [], r, _, h => by cases h; rfl
 | (k, v) :: k1, r, hm, h => by
  have hg : vget k0 k = some v := by
   have hq := hm _ (List.mem_cons_self ..)
   unfold vget
   rw [Option.map_eq_some_iff]
   refine ⟨(k, v), ?_, rfl⟩
   clear h hm
   induction k0 with
   | nil => cases hq
   | cons p k0 ih =>
    rw [List.map_cons, List.nodup_cons] at hn
    rcases List.mem_cons.mp hq with e | hq
    ·rw [← e, List.find?_cons_of_pos (by simp)]
    ·rw [List.find?_cons_of_neg]
     ·exact ih hn.2 hq
     ·intro z
      have z' : p.1 = k := by simpa using z
      exact hn.1 (by rw [z']; exact List.mem_map.mpr ⟨_, hq, rfl⟩)
  unfold dictq at h
  rw [hg] at h
  dsimp only at h
  split at h
  ·rename_i e b h3 h4
   cases h
   have h5 := dict_self hn (fun q hq => hm q (List.mem_cons_of_mem _ hq)) h4
   have h6 : e = true := by
    cases v <;> simp [veq0] at h3 <;> exact h3
   rw [h5, h6]; rfl
  ·cases h
theorem PRel.keys {aS : Addr} {h : Heap} {a : List (Str × V)} {b : List (Str × Value)} (x : PRel aS h a b) : a.map (·.1) = b.map (·.1) :=
 x.ind (P := fun a b => a.map (·.1) = b.map (·.1)) rfl fun _ _ _ _ _ _ _ ih => by rw [List.map_cons, List.map_cons, ih]
theorem dict_nodup {σ : View} {s : Shared} (R : RelG C σ s) {a : Addr} {kvs : List (Str × V)} {ep : Nat} (h : σ a = some (.dict kvs ep)) : (kvs.map (·.1)).Nodup := by
 obtain ⟨_, kws, h1, h2⟩ := R.view _ _ h
 rw [h2.keys]
 exact let ⟨_, _, _, _, _, _, _, _, hn⟩ := h1.dictOf; hn
theorem dq_self {σ : View} {s : Shared} (R : RelG C σ s) : ∀ (n : Nat) (a b : V) (w : Value) (r : Bool), dq n σ a b = some r → VRel C.aS s.heap a w → VRel C.aS s.heap b w → r = true
 | 0, a, b, w, r, h, va, vb => veq0_self h va vb
 | n + 1, a, b, w, r, h, va, vb => by
  cases a <;> cases b <;> simp only [dq] at h <;> first | exact veq0_self h va vb | skip
  ·rename_i p q
   cases va; cases vb
   split at h
   ·rename_i xs ys hx hy
    rw [hx] at hy; cases hy
    obtain ⟨_, ws, h1, h2⟩ := R.view _ _ hx
    rw [if_pos rfl] at h
    exact row_self (dq_self R n) h h2 h2
   ·rename_i k1 _ k2 _ hx hy
    rw [hx] at hy; cases hy
    rw [if_pos rfl] at h
    exact dict_self (dict_nodup R hx) (fun q hq => hq) h
   ·cases h
  ·rename_i xs ys
   cases va with | @tup _ p ws ht hvs => cases vb with | @tup _ _ us ht' hus =>
   obtain ⟨o, ho, _, n1, hd⟩ := ht
   obtain ⟨o', ho', _, n2, hd'⟩ := ht'
   rw [ho] at ho'; cases ho'
   rw [hd] at hd'
   injection hd' with e1 _
   have e2 : ws = us := by simpa using congrArg Array.toList e1
   subst e2
   exact row_self (dq_self R n) h hvs hus
theorem cmpW {σ : View} {s : Shared} (O : C.Ok) (R : RelG C σ s) : ∀ (n : Nat) {A : Around} {a b : V} {wa wb : Value} {r : Bool}, dq n σ a b = some r → VRel C.aS s.heap a wa → VRel C.aS s.heap b wb → A.units + n < cLine →
  (veq0 a b = some r) ∨ ∃ p q, wa = .ref p ∧ wb = .ref q ∧ CmpW C A s (.ref p) (.ref q) r
 | 0, A, a, b, wa, wb, r, h, va, vb, hu => .inl h
 | n + 1, A, a, b, wa, wb, r, h, va, vb, hu => by
  have elem : ∀ {xs ys : List V} {ws us : List Value} {r : Bool}, rowq (dq n σ) xs ys = some r → VRels C.aS s.heap xs ws → VRels C.aS s.heap ys us → EqWs C A.in1 s ws us r := by
   intro xs
   induction xs with
   | nil =>
    intro ys ws us r h hx hy
    cases hx
    cases hy with
    | nil => cases h; rfl
    | cons _ _ => cases h; rfl
   | cons x xs ih =>
    intro ys ws us r h hx hy
    cases hx with | cons vx rx =>
    cases hy with
    | nil => cases h; rfl
    | cons vy ry =>
     rename_i w0 ws0 y0 u0 ys0 us0
     have one : ∀ e, dq n σ x y0 = some e → EqW C A.in1 s w0 u0 e := fun e hj => by
      rcases cmpW O R n (A := A.in1) hj vx vy (by show A.units + 1 + n < _; exact Nat.lt_of_not_le fun hg => lin [(A.units), n, cLine] [(1, (.a (.a (.v 0) (.a (.v 1) (.n 1))) (.n 1)), (.v 2)), (1, (.v 2), (.a (.a (.v 0) (.n 1)) (.v 1)))] rfl hu hg) with z | ⟨p, q, e1, e2, hr⟩
      ·exact EqW.at (eqAt0 z vx vy)
      ·subst e1 e2
       by_cases hne : p = q
       ·subst hne; rw [dq_self R n x y0 _ _ hj vx vy]; exact EqW.at (SeqAt.EqAt.same _)
       ·exact EqW.of_refs hne hr
     unfold rowq at h
     split at h
     ·rename_i h1
      exact ⟨true, one _ h1, .inl ⟨rfl, ih h rx ry⟩⟩
     ·rename_i h1
      cases h
      exact ⟨false, one _ h1, .inr ⟨rfl, rfl⟩⟩
     ·cases h
  cases a <;> cases b <;> simp only [dq] at h <;> first | exact .inl h | skip
  ·rename_i p q
   cases va; cases vb
   split at h
   ·rename_i xs ys hx hy
    obtain ⟨_, ws, h1, h2⟩ := R.view _ _ hx
    obtain ⟨_, us, h3, h4⟩ := R.view _ _ hy
    refine .inr ⟨p, q, rfl, rfl, CmpW.lists h1.isList h3.isList (by exact Nat.lt_of_le_of_lt (Nat.le_add_right _ _) hu) (fun hl => ?_) fun hl => ?_⟩
    ·rw [← h2.length, ← h4.length] at hl
     rw [if_pos hl] at h
     exact elem h h2 h4
    ·rw [← h2.length, ← h4.length] at hl
     rw [if_neg hl] at h
     cases h; rfl
   ·rename_i k1 _ k2 _ hx hy
    obtain ⟨_, w1, h1, h2⟩ := R.view _ _ hx
    obtain ⟨_, w2, h3, h4⟩ := R.view _ _ hy
    have n1 := O.noMods (R.apart p (by rw [hx]; simp))
    have n2 := O.noMods (R.apart q (by rw [hy]; simp))
    refine .inr ⟨p, q, rfl, rfl, fun op E Q hop hq => ?_⟩
    by_cases hl : k1.length = k2.length
    ·rw [if_pos hl] at h
     have hh := hits_of (A := A.in1) h4 h2 h
     have e : (w1.length == w2.length && r) = r := by rw [← h2.length, ← h4.length]; simp [hl]
     rcases hop with rfl | rfl
     ·exact keq_eq n1 n2 h1.dictOf h3.dictOf (by exact Nat.lt_of_le_of_lt (Nat.le_add_right _ _) hu) (fun _ => hh) (by rw [e]; exact hq)
     ·exact keq_ne n1 n2 h1.dictOf h3.dictOf (by exact Nat.lt_of_le_of_lt (Nat.le_add_right _ _) hu) (fun _ => hh) (by rw [e]; exact hq)
    ·rw [if_neg hl] at h
     cases h
     have hl' : ¬ w1.length = w2.length := by rw [← h2.length, ← h4.length]; exact hl
     have e : (w1.length == w2.length && true) = false := by simp [hl']
     rcases hop with rfl | rfl
     ·exact keq_eq (r := true) n1 n2 h1.dictOf h3.dictOf (by exact Nat.lt_of_le_of_lt (Nat.le_add_right _ _) hu) (fun z => absurd z hl') (by rw [e]; exact hq)
     ·exact keq_ne (r := true) n1 n2 h1.dictOf h3.dictOf (by exact Nat.lt_of_le_of_lt (Nat.le_add_right _ _) hu) (fun z => absurd z hl') (by rw [e]; exact hq)
   ·cases h
  ·rename_i xs ys
   cases va with | @tup _ p ws ht hvs => cases vb with | @tup _ q us ht' hus =>
   exact .inr ⟨p, q, rfl, rfl, CmpW.tuples ht ht' (by exact Nat.lt_of_le_of_lt (Nat.le_add_right _ _) hu) (elem h hvs hus)⟩
noncomputable def opEqD : O2 := fun a b σ Q => ∃ r, dq 4 σ a b = some r ∧ Q (.bool r) σ
noncomputable def opNe : O2 := fun a b σ Q => ∃ r, dq 4 σ a b = some r ∧ Q (.bool (!r)) σ
theorem ok_eqD (O : C.Ok) : Op2 C k (compareOp .Eq) opEqD := by
 intro A s σ a b wa wb Q P E ao R va vb ⟨r, hr, q⟩ hP
 rcases cmpW O R 4 (A := A) hr va vb (by have := ao.units; omega) with z | ⟨p, p', rfl, rfl, h⟩
 ·exact ok_eq0 A s σ a b wa wb Q P E ao R va vb ⟨r, z, q⟩ hP
 ·exact h .Eq E P (.inl rfl) (hP _ _ σ s (.bool r) R Step.refl q)
theorem ok_neD (O : C.Ok) : Op2 C k (compareOp .NotEq) opNe := by
 intro A s σ a b wa wb Q P E ao R va vb ⟨r, hr, q⟩ hP
 rcases cmpW O R 4 (A := A) hr va vb (by have := ao.units; omega) with z | ⟨p, p', rfl, rfl, h⟩
 ·exact ok_ne0 A s σ a b wa wb Q P E ao R va vb ⟨r, z, q⟩ hP
 ·exact h .NotEq E P (.inr rfl) (hP _ _ σ s (.bool (!r)) R Step.refl q)
end
end Mine
end
noncomputable section
namespace Mine
open PySem PySem.W PyProof.Rows PySem.Calls
abbrev leS (a b : Str) : Prop := ¬ cl b < cl a
noncomputable def srt (xs : List Str) : List Str := xs.mergeSort fun a b => !decide (cl b < cl a)
theorem leS_trans {a b c : Str} (h1 : leS a b) (h2 : leS b c) : leS a c := fun h => by
 rcases (List.not_lt.mp h1 : cl a ≤ cl b) with _
 exact h1 (List.lt_of_le_of_lt (List.not_lt.mp h2) h)
theorem leS_total (a b : Str) : leS a b ∨ leS b a := by
 by_cases h : cl b < cl a
 ·exact .inr fun h' => List.lt_irrefl _ (List.lt_trans h h')
 ·exact .inl h
theorem leS_anti {a b : Str} (h1 : leS a b) (h2 : leS b a) : a = b := cl_inj (List.le_antisymm (List.not_lt.mp h1) (List.not_lt.mp h2))
theorem srt_perm (xs : List Str) : (srt xs).Perm xs := List.mergeSort_perm _ _
theorem srt_sorted (xs : List Str) : (srt xs).Pairwise leS := by
 have := List.pairwise_mergeSort (le := fun a b : Str => !decide (cl b < cl a)) (fun a b c h1 h2 => by simp only [Bool.not_eq_true', decide_eq_false_iff_not] at *; exact leS_trans h1 h2) (fun a b => by
  rcases leS_total a b with h | h
  ·simp [h]
  ·simp [h]) xs
 exact this.imp fun h => by simpa using h
theorem sorted_uniq : ∀ {a b : List Str}, a.Perm b → a.Pairwise leS → b.Pairwise leS → a = b
 | [], _, p, _, _ => p.nil_eq
 | x :: r, b, p, ha, hb => by
  cases b with
  | nil => exact absurd p.length_eq (by simp)
  | cons y t =>
   have hx : x ∈ y :: t := p.mem_iff.mp (.head _)
   have hy : y ∈ x :: r := p.mem_iff.mpr (.head _)
   have e : x = y := by
    rcases List.mem_cons.mp hx with h | h
    ·exact h
    ·rcases List.mem_cons.mp hy with h' | h'
     ·exact h'.symm
     ·exact leS_anti ((List.pairwise_cons.mp ha).1 y h') ((List.pairwise_cons.mp hb).1 x h)
   subst e
   rw [sorted_uniq (List.Perm.cons_inv p) (List.pairwise_cons.mp ha).2 (List.pairwise_cons.mp hb).2]
theorem srt_of {xs ys : List Str} (p : ys.Perm xs) (h : ys.Pairwise leS) : ys = srt xs := sorted_uniq (p.trans (srt_perm xs).symm) h (srt_sorted xs)
theorem perm_of_mem {xs ys : List Str} (hx : xs.Nodup) (hy : ys.Nodup) (h : ∀ z, z ∈ xs ↔ z ∈ ys) : xs.Perm ys := (List.perm_ext_iff_of_nodup hx hy).mpr h
theorem srt_mem {xs : List Str} {z : Str} : z ∈ srt xs ↔ z ∈ xs := (srt_perm xs).mem_iff
theorem srt_nodup {xs : List Str} (h : xs.Nodup) : (srt xs).Nodup := (srt_perm xs).nodup_iff.mpr h
theorem srt_len (xs : List Str) : (srt xs).length = xs.length := (srt_perm xs).length_eq
section
variable {C : Cx} {p : Program} {sc : Scope} {k : Nat}
theorem strsAre_of {aS : Addr} {h : Heap} : ∀ {ys : List Str} {ws : List Value}, VRels aS h (ys.map .str) ws → StrsAre ws ys
 | [], _, r => by rw [r.inv0]; exact .nil
 | y :: ys, _, r => by
  obtain ⟨w, ws, rfl, h1, r2⟩ := r.invC
  obtain ⟨t, rfl⟩ := h1.invStr
  exact .cons y t (strsAre_of r2)
theorem strsAre_rel {aS : Addr} {h : Heap} : ∀ {ys : List Str} {ws : List Value}, StrsAre ws ys → VRels aS h (ys.map .str) ws
 | _, _, .nil => .nil
 | _, _, .cons y t r => .cons (.str y t) (strsAre_rel r)
theorem sorted_strs_of {A : Around} {s : Shared} {σ : View} {r : Value} {Q : V → View → Prop} {P : Value → Shared → Prop} {E : Value → Shared → Prop} {ks : List Str} (ao : AOk C A k) (R : RelG C σ s)
  (hcol : ∀ R' : List Value → Shared → Prop, (∀ (h' : Heap) (tk : Nat) (d : Drawn) (vs : List Value) (ks' : List Str), (∀ b o, s.heap.get? b = some o → h'.get? b = some o) → s.heap.objs.size ≤ h'.objs.size → StrsAre vs ks' → ks'.Perm ks → R' vs { s with heap := h', toks := tk, drawn := d }) →
   wpAny (model C.prog C.w) A.in1 (collect r) R' E s) (hz : ks.length ≤ 16777216)
  (q : newL ((srt ks).map .str) σ Q) (hP : Aft C σ s Q P) : wpAny (model C.prog C.w) A (PySem.call (.builtin "sorted") [r]) P E s := by
 refine call_function_entry kind_sorted plain_sorted entry_sorted (args_sorted1 _) ?_
 unfold Builtin.«sorted»
 refine wpAny_bind (m := checkCount "sorted" 1 1 _) (wpAny_pure ?_)
 refine wpAny_bind (hcol _ fun h' tk d vs ks' hk hsz hs hp => ?_)
 have hvl : vs.length = ks.length := by rw [← hp.length_eq, ← hs.strs, List.length_map]
 refine wpAny_bind (wpAny_newList ?_ (by rw [hvl, sizeLine_eq]; exact hz))
 have hoL : (h'.push (seqObj "list" vs.toArray 0)).get? h'.objs.size = some (seqObj "list" vs.toArray 0) := Heap.get?_push_size _ rfl
 refine wpAny_bind (wpAny_holding (wpAny_call_entry slot_list_sort ⟨_, hoL, rfl⟩ entry_list_sort (sort_strs hoL (by rw [hvl]; exact hz) hs fun out ss' h1 h2 h3 => ⟨_, rfl, ?_⟩) (args_list_sort _)))
 refine wpAny_pure ⟨_, rfl, ?_⟩
 have hsr : ss' = srt ks := srt_of (h2.trans hp) h3
 subst hsr
 obtain ⟨e, he⟩ := sortedHeap_at (out := out.toArray) hoL
 have hk2 : ∀ b o, s.heap.get? b = some o → (sortedHeap (h'.push (seqObj "list" vs.toArray 0)) h'.objs.size vs out.toArray).get? b = some o := fun b o eb => by
  have hb := Heap.lt_size (hk b o eb)
  rw [sortedHeap_old (Nat.ne_of_lt hb) (by rw [Heap.size_push]; exact Nat.lt_succ_of_lt hb)]
  exact Heap.get?_push_of_some _ (hk b o eb)
 have hn : s.heap.get? h'.objs.size = Option.none := get_none_of_size hsz
 have hsz2 : s.heap.objs.size ≤ (sortedHeap (h'.push (seqObj "list" vs.toArray 0)) h'.objs.size vs out.toArray).objs.size := Nat.le_trans hsz (Nat.le_of_lt (Heap.lt_size he))
 exact hP (.ref h'.objs.size) (.ref h'.objs.size) (upd σ h'.objs.size (.list ((srt ks).map .str))) _ (.ref _)
  ((R.draw d).add (tk := tk) (s := { s with drawn := d }) hk2 hn ⟨by rw [List.length_map, srt_len]; exact hz, out, ⟨e, he⟩, strsAre_rel h1⟩) (.add hk2 hsz2 hsz) (q _ (R.freshNone hn))
theorem bb_sorted : bootBuiltins (Str.ofString "sorted") = some (.builtin "sorted") := by decide +kernel
noncomputable def spSorted : Spec
 | [.ref a], σ, Q => match σ a with
  | some (.list xs) => ∃ ks : List Str, xs = ks.map .str ∧ newL ((srt ks).map .str) σ Q
  | some (.dict kvs _) => newL ((srt (kvs.map (·.1))).map .str) σ Q
  | _ => False
 | _, _, _ => False
theorem keys_strs {s : Shared} {kvs : List (Str × V)} {kws : List (Str × Value)} {vs : List Value} (h2 : PRel C.aS s.heap kvs kws) (hl : vs.length = kws.length) (hv : ∀ (j : Nat) (v : Value), vs[j]? = some v → ∃ k x, kws[j]? = some (k, x) ∧ (PySem.strKind C.prog C.w).is k v = true) : StrsAre vs (kvs.map (·.1)) := by
 rw [h2.keys]
 clear h2
 induction kws generalizing vs with
 | nil => have : vs = [] := List.length_eq_zero_iff.mp (by simpa using hl); subst this; exact .nil
 | cons q kws ih =>
  match vs, hl with
  | v :: vs, hl =>
   obtain ⟨ky, x, e1, e2⟩ := hv 0 v rfl
   simp at e1
   subst e1
   obtain ⟨t, rfl⟩ := Value.isStrOf_shape e2
   exact .cons ky t (ih (by simpa using hl) fun j v e => hv (j + 1) v (by simpa using e))
theorem ok_sorted (O : C.Ok) (hpl : C.held = Option.none) : OpN C k (fun ws => PySem.call (.builtin "sorted") ws) spSorted := by
 intro A s σ vs ws Q P E ao R hv q hP
 unfold spSorted at q
 split at q
 ·rename_i a
  obtain ⟨wa, rfl, h1⟩ := hv.inv1
  cases h1
  split at q
  ·rename_i xs hx
   obtain ⟨ks, rfl, q⟩ := q
   obtain ⟨hz, us, h2, h3⟩ := R.view _ _ hx
   have hlen := h3.length
   refine sorted_strs_of (ks := ks) ao R (fun R' hR => with_size (collect_list h2.isList ?_ (by rw [← hlen, sizeLine_eq]; exact hz))) (by simpa using hz) q hP
   intro hsz
   refine hR _ s.toks s.drawn us ks (fun b o e => ?_) hsz (strsAre_of h3) (List.Perm.refl _)
   have hb := Heap.lt_size e
   rw [Heap.get?_update_ne _ _ _ _ (Nat.ne_of_lt hb)]
   exact Heap.get?_push_of_some _ e
  ·rename_i kvs ep hx
   obtain ⟨hz, kws, h2, h3⟩ := R.view _ _ hx
   have hlen := h3.length
   refine sorted_strs_of (ks := kvs.map (·.1)) ao R (fun R' hR => with_size (kdu_collect (kdl_dict (knd := PySem.strKind C.prog C.w) (kvs := kws) (ep := ep) (O.noMods (R.apart a (by rw [hx]; simp)))) (by show A.handled = _; exact ao.none hpl) h2 (kdl_size (by omega)) fun h' tk acc hk hacc => ?_)) (by simpa using hz) q hP
   intro hsz
   exact hR h' tk s.drawn acc.toList _ hk hsz (keys_strs h3 (by rw [Array.length_toList]; exact hacc.1) fun j v e => hacc.2 j v (by rw [← Array.getElem?_toList]; exact e)) (List.Perm.refl _)
  ·exact q.elim
 ·exact q.elim
theorem HE.sortedC (G : Gl C p) (hpl : C.held = Option.none) {np pos : Pos} {es : List Expr} {L : LT} (hn : sc.names.lookup (Str.ofString "sorted") = some .globalImplicit) (hl : HL C sc k es L) (hp : plainArgs es = true) : HE C sc k (.Call (.Name (Str.ofString "sorted") np) es [] pos) (eCall spSorted L) :=
 HE.builtin G.ok (ok_sorted G.ok hpl) hn (G.free _ (by decide)) (G.blt bb_sorted (by decide)) rfl hl hp
noncomputable def eSortK (T : ET) : ET := fun m σ Q => T m σ fun v σ₁ => ∃ a kvs ep, v = .ref a ∧ σ₁ a = some (.dict kvs ep) ∧ newL ((srt (kvs.map (·.1))).map .str) σ₁ Q
theorem HE.sortedKeys (G : Gl C p) (hpl : C.held = Option.none) {np pos ap cp : Pos} {o : Expr} {T : ET} (hn : sc.names.lookup (Str.ofString "sorted") = some .globalImplicit) (ho : HE C sc k o T)
  (hbase : ∀ env, attributeBase o (Str.ofString "keys") env (eval o env) = eval o env) (hline : (ap.endLine == cp.line) = true) :
  HE C sc k (.Call (.Name (Str.ofString "sorted") np) [.Call (.Attribute o (Str.ofString "keys") ap) [] [] cp] [] pos) (eSortK T) := by
 refine ⟨?_⟩; intro env A s m σ Q P E en ao R F q hP
 have O := G.ok
 refine wpAny_Call_NameR (Calls.Name_function_global en.k (en.of hn) (Calls.loadGlobal_builtin (mg := C.mg) (mb := C.mb) (by rw [en.globals]; exact O.g.keeps R.base) (G.free _ (by decide)) (by rw [en.builtins]; exact O.b.keeps R.base) (G.blt bb_sorted (by decide)) ?_) rfl)
 refine Calls.callWith_builtin (starEach_any rfl) (evalArgs_of rfl ?_)
 show wpAny _ A (spliced ((false, eval (.Call (.Attribute o (Str.ofString "keys") ap) [] [] cp) env) :: backTo pos (starEach [] env))) _ E s
 refine Calls.spliced_cons ?_
 refine wpAny_Call_method (T := "dict") (id := "dict.keys") (hbase env) rfl hline _root_.PySem.F.plainAttrs_dict _root_.PySem.F.slot_dict_keys _root_.PySem.F.type_dict_keys ?_
 refine ho.run env A s m σ _ _ E en ao R F q fun v w σ₁ s₁ hv R₁ S₁ q₁ => ?_
 obtain ⟨a, kvs, ep, rfl, hx, q₁⟩ := q₁
 cases hv
 obtain ⟨hz, kws, h1, h2⟩ := R₁.view _ _ hx
 refine ⟨h1.dictOf.typeIs, h1.dictOf.mapOf.noDict, ?_⟩
 show wpAny _ _ (callWith cp (.builtin "dict.keys") [.ref a] [] []) _ E s₁
 refine method_meetsIn _root_.PySem.F.slot_dict_keys _root_.PySem.F.entry_dict_keys rfl (PySem.evalArgs_none ⟨rfl, h1.dictOf.typeIs, _root_.PySem.F.args_dict_keys_1 _, _, kdl_meets_keys (PySem.strKind C.prog C.w) a (O.noMods (R₁.apart a (by rw [hx]; simp))), ⟨kws, h1.dictOf⟩, ?_⟩)
 refine Calls.spliced_nil ?_
 show wpAny _ A (PySem.call (.builtin "sorted") [.ref s₁.heap.objs.size]) P E _
 have hl := h2.length
 have R₂ : RelG C σ₁ { s₁ with heap := s₁.heap.push { cls := .type "dict_keys", data := .fields #[.ref a] } } := R₁.grow (tk := s₁.toks) push_old
 refine sorted_strs_of (ks := kvs.map (·.1)) ao R₂ (fun R' hR => with_size (kdu_collect (kdl_keys (knd := PySem.strKind C.prog C.w) (kvs := kws) (ep := ep) (r := s₁.heap.objs.size) (d := a)) (by show A.handled = _; exact ao.none hpl)
  ⟨⟨_, Heap.get?_push_size _ rfl, rfl, rfl⟩, h1.push _⟩ (kdl_size (by omega)) fun h' tk acc hk hacc => ?_)) (by simpa using hz) q₁ fun v w σ' s' hv' R' S' q' => hP v w σ' s' hv' R' ((S₁.trans .push).trans S') q'
 intro hsz
 exact hR h' tk s₁.drawn acc.toList _ hk hsz (keys_strs h2 (by rw [Array.length_toList]; exact hacc.1) fun j v e => hacc.2 j v (by rw [← Array.getElem?_toList]; exact e)) (List.Perm.refl _)
end
end Mine
end
noncomputable section
namespace Mine
open PySem PySem.W PyProof.Rows PySem.Calls
section
variable {C : Cx} {p : Program} {sc : Scope} {k : Nat}
noncomputable def spDictC : Spec
 | [.ref a], σ, Q => ∃ kvs ep, σ a = some (.dict kvs ep) ∧ newD kvs σ Q
 | _, _, _ => False
theorem ok_dictC (O : C.Ok) : OpN C k (fun ws => PySem.call (.type "dict") ws) spDictC := by
 intro A s σ vs ws Q P E ao R hv q hP
 unfold spDictC at q
 split at q
 ·rename_i a
  obtain ⟨wa, rfl, h1⟩ := hv.inv1
  cases h1
  obtain ⟨kvs, ep, hx, q⟩ := q
  obtain ⟨hz, kws, h1, h2⟩ := R.view _ _ hx
  have hl := h2.length
  refine with_size (kt_call_dict (knd := PySem.strKind C.prog C.w) (O.noMods (R.apart a (by rw [hx]; simp))) h1.dictOf (by rw [sizeLine_eq]; omega) fun h' hd' hs' => ?_)
  intro hsz
  obtain ⟨ep', hat⟩ := hd'.dictAt
  have hn := size_none s.heap
  have hk : ∀ b o, s.heap.get? b = some o → h'.get? b = some o := fun b o e => hs'.extBut b o (Nat.ne_of_lt (Heap.lt_size e)) (Heap.get?_push_of_some _ e)
  exact hP _ _ (upd σ s.heap.objs.size (.dict kvs ep')) _ (.ref _) (R.add (tk := s.toks) hk hn ⟨hz, kws, hat, h2.keep fun b o e _ => hk b o e⟩) (.add hk hsz (Nat.le_refl _)) (q _ ep' (R.freshNone hn))
 ·exact q.elim
theorem HE.dictC (G : Gl C p) {np pos : Pos} {es : List Expr} {L : LT} (hn : sc.names.lookup (Str.ofString "dict") = some .globalImplicit) (hl : HL C sc k es L) (hp : plainArgs es = true) : HE C sc k (.Call (.Name (Str.ofString "dict") np) es [] pos) (eCall spDictC L) :=
 HE.btype G.ok (ok_dictC G.ok) hn (G.free _ (by decide)) (G.blt bb_dict (by decide)) rfl hl hp
noncomputable def spGet : Spec
 | [.ref a, .str x], σ, Q => ∃ kvs ep, σ a = some (.dict kvs ep) ∧ Q ((vget kvs x).getD .none) σ
 | _, _, _ => False
noncomputable def opNotInD : O2
 | .str x, .ref a, σ, Q => ∃ kvs ep, σ a = some (.dict kvs ep) ∧ Q (.bool (!(vget kvs x).isSome)) σ
 | _, _, _, _ => False
theorem ok_notInD (O : C.Ok) : Op2 C k (compareOp .NotIn) opNotInD := by
 intro A s σ a b wa wb Q P E ao R va vb q hP
 unfold opNotInD at q
 split at q
 ·rename_i x a
  cases va; cases vb
  obtain ⟨kvs, ep, hx, q⟩ := q
  obtain ⟨_, kws, h1, h2⟩ := R.view _ _ hx
  refine wpAny_notIn_of (knd := PySem.strKind C.prog C.w) (key_is x _) (O.noMods (R.apart a (by rw [hx]; simp))) h1.dictOf.mapOf ?_
  rw [← h2.none]
  exact hP _ _ σ _ (.bool _) (R.tok _) Step.refl q
 ·exact q.elim
noncomputable def spClear : Spec
 | [.ref a], σ, Q => ∃ xs, σ a = some (.list xs) ∧ Q .none (upd σ a (.list []))
 | _, _, _ => False
theorem ok_clear : OpN C k (fun ws => PySem.call (.builtin "list.clear") ws) spClear := by
 intro A s σ vs ws Q P E ao R hv q hP
 unfold spClear at q
 split at q
 ·rename_i a
  obtain ⟨wa, rfl, h1⟩ := hv.inv1
  cases h1
  obtain ⟨xs, hx, q⟩ := q
  obtain ⟨hz, us, ⟨n, h3⟩, h4⟩ := R.view _ _ hx
  have e := h4.length
  refine call_meets _root_.PySem.F.slot_list_clear ⟨_, h3, rfl⟩ _root_.PySem.F.entry_list_clear (_root_.PySem.F.args_list_clear_1 _) (_root_.PySem.AutoSeq1.list_clear_list_0 a us.toArray n (by rw [List.size_toArray, ← e, sizeLine_eq]; exact hz)) ⟨h3, ?_⟩
  have hs' := Heap.SameBut.update s.heap a (Obj.mapSeq fun _ => (#[] : Array Value))
  have kt : TupKeep s.heap (s.heap.update a (Obj.mapSeq fun _ => #[])) := fun b o eb ht => hs'.extBut b o (by rintro rfl; rw [h3] at eb; cases eb; simp [IsT] at ht) eb
  exact hP .none .none (upd σ a (.list [])) _ .none (R.change (tk := s.toks) hx hs' ⟨by simp, [], ⟨_, get?_update_seq h3 (fun _ => #[])⟩, .nil⟩) (.change hx hs') q
 ·exact q.elim
theorem HE.clear {o : Expr} {apos pos : Pos} {es : List Expr} {To : ET} {L : LT} (ho : HE C sc k o To) (hl : HL C sc k es L) (hp : plainArgs es = true)
  (hbase : ∀ env, attributeBase o (Str.ofString "clear") env (eval o env) = eval o env) (hline : (apos.endLine == pos.line) = true) (hfew : es.length < 30) : HE C sc k (.Call (.Attribute o (Str.ofString "clear") apos) es [] pos) (eMeth tyList spClear To L) :=
 HE.meth tyList_ok F.plainAttrs_list F.slot_list_clear F.type_list_clear ok_clear ho hl hp hbase hline hfew
noncomputable def sSetT (g : Tgt) (T : ET) : ST := fun m σ Q => T m σ fun v σ' => ∃ m', bindT g v m = some m' ∧ Q .next m' σ'
theorem HS1.setT {elts : List Expr} {n : Nat} {p pos : Pos} {value : Expr} {g : Tgt} {loc : Bool} {T : ET} (ht : HT C sc k loc (.Tuple elts n p) g) (he : HE C sc k value T) (hs : ∀ env, EnvOk env sc → swapsWithSole [.Tuple elts n p] value pos.line env = pure false)
  (hw : ∀ env, EnvOk env sc → swappedStores [.Tuple elts n p] value env = pure Option.none) : HS1 C sc k (.Assign [.Tuple elts n p] value pos) (sSetT g T) := by
 refine ⟨?_⟩; intro env A s m σ Q P E en ao R F q hP
 refine Assign_Tuple (he.run env A s m σ _ _ E en ao R F q fun v w σ₁ s₁ hv R₁ S₁ q₁ => ?_) (hs env en) (hw env en)
 obtain ⟨m', hm, q₁⟩ := q₁
 exact ht.run env A s₁ m m' σ₁ v w _ _ en ao R₁ (F.step R S₁) hv hm fun s₂ R₂ F₂ S₂ => hP .next .next _ σ₁ s₂ .next R₂ F₂ ((S₁.own).trans (S₂.mono fun _ _ _ z => z.imp id fun z => z.2)) q₁
end
section
variable {m : Loc} {σ : View} {Q : V → View → Prop} {R : Fl → Loc → View → Prop} {ns : List Int}
@[simp] theorem sSetT_eq {g : Tgt} {T : ET} : sSetT g T m σ R = T m σ fun v σ' => ∃ m', bindT g v m = some m' ∧ R .next m' σ' := rfl
@[simp] theorem eSortK_eq {T : ET} : eSortK T m σ Q = T m σ fun v σ₁ => ∃ a kvs ep, v = .ref a ∧ σ₁ a = some (.dict kvs ep) ∧ newL ((srt (kvs.map (·.1))).map .str) σ₁ Q := rfl
theorem dictc_dict {a : Addr} {kvs : List (Str × V)} {ep : Nat} (h : σ a = some (.dict kvs ep)) (q : newD kvs σ Q) : spDictC [.ref a] σ Q := ⟨kvs, ep, h, q⟩
theorem notin_dict {a : Addr} {kvs : List (Str × V)} {ep : Nat} {x : Str} (h : σ a = some (.dict kvs ep)) (q : Q (.bool (!(vget kvs x).isSome)) σ) : opNotInD (.str x) (.ref a) σ Q := ⟨kvs, ep, h, q⟩
theorem sorted_dict {a : Addr} {kvs : List (Str × V)} {ep : Nat} (h : σ a = some (.dict kvs ep)) : spSorted [.ref a] σ Q = newL ((srt (kvs.map (·.1))).map .str) σ Q := by unfold spSorted; simp [h]
noncomputable def Flat0 : V → Prop
 | .none | .bool _ | .int _ | .str _ => True
 | _ => False
noncomputable def FlatN : Nat → V → Prop
 | 0, v => Flat0 v
 | n + 1, .tup vs => ∀ v ∈ vs, FlatN n v
 | _ + 1, v => Flat0 v
theorem veq0_flat {v : V} (h : Flat0 v) : veq0 v v = some true := by
 cases v <;> first | exact h.elim | simp [veq0]
theorem rowq_same {f : V → V → Option Bool} : ∀ {xs : List V}, (∀ x ∈ xs, f x x = some true) → rowq f xs xs = some true
 | [], _ => rfl
 | x :: xs, h => by
  unfold rowq
  rw [h x (List.mem_cons_self ..)]
  exact rowq_same fun y hy => h y (List.mem_cons_of_mem _ hy)
theorem dq_flat : ∀ {n : Nat} {v : V}, FlatN n v → dq n σ v v = some true
 | 0, v, h => veq0_flat h
 | n + 1, v, h => by
  cases v <;> first | exact veq0_flat h | exact (h : False).elim | skip
  exact rowq_same fun x hx => dq_flat (h x hx)
theorem dq_list {n : Nat} {a b : Addr} {xs : List V} (ha : σ a = some (.list xs)) (hb : σ b = some (.list xs)) (h : ∀ x ∈ xs, FlatN n x) : dq (n + 1) σ (.ref a) (.ref b) = some true := by
 simp only [dq, ha, hb, if_true]
 exact rowq_same fun x hx => dq_flat (h x hx)
theorem dictq_same {k0 : List (Str × V)} (hn : (k0.map (·.1)).Nodup) (hf : ∀ q ∈ k0, Flat0 q.2) : ∀ {k1 : List (Str × V)}, (∀ q ∈ k1, q ∈ k0) → dictq k0 k1 = some true
 | [], _ => rfl
 | (k, v) :: k1, hm => by
  have hg : ∃ y, vget k0 k = some y ∧ (k, y) ∈ k0 := vget_mem (List.mem_map.mpr ⟨_, hm _ (List.mem_cons_self ..), rfl⟩)
  obtain ⟨y, hy, hmem⟩ := hg
  have e : y = v := by
   have hq := hm _ (List.mem_cons_self ..)
   clear hy hm
   induction k0 with
   | nil => cases hq
   | cons p k0 ih =>
    rw [List.map_cons, List.nodup_cons] at hn
    rcases List.mem_cons.mp hq with e1 | hq
    ·rcases List.mem_cons.mp hmem with e2 | hmem
     ·rw [← e1] at e2; exact congrArg (·.2) e2
     ·exact absurd (List.mem_map.mpr ⟨_, hmem, by rw [← e1]⟩) hn.1
    ·rcases List.mem_cons.mp hmem with e2 | hmem
     ·exact absurd (List.mem_map.mpr ⟨_, hq, by rw [← e2]⟩) hn.1
     ·exact ih hn.2 (fun q hq => hf q (List.mem_cons_of_mem _ hq)) hmem hq
  subst e
  unfold dictq
  rw [hy]
  dsimp only
  rw [veq0_flat (hf _ hmem), dictq_same hn hf fun q hq => hm q (List.mem_cons_of_mem _ hq)]
  rfl
theorem dq_dict {n : Nat} {a b : Addr} {kvs : List (Str × V)} {e1 e2 : Nat} (ha : σ a = some (.dict kvs e1)) (hb : σ b = some (.dict kvs e2)) (hn : (kvs.map (·.1)).Nodup) (hf : ∀ q ∈ kvs, Flat0 q.2) : dq (n + 1) σ (.ref a) (.ref b) = some true := by
 simp only [dq, ha, hb, if_true]
 exact dictq_same hn hf fun q hq => hq
theorem dq_tup {n : Nat} {xs ys : List V} (h : rowq (dq n σ) xs ys = some true) : dq (n + 1) σ (.tup xs) (.tup ys) = some true := h
theorem rowq_cons {f : V → V → Option Bool} {x y : V} {xs ys : List V} (h : f x y = some true) (h' : rowq f xs ys = some true) : rowq f (x :: xs) (y :: ys) = some true := by
 unfold rowq
 rw [h]
 exact h'
theorem eqD_true {a b : V} (h : dq 4 σ a b = some true) (q : Q (.bool true) σ) : opEqD a b σ Q := ⟨true, h, q⟩
theorem neD_false {a b : V} (h : dq 4 σ a b = some true) (q : Q (.bool false) σ) : opNe a b σ Q := ⟨true, h, q⟩
end
end Mine
end
noncomputable section
namespace Mine
open PySem
noncomputable def FrsOk (C : Cx) (σ : View) (h : Heap) (fs : List Env) : Prop := ∀ x ∈ fs, x.scope.kind ≠ .module ∧ ∃ L, x.frame = some L ∧ C.hB.get? L = none ∧ σ L = none ∧ ∃ o es ep, h.get? L = some o ∧ o.data = .dict es ep
structure FOk (C : Cx) (A : Around) (env : Env) (σ : View) (h : Heap) : Prop where
 frames : ∃ outer, A.frames = some (env :: outer) ∧ FrsOk C σ h outer ∧ ∀ x ∈ outer, ∀ L, x.frame = some L → ¬ Own env L
 frame : env.frame = some env.locals
inductive FlyB (n : Nat) (σ : View) (h : Heap) (e : Addr) (ok : Option Value → Prop) (vs : Array Value) : Prop
 | mk (T : Addr) (oT : Obj) (ts : Array Value) (fl : Value) (h1 : vs[1]? = some (.ref T)) (hn : n ≤ T) (hs : σ T = none) (hne : T ≠ e) (ho : h.get? T = some oT) (hd : oT.data = .fields ts) (h3 : ts[3]? = some fl) (hk : ok (some fl)) : FlyB n σ h e ok vs
inductive FlyTb (n : Nat) (σ : View) (h : Heap) (e : Addr) (ok : Option Value → Prop) (vs : Array Value) : Prop
 | inl (x : ok none ∧ vs[1]? = some .none) : FlyTb n σ h e ok vs
 | inr (x : FlyB n σ h e ok vs) : FlyTb n σ h e ok vs
inductive FlyO (C : Cx) (c : String) (n : Nat) (σ : View) (h : Heap) (e : Addr) (ok : Option Value → Prop) : Prop
 | mk (oe : Obj) (vs : Array Value) (Cl : Addr) (he : h.get? e = some oe) (hg : C.mg (Str.ofString c) = some (.ref Cl)) (hc : oe.cls = .ref Cl) (hd : oe.data = .fields vs) (h2 : vs[2]? = some .none) (h2s : 2 < vs.size) (tb : FlyTb n σ h e ok vs) : FlyO C c n σ h e ok
structure Fly (C : Cx) (c : String) (n : Nat) (σ : View) (h : Heap) (e : Addr) (ok : Option Value → Prop) : Prop where
 obj : FlyO C c n σ h e ok
 new : n ≤ e
 sep : σ e = none
structure Moved (n : Nat) (σ : View) (S : List Addr) (h h' : Heap) : Prop where
 size : h.objs.size ≤ h'.objs.size
 keep : ∀ b o, h.get? b = some o → (b < n ∨ σ b ≠ none ∨ ∀ vs, o.data ≠ .fields vs) → b ∉ S → h'.get? b = some o
 slots : ∀ b o, h.get? b = some o → b ∈ S → ∃ sl, h'.get? b = some { o with slots := sl }
theorem Moved.trans {n : Nat} {σ : View} {S : List Addr} {h₁ h₂ h₃ : Heap} (x : Moved n σ S h₁ h₂) (y : Moved n σ S h₂ h₃) : Moved n σ S h₁ h₃ where
 size := Nat.le_trans x.size y.size
 keep := fun b o e z q => y.keep b o (x.keep b o e z q) z q
 slots := fun b o e q => by
  obtain ⟨sl, h1⟩ := x.slots b o e q
  obtain ⟨sl', h2⟩ := y.slots b _ h1 q
  exact ⟨sl', h2⟩
theorem Moved.refl {n : Nat} {σ : View} {S : List Addr} {h : Heap} : Moved n σ S h h := ⟨Nat.le_refl _, fun _ _ e _ _ => e, fun _ o e _ => ⟨o.slots, e⟩⟩
section
variable {C : Cx} {M : Model} {A : Around} {E : Value → Shared → Prop} {s : Shared} {env : Env} {σ : View} {m : Loc} {c : String} {n : Nat} {e : Addr} {ok : Option Value → Prop}
noncomputable def frs (env : Env) (outer : List Env) : List Addr := (env :: outer).filterMap (·.frame)
theorem fun_frames {outer : List Env} (hf : env.frame = some env.locals) (hk : env.scope.kind = .function) (F : FrameRel C env m σ s.heap) (ho : FrsOk C σ s.heap outer) : s.heap.FunFrames C.hB (env :: outer) := by
 obtain ⟨mm, ⟨oL, es, ep, hoL, hdL, _⟩, _⟩ := F.ns
 refine ⟨by rw [hk]; decide, ⟨_, oL, hf, F.baseL, hoL, fun vs q => by rw [hdL] at q; cases q⟩, ?_⟩
 clear F hoL hdL
 induction outer with
 | nil => trivial
 | cons x r ih =>
  obtain ⟨h1, L, h2, h3, h4, o, es', ep', h5, h6⟩ := ho x (.head _)
  exact ⟨h1, ⟨L, o, h2, h3, h5, fun vs q => by rw [h6] at q; cases q⟩, ih fun y hy => ho y (.tail _ hy)⟩
theorem newEntryX {outer : List Env} {oe : Obj} {vs : Array Value} {Cl : Addr} {head : Value} {had : Bool} {Q : Unit → Shared → Prop} (hfr : A.frames = some (env :: outer)) (hl : s.heap.FunFrames C.hB (env :: outer)) (hf : env.frame = some env.locals)
  (he : s.heap.get? e = some oe) (hmg : C.mg (Str.ofString c) = some (.ref Cl)) (hcls : oe.cls = .ref Cl) (hd : oe.data = .fields vs) (h2 : vs[2]? = some .none) (hn : n ≤ e) (hnz : n ≤ s.heap.objs.size) (hs : σ e = none) (hsT : σ s.heap.objs.size = none)
  (h : ∀ h', Fly C c n σ h' e (fun x => x = some (rawInt env.locals)) → Moved n σ (frs env outer) s.heap h' → Q () { s with heap := h' }) :
  wpAny M A (do let a ← frameOf env; let pl ← entryPlaceOf env.locals had; let b ← EntryCells.newEntry head a .none (rawInt env.locals) .none pl; setField (.ref e) 1 b) Q E s := by
 have hene : e ∉ frs env outer := fun hm => by
  obtain ⟨_, o, ho, hnf⟩ := hl.mem hm
  rw [he] at ho; cases ho; exact hnf vs hd
 have h1sz : 2 < vs.size := (Array.getElem?_eq_some_iff.mp h2).1
 refine wpAny_bind (wpAny_frameOf_fun hfr hl hf fun h₁ hs₁ => ?_)
 refine wpAny_bind (wpAny_entryPlaceOf fun pl hpl => ?_)
 unfold EntryCells.newEntry newFields
 refine wpAny_bind (wpAny_newObj_type ?_ (hpl.sizeOk5 _ _ _ _ _))
 generalize hot : ({ cls := .type "traceback", dict := none, data := .fields ([head, .ref env.locals, .none, rawInt env.locals, .none] ++ (if pl.isEmpty then List.replicate 6 Value.none else pl)).toArray } : Obj) = ot
 have hdt : ot.data = .fields ([head, .ref env.locals, .none, rawInt env.locals, .none] ++ (if pl.isEmpty then List.replicate 6 Value.none else pl)).toArray := by rw [← hot]
 have he₁ : h₁.get? e = some oe := (hs₁.2.1 e hene).trans he
 have he₂ := Heap.get?_push_of_some (h := h₁) ot he₁
 have hTe : h₁.objs.size ≠ e := Nat.ne_of_gt (Heap.lt_size he₁)
 have hd₃ := Obj.data_mapFields hd (·.setIfInBounds 1 (Value.ref h₁.objs.size))
 refine wpAny_setField he₂ hd (by exact Nat.le_of_lt h1sz) (h _ ?_ ?_)
 ·have he₃ := Heap.get?_update_self (Obj.mapFields (·.setIfInBounds 1 (Value.ref h₁.objs.size))) he₂ (Obj.isFreed_of_fields hd₃)
  have hT₃ := (Heap.get?_update_other (h₁.push ot) (Obj.mapFields (·.setIfInBounds 1 (Value.ref h₁.objs.size))) (Ne.symm hTe)).trans (Heap.get?_push_size h₁ (by rw [← hot]; rfl))
  refine ⟨⟨_, _, Cl, he₃, hmg, (Obj.cls_mapFields _ _).trans hcls, hd₃, by rw [Array.getElem?_setIfInBounds_ne (by decide)]; exact h2, by rw [Array.size_setIfInBounds]; exact h1sz, .inr ⟨h₁.objs.size, ot, _, rawInt env.locals, by rw [Array.getElem?_setIfInBounds_self_of_lt (by exact Nat.le_of_lt h1sz)], by rw [hs₁.1]; exact hnz, by rw [hs₁.1]; exact hsT, hTe, hT₃, hdt, by rfl, rfl⟩⟩, hn, hs⟩
 ·refine ⟨?_, fun b o hb hz hq => ?_, fun b o hb hq => ?_⟩
  ·rw [Heap.size_after_update, Heap.size_push, hs₁.1]; exact Nat.le_succ _
  ·have hbe : b ≠ e := by
    rintro rfl
    rw [he] at hb; cases hb
    rcases hz with z | z | z
    ·exact absurd hn (Nat.not_le.mpr z)
    ·exact z hs
    ·exact z vs hd
   rw [Heap.get?_update_other _ _ (Ne.symm hbe)]
   exact Heap.get?_push_of_some _ ((hs₁.2.1 b hq).trans hb)
  ·obtain ⟨sl, h3⟩ := hs₁.2.2 b o hb
   have hbe : b ≠ e := fun q => hene (q ▸ hq)
   exact ⟨sl, by rw [Heap.get?_update_other _ _ (Ne.symm hbe)]; exact Heap.get?_push_of_some _ h3⟩
theorem Fly.head {T : Addr} {oe oT : Obj} {vs ts : Array Value} {Cl : Addr} {h : Heap} {S : List Addr} (v : Value) (he : h.get? e = some oe) (hmg : C.mg (Str.ofString c) = some (.ref Cl)) (hcls : oe.cls = .ref Cl) (hd : oe.data = .fields vs) (h2 : vs[2]? = some .none) (h2s : 2 < vs.size)
  (h1 : vs[1]? = some (.ref T)) (hT : n ≤ T) (hσ : σ T = none) (hTe : T ≠ e) (hoT : h.get? T = some oT) (hdT : oT.data = .fields ts) (h3 : 3 < ts.size) (hn : n ≤ e) (hs : σ e = none) (hTS : T ∉ S) :
  Fly C c n σ (h.update T (Obj.mapFields (·.setIfInBounds 3 v))) e (fun x => x = some v) ∧ Moved n σ S h (h.update T (Obj.mapFields (·.setIfInBounds 3 v))) := by
 have other : ∀ b, b ≠ T → (h.update T (Obj.mapFields (·.setIfInBounds 3 v))).get? b = h.get? b := fun b hb => Heap.get?_update_other _ _ (Ne.symm hb)
 have hd₃ := Obj.data_mapFields hdT (·.setIfInBounds 3 v)
 have self := Heap.get?_update_self (Obj.mapFields (·.setIfInBounds 3 v)) hoT (Obj.isFreed_of_fields hd₃)
 refine ⟨⟨⟨oe, vs, Cl, (other e (Ne.symm hTe)).trans he, hmg, hcls, hd, h2, h2s, .inr ⟨T, _, _, v, h1, hT, hσ, hTe, self, hd₃, by rw [Array.getElem?_setIfInBounds_self_of_lt h3], rfl⟩⟩, hn, hs⟩, ?_⟩
 refine ⟨by rw [Heap.size_after_update]; exact Nat.le_refl _, fun b o hb hz hq => ?_, fun b o hb hq => ⟨o.slots, (other b (fun q => hTS (q ▸ hq))).trans hb⟩⟩
 refine (other b ?_).trans hb
 rintro rfl
 rw [hoT] at hb; cases hb
 rcases hz with z | z | z
 ·exact absurd hT (Nat.not_le.mpr z)
 ·exact z hσ
 ·exact z ts hdT
theorem noteX {outer : List Env} {Q : Unit → Shared → Prop} (hfr : A.frames = some (env :: outer)) (hl : s.heap.FunFrames C.hB (env :: outer)) (hf : env.frame = some env.locals) (hnz : n ≤ s.heap.objs.size) (hsT : σ s.heap.objs.size = none)
  (X : Fly C c n σ s.heap e (fun x => x = none ∨ x = some .none ∨ x = some (rawInt env.locals)))
  (h : ∀ h', Fly C c n σ h' e (fun x => x = some (rawInt env.locals)) → Moved n σ (frs env outer) s.heap h' → Q () { s with heap := h' }) : wpAny M A (noteFrame (.ref e) env) Q E s := by
 obtain ⟨⟨oe, vs, Cl, he, hmg, hcls, hd, h2, h2s, hT⟩, hn, hs⟩ := X
 unfold noteFrame
 simp only [hf]
 rcases hT with ⟨_, h1⟩ | ⟨T, oT, ts, fl, h1, hT, hσ, hTe, hoT, hdT, h3, hok⟩
 ·refine wpAny_bind (wpAny_field he hd h1 ?_)
  rw [if_neg (by decide)]
  exact newEntryX hfr hl hf he hmg hcls hd h2 hn hnz hs hsT h
 ·refine wpAny_bind (wpAny_field he hd h1 ?_)
  rw [if_pos (show (Value.ref T != Value.none) = true from by simp)]
  refine wpAny_bind (wpAny_field hoT hdT h3 ?_)
  have h3s : 3 < ts.size := (Array.getElem?_eq_some_iff.mp h3).1
  have hTS : T ∉ frs env outer := fun hm => by
   obtain ⟨_, o, ho, hnf⟩ := hl.mem hm
   rw [hoT] at ho; cases ho; exact hnf ts hdT
  rcases hok with hok | hok | hok
  ·cases hok
  ·cases hok
   rw [if_neg (show ¬ ((Value.none == rawInt env.locals) = true) from by simp [rawInt])]
   refine wpAny_bind (wpAny_setField hoT hdT h3s ?_)
   obtain ⟨⟨⟨oe', vs', Cl', he', hmg', hcls', hd', h2', _, _⟩, _, _⟩, Mv⟩ := Fly.head (S := frs env outer) (c := c) .none he hmg hcls hd h2 h2s h1 hT hσ hTe hoT hdT h3s hn hs hTS
   refine newEntryX hfr (hl.of_keeps fun b o hb hnf => ⟨o, ?_, rfl⟩) hf he' hmg' hcls' hd' h2' hn (by rw [Heap.size_after_update]; exact hnz) hs (by rw [Heap.size_after_update]; exact hsT) fun h' F' M' => h h' F' (Mv.trans M')
   rw [Heap.get?_update_other _ _ (fun q => by rw [← q, hoT] at hb; cases hb; exact hnf ts hdT)]
   exact hb
  ·cases hok
   rw [if_pos (show (rawInt env.locals == rawInt env.locals) = true from by simp)]
   exact wpAny_pure (h s.heap ⟨⟨oe, vs, Cl, he, hmg, hcls, hd, h2, h2s, .inr ⟨T, oT, ts, _, h1, hT, hσ, hTe, hoT, hdT, h3, rfl⟩⟩, hn, hs⟩ .refl)
theorem flightX {fr : Option Addr} {S : List Addr} {Q : Unit → Shared → Prop} (X : Fly C c n σ s.heap e (fun x => x ≠ none)) (hS : ∀ b o, s.heap.get? b = some o → b ∈ S → ∀ vs, o.data ≠ .fields vs)
  (h : ∀ h', Fly C c n σ h' e (fun x => x = some (fr.elim .none fun f => rawInt f)) → Moved n σ S s.heap h' → Q () { s with heap := h' }) : wpAny M A (setFlight (.ref e) fr) Q E s := by
 obtain ⟨⟨oe, vs, Cl, he, hmg, hcls, hd, h2, h2s, hT⟩, hn, hs⟩ := X
 rcases hT with ⟨h0, _⟩ | ⟨T, oT, ts, fl, h1, hT, hσ, hTe, hoT, hdT, h3, _⟩
 ·exact absurd rfl h0
 have h3s : 3 < ts.size := (Array.getElem?_eq_some_iff.mp h3).1
 unfold setFlight
 refine wpAny_bind (wpAny_field he hd h1 ?_)
 rw [if_pos (show (Value.ref T != Value.none) = true from by simp)]
 obtain ⟨F', M'⟩ := Fly.head (S := S) (c := c) (fr.elim .none fun f => rawInt f) he hmg hcls hd h2 h2s h1 hT hσ hTe hoT hdT h3s hn hs fun hm => hS T oT hoT hm ts hdT
 exact wpAny_setField hoT hdT h3s (h _ F' M')
theorem Fly.mono {ok' : Option Value → Prop} {h : Heap} (X : Fly C c n σ h e ok) (k : ∀ x, ok x → ok' x) : Fly C c n σ h e ok' := by
 obtain ⟨⟨oe, vs, Cl, he, hmg, hcls, hd, h2, h2s, hT⟩, hn, hs⟩ := X
 refine ⟨⟨oe, vs, Cl, he, hmg, hcls, hd, h2, h2s, ?_⟩, hn, hs⟩
 rcases hT with ⟨h0, h1⟩ | ⟨T, oT, ts, fl, h1, hT, hσ, hTe, hoT, hdT, h3, hk⟩
 ·exact .inl ⟨k _ h0, h1⟩
 ·exact .inr ⟨T, oT, ts, fl, h1, hT, hσ, hTe, hoT, hdT, h3, k _ hk⟩
theorem Fly.less {n' : Nat} {h : Heap} (X : Fly C c n σ h e ok) (k : n' ≤ n) : Fly C c n' σ h e ok := by
 obtain ⟨⟨oe, vs, Cl, he, hmg, hcls, hd, h2, h2s, hT⟩, hn, hs⟩ := X
 refine ⟨⟨oe, vs, Cl, he, hmg, hcls, hd, h2, h2s, ?_⟩, Nat.le_trans k hn, hs⟩
 rcases hT with ⟨h0, h1⟩ | ⟨T, oT, ts, fl, h1, hT, hσ, hTe, hoT, hdT, h3, hk⟩
 ·exact .inl ⟨h0, h1⟩
 ·exact .inr ⟨T, oT, ts, fl, h1, Nat.le_trans k hT, hσ, hTe, hoT, hdT, h3, hk⟩
end
end Mine
end
noncomputable section
namespace Mine
open PySem
section
variable {C : Cx} {env : Env} {m : Loc} {σ σ' : View} {n : Nat} {S : List Addr}
noncomputable def DS (h : Heap) (S : List Addr) : Prop := ∀ b ∈ S, ∀ o, h.get? b = some o → ∃ es ep, o.data = .dict es ep
theorem Moved.tups {h h' : Heap} (M : Moved n σ S h h') (d : DS h S) : TupKeep h h' := fun b o e ht => by
 obtain ⟨_, it, k, hd⟩ := ht
 refine M.keep b o e (.inr (.inr fun vs q => by rw [hd] at q; cases q)) fun hb => ?_
 obtain ⟨es, ep, q⟩ := d b hb o e
 rw [hd] at q; cases q
theorem RelG.moved {s : Shared} {h' : Heap} (R : RelG C σ s) (M : Moved n σ S s.heap h') (d : DS s.heap S) (hS : ∀ b ∈ S, C.hB.get? b = none ∧ σ b = none) (hn : ∀ b o, C.hB.get? b = some o → b < n) : RelG C σ { s with heap := h' } := by
 refine ⟨let ⟨_, tk, dr, e⟩ := R.rest; ⟨h', tk, dr, by rw [e]⟩, fun b o e => ?_, fun a o e => ?_, R.apart⟩
 ·exact M.keep b o (R.base b o e) (.inl (hn b o e)) fun hb => by rw [(hS b hb).1] at e; cases e
 ·refine (R.view a o e).keep (M.tups d) fun o' e' => M.keep a o' e' (.inr (.inl (by rw [e]; simp))) fun hb => by rw [(hS a hb).2] at e; cases e
theorem Moved.like {h h' : Heap} {b : Addr} {o : Obj} (M : Moved n σ S h h') (d : DS h S) (e : h.get? b = some o) (z : b < n ∨ σ b ≠ none ∨ ∀ vs, o.data ≠ .fields vs) : ∃ o', h'.get? b = some o' ∧ Like o o' := by
 by_cases hb : b ∈ S
 ·obtain ⟨sl, h1⟩ := M.slots b o e hb
  exact ⟨_, h1, .inr ⟨d b hb o e, sl, rfl⟩⟩
 ·exact ⟨o, M.keep b o e z hb, .refl o⟩
theorem FrameRel.moved {h h' : Heap} (F : FrameRel C env m σ h) (M : Moved n σ S h h') (d : DS h S) : FrameRel C env m σ h' := by
 have kt := M.tups d
 have kc : ∀ c v, h.IsCell c v → h'.IsCell c v := fun c v ⟨o, ho, hd⟩ => ⟨o, M.keep c o ho (.inr (.inr fun vs q => by rw [hd] at q; cases q)) (fun hb => by
  obtain ⟨es, ep, q⟩ := d c hb o ho
  rw [hd] at q; cases q), hd⟩
 obtain ⟨mm, hn, hv⟩ := F.ns
 refine ⟨⟨mm, Like.ns hn fun o e => M.like d e (.inr (.inr fun vs q => ?_)), fun x v e k => ?_⟩, fun x v e => ?_, fun n c e => ?_, F.sepL, F.baseL, F.baseC, F.dist, F.has⟩
 ·obtain ⟨oL, es, ep, ho, hd, _⟩ := hn
  rw [ho] at e; cases e; rw [hd] at q; cases q
 ·obtain ⟨w, h1, h2⟩ := hv x v e k; exact ⟨w, h1, h2.keep kt⟩
 ·rcases F.cel x v e with q | ⟨q, c, w, h1, h2, h3⟩
  ·exact .inl q
  ·exact .inr ⟨q, c, w, h1, kc _ _ h2, h3.keep kt⟩
 ·obtain ⟨v, hv⟩ := F.cells n c e; exact ⟨v, kc _ _ hv⟩
theorem Step.moved {own : Addr → Prop} {σ₀ : View} {h₀ h h' : Heap} (x : Step own σ₀ σ h₀ h) (M : Moved n σ S h h') (d : DS h S) (hn : h₀.objs.size ≤ n) : Step own σ₀ σ h₀ h' where
 keepL := fun b o e z q => by
  obtain ⟨o', h1, h2⟩ := x.keepL b o e z q
  obtain ⟨o'', h3, h4⟩ := M.like d h1 (.inl (Nat.lt_of_lt_of_le (Heap.lt_size e) hn))
  exact ⟨o'', h3, h2.trans h4⟩
 size := Nat.le_trans x.size M.size
 new := x.new
theorem Like.dict {o o' : Obj} (x : Like o o') {es : Array DictEntry} {ep : Nat} (h : o.data = .dict es ep) : o'.data = .dict es ep := by
 rcases x with rfl | ⟨_, sl, rfl⟩ <;> exact h
theorem FrsOk.step {own : Addr → Prop} {h h' : Heap} {fs : List Env} (x : FrsOk C σ h fs) (S : Step own σ σ' h h') (ho : ∀ y ∈ fs, ∀ L, y.frame = some L → ¬ own L) : FrsOk C σ' h' fs := fun y hy => by
 obtain ⟨h1, L, h2, h3, h4, o, es, ep, h5, h6⟩ := x y hy
 obtain ⟨o', h7, h8⟩ := S.keepL L o h5 h4 (ho y hy L h2)
 refine ⟨h1, L, h2, h3, ?_, o', es, ep, h7, h8.dict h6⟩
 cases z : σ' L with
 | none => rfl
 | some q => exact absurd (Heap.lt_size h5) (Nat.not_lt.mpr (S.new L h4 (by rw [z]; simp)))
theorem FOk.step {A : Around} {h h' : Heap} (x : FOk C A env σ h) (S : Step (Own env) σ σ' h h') : FOk C A env σ' h' := by
 obtain ⟨⟨outer, h1, h2, h3⟩, h4⟩ := x
 exact ⟨⟨outer, h1, h2.step S h3, h3⟩, h4⟩
theorem frs_ok {s : Shared} {outer : List Env} (F : FrameRel C env m σ s.heap) (hf : env.frame = some env.locals) (ho : FrsOk C σ s.heap outer) : DS s.heap (frs env outer) ∧ ∀ b ∈ frs env outer, C.hB.get? b = none ∧ σ b = none := by
 have key : ∀ b ∈ frs env outer, (C.hB.get? b = none ∧ σ b = none) ∧ ∃ o es ep, s.heap.get? b = some o ∧ o.data = .dict es ep := by
  intro b hb
  unfold frs at hb
  rw [List.filterMap_cons, hf] at hb
  rcases List.mem_cons.mp hb with rfl | hb
  ·obtain ⟨mm, ⟨oL, es, ep, hoL, hdL, _⟩, _⟩ := F.ns
   exact ⟨⟨F.baseL, F.sepL⟩, oL, es, ep, hoL, hdL⟩
  ·obtain ⟨y, hy, hyb⟩ := List.mem_filterMap.mp hb
   obtain ⟨_, L, h2, h3, h4, h5⟩ := ho y hy
   rw [h2] at hyb; cases hyb
   exact ⟨⟨h3, h4⟩, h5⟩
 refine ⟨fun b hb o e => ?_, fun b hb => (key b hb).1⟩
 obtain ⟨_, o', es, ep, h1, h2⟩ := key b hb
 rw [e] at h1; cases h1; exact ⟨es, ep, h2⟩
end
abbrev XT := String → Loc → View → Prop
abbrev STX := Loc → View → (Fl → Loc → View → Prop) → XT → Prop
noncomputable def okIn (env : Env) : Option Value → Prop := fun x => x = none ∨ x = some .none ∨ x = some (rawInt env.locals)
abbrev AftX (C : Cx) (env : Env) (σ : View) (s : Shared) (X : XT) (E : Value → Shared → Prop) : Prop :=
 ∀ c e m' σ' s', Fly C c s.heap.objs.size σ' s'.heap e (okIn env) → RelG C σ' s' → FrameRel C env m' σ' s'.heap → Step (Own env) σ σ' s.heap s'.heap → X c m' σ' → E (.ref e) s'
structure HSX (C : Cx) (sc : Scope) (k : Nat) (b : List Stmt) (T : STX) : Prop where
 run : ∀ (env : Env) (A : Around) (s : Shared) (m : Loc) (σ : View) (Q : Fl → Loc → View → Prop) (X : XT) (P : Flow → Shared → Prop) (E : Value → Shared → Prop),
  EnvOk env sc → AOk C A k → RelG C σ s → FrameRel C env m σ s.heap → FOk C A env σ s.heap → T m σ Q X → AftS C env σ s Q P → AftX C env σ s X E → wpAny (model C.prog C.w) A (execs b env) P E s
structure HSX1 (C : Cx) (sc : Scope) (k : Nat) (b : Stmt) (T : STX) : Prop where
 run : ∀ (env : Env) (A : Around) (s : Shared) (m : Loc) (σ : View) (Q : Fl → Loc → View → Prop) (X : XT) (P : Flow → Shared → Prop) (E : Value → Shared → Prop),
  EnvOk env sc → AOk C A k → RelG C σ s → FrameRel C env m σ s.heap → FOk C A env σ s.heap → T m σ Q X → AftS C env σ s Q P → AftX C env σ s X E → wpAny (model C.prog C.w) A (exec b env) P E s
section
variable {C : Cx} {sc : Scope} {k : Nat}
noncomputable def xP (T : ST) : STX := fun m σ Q _ => T m σ Q
theorem HSX1.plain {st : Stmt} {T : ST} (h : HS1 C sc k st T) : HSX1 C sc k st (xP T) := ⟨fun env A s m σ Q X P E en ao R F _ q hP _ => h.run env A s m σ Q P E en ao R F q hP⟩
theorem HSX.plain {b : List Stmt} {T : ST} (h : HS C sc k b T) : HSX C sc k b (xP T) := ⟨fun env A s m σ Q X P E en ao R F _ q hP _ => h.run env A s m σ Q P E en ao R F q hP⟩
noncomputable def xSeq (T U : STX) : STX := fun m σ Q X => T m σ (fun f m₁ σ₁ => match f with
 | .next => U m₁ σ₁ Q X
 | f => Q f m₁ σ₁) X
theorem AftX.later {env : Env} {σ σ₁ : View} {s s₁ : Shared} {X : XT} {E : Value → Shared → Prop} (h : AftX C env σ s X E) (S : Step (Own env) σ σ₁ s.heap s₁.heap) : AftX C env σ₁ s₁ X E := fun c e m' σ' s' fl R F S' x => h c e m' σ' s' (fl.less S.size) R F (S.trans S') x
theorem HSX.cons {st : Stmt} {b : List Stmt} {T U : STX} (h1 : HSX1 C sc k st T) (h2 : HSX C sc k b U) : HSX C sc k (st :: b) (xSeq T U) := by
 refine ⟨?_⟩; intro env A s m σ Q X P E en ao R F W q hP hX
 refine wpAny_execs_cons (h1.run env A s m σ _ X _ E en ao R F W q (fun f g m₁ σ₁ s₁ hf R₁ F₁ S₁ q₁ => ?_) hX)
 cases hf with
 | next => exact h2.run env A s₁ m₁ σ₁ Q X P E en ao R₁ F₁ (W.step S₁) q₁ (fun f g m₂ σ₂ s₂ hf R₂ F₂ S₂ q₂ => hP f g m₂ σ₂ s₂ hf R₂ F₂ (S₁.trans S₂) q₂) (AftX.later hX S₁)
 | brk => exact hP _ _ m₁ σ₁ s₁ .brk R₁ F₁ S₁ q₁
 | cont => exact hP _ _ m₁ σ₁ s₁ .cont R₁ F₁ S₁ q₁
 | ret hv => exact hP _ _ m₁ σ₁ s₁ (.ret hv) R₁ F₁ S₁ q₁
noncomputable def xIf (B : BT) (T U : STX) : STX := fun m σ Q X => B m σ fun b σ' => if b then T m σ' Q X else U m σ' Q X
theorem HSX1.ite {pos : Pos} {test : Expr} {a b : List Stmt} {B : BT} {T U : STX} (hb : HB C sc k test B) (h1 : HSX C sc k a T) (h2 : HSX C sc k b U) : HSX1 C sc k (.If test a b pos) (xIf B T U) := by
 refine ⟨?_⟩; intro env A s m σ Q X P E en ao R F W q hP hX
 refine wpAny_If (hb.run env A s m σ _ _ E en ao R F q fun b σ₁ s₁ R₁ S₁ q₁ => ?_)
 have S := S₁.own (env := env)
 have hP' : AftS C env σ₁ s₁ Q P := fun f g m₂ σ₂ s₂ hf R₂ F₂ S₂ q₂ => hP f g m₂ σ₂ s₂ hf R₂ F₂ (S.trans S₂) q₂
 cases b with
 | true => exact h1.run env A s₁ m σ₁ Q X P E en ao R₁ (F.step R S₁) (W.step S) q₁ hP' (AftX.later hX S)
 | false => exact h2.run env A s₁ m σ₁ Q X P E en ao R₁ (F.step R S₁) (W.step S) q₁ hP' (AftX.later hX S)
end
end Mine
end
noncomputable section
namespace Mine
open PySem
structure Way (C : Cx) (A : Around) (env : Env) (c : String) (e : Addr) (σ₀ : View) (h₀ : Heap) (m : Loc) (σ : View) (s : Shared) (ok : Option Value → Prop) : Prop where
 fly : Fly C c h₀.objs.size σ s.heap e ok
 rel : RelG C σ s
 frame : FrameRel C env m σ s.heap
 step : Step (Own env) σ₀ σ h₀ s.heap
 fok : FOk C A env σ s.heap
section
variable {C : Cx} {sc : Scope} {k : Nat} {A A' : Around} {env : Env} {c : String} {e : Addr} {σ₀ σ : View} {h₀ : Heap} {m : Loc} {s : Shared} {ok : Option Value → Prop} {M : Model} {E : Value → Shared → Prop}
theorem Way.move {outer : List Env} {h' : Heap} {ok' : Option Value → Prop} (W : Way C A env c e σ₀ h₀ m σ s ok) (hb : ∀ b o, C.hB.get? b = some o → b < h₀.objs.size) (ho : A.frames = some (env :: outer)) (fl : Fly C c h₀.objs.size σ h' e ok') (Mv : Moved h₀.objs.size σ (frs env outer) s.heap h') : Way C A env c e σ₀ h₀ m σ { s with heap := h' } ok' := by
 obtain ⟨outer', h1, h2, h3⟩ := W.fok.frames
 rw [ho] at h1; cases h1
 obtain ⟨d, hS⟩ := frs_ok W.frame W.fok.frame h2
 refine ⟨fl, W.rel.moved Mv d hS hb, W.frame.moved Mv d, W.step.moved Mv d (Nat.le_refl _), ⟨⟨outer, ho, fun y hy => ?_, h3⟩, W.fok.frame⟩⟩
 obtain ⟨k1, L, k2, k3, k4, o, es, ep, k5, k6⟩ := h2 y hy
 obtain ⟨o', k7, k8⟩ := Mv.like d k5 (.inr (.inr fun vs q => by rw [k6] at q; cases q))
 exact ⟨k1, L, k2, k3, k4, o', es, ep, k7, k8.dict k6⟩
theorem Way.note {Q : Unit → Shared → Prop} (W : Way C A env c e σ₀ h₀ m σ s (okIn env)) (hk : env.scope.kind = .function) (hb : ∀ b o, C.hB.get? b = some o → b < h₀.objs.size) (hA : A'.frames = A.frames)
  (h : ∀ s', Way C A env c e σ₀ h₀ m σ s' (fun x => x = some (rawInt env.locals)) → Q () s') : wpAny M A' (noteFrame (.ref e) env) Q E s := by
 obtain ⟨outer, h1, h2, h3⟩ := W.fok.frames
 exact noteX (hA.trans h1) (fun_frames W.fok.frame hk W.frame h2) W.fok.frame W.step.size (W.rel.freshNone (size_none s.heap)) W.fly fun h' fl Mv => h _ (W.move hb h1 fl Mv)
theorem Way.flight {fr : Option Addr} {Q : Unit → Shared → Prop} (W : Way C A env c e σ₀ h₀ m σ s (fun x => x ≠ none)) (hk : env.scope.kind = .function) (hb : ∀ b o, C.hB.get? b = some o → b < h₀.objs.size)
  (h : ∀ s', Way C A env c e σ₀ h₀ m σ s' (fun x => x = some (fr.elim .none fun f => rawInt f)) → Q () s') : wpAny M A' (setFlight (.ref e) fr) Q E s := by
 obtain ⟨outer, h1, h2, h3⟩ := W.fok.frames
 refine flightX (S := frs env outer) W.fly (fun b o ho hm vs q => ?_) fun h' fl Mv => h _ (W.move hb h1 fl Mv)
 obtain ⟨es, ep, z⟩ := (frs_ok W.frame W.fok.frame h2).1 b hm o ho
 rw [q] at z; cases z
theorem Way.mono {ok' : Option Value → Prop} (W : Way C A env c e σ₀ h₀ m σ s ok) (k : ∀ x, ok x → ok' x) : Way C A env c e σ₀ h₀ m σ s ok' := ⟨W.fly.mono k, W.rel, W.frame, W.step, W.fok⟩
theorem Way.back (W : Way C A env c e σ₀ h₀ m σ s (fun x => x = some (rawInt env.locals))) (hk : env.scope.kind = .function) (hb : ∀ b o, C.hB.get? b = some o → b < h₀.objs.size)
  (h : ∀ s', Way C A env c e σ₀ h₀ m σ s' (okIn env) → E (.ref e) s') : cameBackBy M A env E (.ref e) s := by
 unfold cameBackBy
 obtain ⟨oe, vs, Cl, he, hmg, hcls, hd, h2, h2s, hT⟩ := W.fly.obj
 rcases hT with ⟨h0, _⟩ | ⟨T, oT, ts, fl, h1, _⟩
 ·cases h0
 refine wpAny_bind (wpAny_field he hd h1 ?_)
 rw [if_neg (show ¬ ((Value.ref T == Value.none) = true) from by simp)]
 exact (W.mono fun x hx => by rw [hx]; simp).flight hk hb fun s' W' => h s' (W'.mono fun x hx => by rw [hx, W.fok.frame]; exact .inr (.inr rfl))
noncomputable def xforL (g : Tgt) (inv : View → Prop) (T : STX) : List V → STX
 | [] => fun m σ Q X => inv σ ∧ Q .next m σ
 | v :: r => fun m σ Q X => inv σ ∧ ∃ m', bindT g v m = some m' ∧ T m' σ (fun f m₁ σ₁ => match f with
  | .next => xforL g inv T r m₁ σ₁ Q X
  | .cont => xforL g inv T r m₁ σ₁ Q X
  | .brk => Q .next m₁ σ₁
  | .ret u => Q (.ret u) m₁ σ₁) X
noncomputable def xFor (g : Tgt) (I : IT) (T : STX) : STX := fun m σ Q X => I m σ fun items inv σ' => xforL g inv T items m σ' Q X
theorem HSX1.for {target iter : Expr} {body : List Stmt} {pos : Pos} {g : Tgt} {I : IT} {T : STX} {loc : Bool} (ht : HT C sc k loc target g) (hi : HI C sc k iter I) (hb : HSX C sc k body T)
  (hf : ∀ env x, foldedSetIterable iter env x = pure x) : HSX1 C sc k (.For target iter body [] pos) (xFor g I T) := by
 refine ⟨?_⟩; intro env A s m σ Q X P E en ao R F W q hP hX
 have hbase : ∀ b o, C.hB.get? b = some o → b < s.heap.objs.size := fun b o e => Heap.lt_size (R.base b o e)
 rw [exec_For]
 refine wpAny_bind (wpAny_standAt ?_)
 have start : wpAny (model C.prog C.w) A (eval iter env) (fun x s₁ => wpAny (model C.prog C.w) A (pyIter x) (fun it s₂ => codeAny (model C.prog C.w) A (.forLoop target it body [] env) (fun r s' => match r with | .ok f => P f s' | .error e => cameBackBy (model C.prog C.w) A env E e s') s₂) E s₁) E s := by
  refine hi.run env A s m σ _ _ E en ao R F q fun items inv I St σ₀ s₀ hit st₀ hI hσ₀ R₀ S₀ q₀ => ?_
  have F₀ := F.step R S₀
  obtain ⟨mm, hn, _⟩ := F.ns
  have hIL : I ≠ env.locals := fun e => absurd hn.lt (Nat.not_lt.mpr (e ▸ hI))
  have hIb : C.hB.get? I = Option.none := R.baseNone (get_none_of_size hI)
  have back : ∀ {σ' : View} {h' : Heap}, Step (fun b => Own env b ∨ b = I) σ σ' s.heap h' → Step (Own env) σ σ' s.heap h' := fun S =>
   S.mono fun b o e z => z.elim id fun z => absurd (Heap.lt_size e) (Nat.not_lt.mpr (z ▸ hI))
  refine codeAny_forLoop_any
   (ForInv C env σ s.heap I items St fun rest m' σ' => xforL g inv T rest m' σ' Q X) ?_ _
   ⟨0, m, σ₀, items, by simp, by simp, rfl, st₀, hσ₀, R₀, F₀, S₀.mono fun _ _ _ z => z.elim, q₀⟩
  rintro n s' ⟨i, m', σ', rest, e1, e2, rfl, st, hσ', R', F', S', q'⟩
  have drew : ∀ {h' : Heap}, Heap.ExtBut I s'.heap h' → s'.heap.objs.size ≤ h'.objs.size → Step (fun b => Own env b ∨ b = I) σ' σ' s'.heap h' := fun hx hsz =>
   .of (fun b o e _ q => hx b o (fun z => q (.inr z)) e) hsz fun _ a b => absurd a b
  cases rest with
  | nil =>
   have hil : i = items.length := by
    have := congrArg List.length e1
    simp at this; omega
   subst hil
   refine with_size (hit.done A σ' s' _ _ ao R' q'.1 st fun h' tk hx hsz => ?_)
   exact wpAny_execs_nil (hP .next .next m' σ' _ .next (draw_rel (tk := tk) R' hx hσ' hIb (hit.live _ _ st)) (draw_frame F' hx (hit.live _ _ st) hIL) (back (S'.trans (drew hx hsz))) q'.2)
  | cons v r =>
   obtain ⟨hinv, m₁, hm₁, q'⟩ := q'
   have hiv : items[i]? = some v := by
    have : (items.drop i)[0]? = some v := by rw [e1]; rfl
    simpa using this
   have hilt : i < items.length := by
    have := congrArg List.length e1
    simp at this; omega
   refine with_size (hit.next A σ' s' i v _ _ ao R' hinv st hiv fun w h₁ tk₁ hv st₁ hx hsz => ?_)
   have R₁ := draw_rel (tk := tk₁) R' hx hσ' hIb (hit.live _ _ st)
   have F₁ := draw_frame F' hx (hit.live _ _ st) hIL
   have S₁ := S'.trans (drew hx hsz)
   refine hit.own A _ (i + 1) target w _ _ st₁ ?_
   refine ht.run env A _ m' m₁ σ' v w _ _ en ao R₁ F₁ hv hm₁ fun s₂ R₂ F₂ S₂L => ?_
   have S₂ : Step (Own env) σ' σ' h₁ s₂.heap := S₂L.mono fun _ _ _ z => z.imp id fun z => z.2
   have S₂' : Step (fun b => Own env b ∨ b = I) σ' σ' h₁ s₂.heap := S₂.mono fun _ _ _ z => .inl z
   have st₂ : St (i + 1) s₂.heap := hit.frame _ _ _ st₁ (fun o e => S₂.keep I o e hσ' (fun z => by
    rcases z with z | ⟨n, z⟩
    ·exact hIL z
    ·obtain ⟨u, ou, hou, hdu⟩ := F₁.cells n I z
     obtain ⟨o', ho', _, hc'⟩ := hit.live _ _ st₁
     have : ou = o' := Option.some.inj (hou.symm.trans ho')
     exact hc' u (this ▸ hdu)) (hit.flds _ _ st₁ o e)) (S₂.tupsO F₁ R₁)
   have S02 := back (S₁.trans S₂')
   refine hb.run env A s₂ m₁ σ' _ X _ _ en ao R₂ F₂ (W.step S02) q' (fun f fl m₃ σ₃ s₃ hf R₃ F₃ S₃ q₃ => ?_) (fun c e m₃ σ₃ s₃ fl R₃ F₃ S₃ x => by
    have WW : Way C A env c e σ s.heap m₃ σ₃ s₃ (okIn env) := ⟨fl.less S02.size, R₃, F₃, S02.trans S₃, (W.step S02).step S₃⟩
    exact WW.note en.k hbase rfl fun s₄ W₄ => W₄.back en.k hbase fun s₅ W₅ => hX c e m₃ σ₃ s₅ W₅.fly W₅.rel W₅.frame W₅.step x)
   have S₃' : Step (fun b => Own env b ∨ b = I) σ' σ₃ s₂.heap s₃.heap := S₃.mono fun _ _ _ z => .inl z
   have SS := (S₁.trans S₂').trans S₃'
   have go : xforL g inv T r m₃ σ₃ Q X → ∃ k', k' < (v :: r).length + 1 ∧ ForInv C env σ s.heap I items St (fun rest m' σ' => xforL g inv T rest m' σ' Q X) k' s₃ := fun q₃ => by
    refine ⟨r.length + 1, Nat.lt_succ_self _, i + 1, m₃, σ₃, r, ?_, hilt, rfl, ?_, ?_, R₃, F₃, SS, q₃⟩
    ·rw [← List.tail_drop, e1]; rfl
    ·refine hit.frame _ _ _ st₂ (fun o e => S₃.keep I o e hσ' (fun z => ?_) (hit.flds _ _ st₂ o e)) (S₃.tupsO F₂ R₂)
     rcases z with z | ⟨n, z⟩
     ·exact hIL z
     ·obtain ⟨u, ou, hou, hdu⟩ := F₂.cells n I z
      obtain ⟨o', ho', _, hc'⟩ := hit.live _ _ st₂
      have : ou = o' := Option.some.inj (hou.symm.trans ho')
      exact hc' u (this ▸ hdu)
    ·cases z : σ₃ I with
     | none => rfl
     | some o =>
      obtain ⟨o', ho', _⟩ := hit.live _ _ st₂
      exact absurd (Heap.lt_size ho') (Nat.not_lt.mpr (S₃.new I hσ' (by rw [z]; simp)))
   cases hf with
   | next => exact go q₃
   | cont => exact go q₃
   | brk => exact hP .next .next m₃ σ₃ s₃ .next R₃ F₃ (back SS) q₃
   | ret hv => exact hP _ _ m₃ σ₃ s₃ (.ret hv) R₃ F₃ (back SS) q₃
 refine wpAny_bind (wpAny_mono start (fun x s₁ h₁ => wpAny_bind (wpAny_of_eq (hf env x) (wpAny_bind (wpAny_standAt (wpAny_bind (wpAny_holding (wpAny_mono h₁ (fun it s₂ h₂ => wpAny_runOwn h₂) fun _ _ h' => h'))))))) fun _ _ h' => h')
end
end Mine
end
noncomputable section
namespace Mine
open PySem PySem.W PyProof.Rows PySem.Calls
abbrev SpecX := List V → View → (V → View → Prop) → (String → View → Prop) → Prop
abbrev AftXc (C : Cx) (σ : View) (s : Shared) (X : String → View → Prop) (E : Value → Shared → Prop) : Prop :=
 ∀ c e σ' s', Fly C c s.heap.objs.size σ' s'.heap e (fun x => x = some .none) → RelG C σ' s' → Step no σ σ' s.heap s'.heap → X c σ' → E (.ref e) s'
noncomputable def FnSoundX (C : Cx) (j : Nat) (f : Addr) (spec : SpecX) : Prop :=
 ∀ (A : Around) (s : Shared) (σ : View) (vs : List V) (ws : List Value) (Q : V → View → Prop) (X : String → View → Prop) (P : Value → Shared → Prop) (E : Value → Shared → Prop),
  AOk C A (j + 1) → (∃ fs, A.frames = some fs ∧ FrsOk C σ s.heap fs) → RelG C σ s → VRels C.aS s.heap vs ws → spec vs σ Q X → Aft C σ s Q P → AftXc C σ s X E → codeAny (model C.prog C.w) A (.call (.ref f) ⟨ws, []⟩) (fun r s' => match r with | .ok (.ret v) => P v s' | .ok _ => False | .error e => E e s') s
section
variable {C : Cx}
theorem FnSoundX.mk (O : C.Ok) {f : Addr} {o : Obj} {fd : FuncData} {body : List Stmt} {xs : List String} {sc : Scope} {j : Nat} {spec : SpecX} {T : STX}
  (ho : C.hB.get? f = some o) (hd : o.data = .func fd) (hcd : C.hB.CodeRec fd.code fd.qualname) (hb : fd.body = .stmts body) (hsc : fd.scope = sc) (hcl : fd.closure = []) (hg : fd.globals = mainGlobals) (hbi : fd.builtins = builtinsNs)
  (hk : sc.kind = .function) (hfr : ∀ p ∈ sc.names, p.2 ≠ .free) (hco : sc.isCoroutine = false) (hgen : sc.isGenerator = false)
  (hbind : ∀ ws : List Value, ws.length = xs.length → bindArgs fd ⟨ws, []⟩ = pure ((xs.map Str.ofString).zip ws))
  (hloc : ∀ x ∈ xs, sc.names.lookup (Str.ofString x) = some .local ∨ sc.names.lookup (Str.ofString x) = some .cell)
  (hT : HSX C sc j body T)
  (hspec : ∀ vs σ Q X, spec vs σ Q X → vs.length = xs.length ∧ T (bindM xs vs none') σ (fun f _ σ' => match f with | .ret v => Q v σ' | .next => Q .none σ' | _ => False) (fun c _ σ' => X c σ')) : FnSoundX C j f spec := by
 intro A s σ vs ws Q X P E ao ⟨fs, hfs, hfo⟩ R hvs hs hP hX
 subst hsc
 obtain ⟨hlen, q⟩ := hspec vs σ Q X hs
 have hlw : ws.length = xs.length := by rw [← hvs.length]; exact hlen
 refine (codeAny_call_cells (fd := fd) (body := body) (binds := (xs.map Str.ofString).zip ws) (by have := ao.depth; omega) (R.base _ _ ho) hd (O.nolimit.keeps R.base) (hcd.keeps R.base) hb (hbind ws hlw) hcl ?_ ?_ hco hgen hk)
 ·intro x hx
  have : x.1 ∈ xs.map Str.ofString := (List.of_mem_zip (a := x.1) (b := x.2) hx).1
  obtain ⟨y, hy, e⟩ := List.mem_map.mp this
  rw [← e]
  refine (hloc y hy).imp id fun z => ⟨z, ?_⟩
  obtain ⟨c, hc⟩ := cellsFrom_has (x := Str.ofString y) fd.scope.names (s.heap.objs.size + 1) [] (.inl z)
  rw [hc]; rfl
 ·intro s₁ x
  generalize henv : callEnvC fd s.heap.objs.size f = env at x ⊢
  have eS : env.scope = fd.scope := by rw [← henv]; rfl
  have eL : env.locals = s.heap.objs.size := by rw [← henv]; rfl
  have eC : env.cells = cellsFrom (s.heap.objs.size + 1) fd.scope.names [] := by rw [← henv]; rfl
  have en : EnvOk env fd.scope := ⟨eS, hk, by rw [← henv]; exact hg, by rw [← henv]; exact hbi⟩
  obtain ⟨h₁, tk₁, e₁⟩ := x.toInCall.same
  have keep := x.toInCall.keep
  have R₁ : RelG C σ s₁ := by
   rw [e₁]
   exact R.grow (fun b o e => by have := keep b o e; rw [e₁] at this; exact this)
  have hz : s.heap.objs.size ≤ s₁.heap.objs.size := Nat.le_of_lt (by have := x.toInCall.ns.lt; rw [eL] at this; exact this)
  have kt : TupKeep s.heap s₁.heap := fun b o e _ => keep b o e
  have vars := bound_vars (C := C) (h := s₁.heap) env.kindOf xs vs ws none' (fun _ => Option.none) (fun _ => Option.none)
   (fun y hy => by unfold Env.kindOf; rw [eS]; exact hloc y hy) (hvs.keep kt) (fun _ _ e => by cases e)
  have lookupC : ∀ n, env.kindOf n = some .cell → ∃ c, env.cells.lookup n = some c := fun n hn => by
   rw [eC]; exact cellsFrom_has _ _ _ (.inl (by unfold Env.kindOf at hn; rw [eS] at hn; exact hn))
  have lookupF : ∀ n, env.kindOf n = some .cell ∨ env.kindOf n = some .free → ∃ c, env.cells.lookup n = some c := fun n hn => hn.elim (lookupC n) fun z => by
   unfold Env.kindOf at z; rw [eS] at z; exact absurd rfl (hfr _ (mem_of_lookup z))
  have fresh : ∀ c, s.heap.objs.size ≤ c → C.hB.get? c = Option.none := fun c hc => R.baseNone (get_none_of_size hc)
  have F₁ : FrameRel C env (bindM xs vs none') σ s₁.heap := by
   refine ⟨⟨_, x.toInCall.ns, fun y v e ky => ?_⟩, fun y v e => ?_, fun n c hc => ?_, R.freshNone (get_none_of_size (Nat.le_of_eq eL.symm)), fresh _ (Nat.le_of_eq eL.symm), fun n c hc => ?_, x.apart, lookupF⟩
   ·rcases vars y v e with ⟨_, w, h1, h2⟩ | ⟨z, _⟩
    ·exact ⟨w, h1, h2⟩
    ·rw [z] at ky; cases ky
   ·rcases vars y v e with ⟨z, _⟩ | ⟨z, w, h1, h2⟩
    ·exact .inl z
    ·obtain ⟨c, hc⟩ := lookupC _ z
     exact .inr ⟨.inl z, c, w, hc, h1 ▸ x.cell _ c hc, h2⟩
   ·exact ⟨_, x.cell n c hc⟩
   ·exact fresh c (Nat.le_of_lt (by have := x.above n c (mem_of_lookup hc); rw [eL] at this; exact this))
  have eF : env.frame = some env.locals := by rw [← henv]; rfl
  have hlt : ∀ y ∈ fs, ∀ L, y.frame = some L → L < s.heap.objs.size := fun y hy L hL => by
   obtain ⟨_, L', h2, _, _, o, _, _, h5, _⟩ := hfo y hy
   rw [hL] at h2; cases h2; exact Heap.lt_size h5
  have W₁ : FOk C (A.deeper env) env σ s₁.heap := by
   refine ⟨⟨fs, Around.frames_deeper hfs, fun y hy => ?_, fun y hy L hL z => ?_⟩, eF⟩
   ·obtain ⟨h1, L, h2, h3, h4, o, es, ep, h5, h6⟩ := hfo y hy
    exact ⟨h1, L, h2, h3, h4, o, es, ep, keep _ _ h5, h6⟩
   ·have := hlt y hy L hL
    rcases z with z | ⟨n', z⟩
    ·rw [z, eL] at this; exact Nat.lt_irrefl _ this
    ·have h9 := x.above n' L (mem_of_lookup z); rw [eL] at h9; exact Nat.lt_irrefl _ (Nat.lt_trans this h9)
  have toS : ∀ {σ' : View} {h' : Heap}, Step (Own env) σ σ' s₁.heap h' → Step no σ σ' s.heap h' := fun S' =>
   ⟨fun b o e n _ => S'.keepL b o (keep b o e) n (fun z => by
     have hlt := Heap.lt_size e
     rcases z with z | ⟨n', z⟩
     ·rw [z, eL] at hlt; exact Nat.lt_irrefl _ hlt
     ·have := x.above n' b (mem_of_lookup z); rw [eL] at this; exact Nat.lt_irrefl _ (Nat.lt_trans hlt this)),
    Nat.le_trans hz S'.size, fun b n m => Nat.le_trans hz (S'.new b n m)⟩
  refine hT.run env _ s₁ _ σ _ _ _ _ en ⟨by show A.handled = _; exact ao.handled, by show A.depth + 1 + 3 * j + 3 < _; have := ao.depth; omega, by show A.units + 3 + 10 * j + 20 < _; have := ao.units; omega⟩ R₁ F₁ W₁ q (fun fl g m' σ' s' hf R' F' S' q' => ?_) (fun c e m' σ' s' fl R' F' S' x' => ?_)
  rotate_left
  ·have WW : Way C (A.deeper env) env c e σ s₁.heap m' σ' s' (okIn env) := ⟨fl, R', F', S', W₁.step S'⟩
   have hbase : ∀ b o, C.hB.get? b = some o → b < s₁.heap.objs.size := fun b o e => Heap.lt_size (R₁.base b o e)
   unfold leaving
   refine wpAny_bind (WW.note en.k hbase rfl fun s₂ W₂ => ?_)
   refine (W₂.mono fun x hx => by rw [hx]; simp).flight en.k hbase fun s₃ W₃ => ?_
   exact hX c e σ' s₃ (W₃.fly.less hz) W₃.rel (toS W₃.step) x'
  have S₀ := toS S'
  cases hf with
  | next => exact hP .none .none σ' s' .none R' S₀ q'
  | ret hv => exact hP _ _ σ' s' hv R' S₀ q'
  | brk => exact q'.elim
  | cont => exact q'.elim
end
end Mine
end
noncomputable section
namespace Mine
open PySem
noncomputable def Dead (b : Addr) (h : Heap) : Prop := h.get? b = none ∧ b < h.objs.size
theorem Dead.update {b a : Addr} {h : Heap} {f : Obj → Obj} {o : Obj} (x : Dead b h) (ha : h.get? a = some o) : Dead b (h.update a f) :=
 ⟨by rw [Heap.get?_update_other _ _ (by rintro rfl; rw [x.1] at ha; cases ha)]; exact x.1, by rw [Heap.size_after_update]; exact x.2⟩
theorem Dead.push {b : Addr} {h : Heap} {o : Obj} (x : Dead b h) : Dead b (h.push o) := by
 refine ⟨?_, by rw [Heap.size_push]; exact Nat.lt_succ_of_lt x.2⟩
 cases e : (h.push o).get? b with
 | none => rfl
 | some o' =>
  obtain ⟨h1, h2⟩ := Heap.get?_some_iff.mp e
  have h3 : h.objs[b]? = some o' := by
   have : (h.push o).objs[b]? = h.objs[b]? := by
    show (h.objs.push o)[b]? = _
    rw [Array.getElem?_push_lt x.2, Array.getElem?_eq_getElem x.2]
   rw [← this]; exact h1
  have := Heap.get?_some_iff.mpr ⟨h3, h2⟩
  rw [x.1] at this; cases this
theorem runs_dead {b : Addr} {M : Model} {Γ : Ctx} {p : Pos} {t : Sem Fin} {fs : List Frame} {s s' : Shared} {e : End} (h : PySem.Runs M Γ p t fs s e s') : Dead b s.heap → Dead b s'.heap := by
 induction h <;> intro d
 all_goals try simp only [Shared.setGen] at *
 all_goals first | exact d | (rename_i ih; exact ih d) | (rename_i ih; exact ih d.push) | (rename_i h1 _ ih; obtain ⟨o, ho⟩ := Option.isSome_iff_exists.mp h1; exact ih (d.update ho)) | (rename_i ih1 ih2; exact ih2 (ih1 d))
theorem wakes_dead {b : Addr} {M : Model} {Γ : Ctx} {p : Pos} {g : Nat} {r : Resume} {s s' : Shared} {res : GenResult} (h : Wakes M Γ p g r s res s') (d : Dead b s.heap) : Dead b s'.heap := by
 unfold Wakes at h
 split at h
 ·exact h.elim
 ·split at h
  ·obtain ⟨e₁, s₁, hr, _, _, rfl⟩ := h; exact (runs_dead hr d : Dead b s₁.heap)
  ·rw [h.2]; exact d
  ·rw [h.2]; exact d
 ·obtain ⟨e₁, s₁, hr, _, _, rfl⟩ := h; exact (runs_dead hr d : Dead b s₁.heap)
 ·rw [h.2]; exact d
 ·rw [h.2]; exact d
theorem wp_dead {α : Type} (M : Model) (Γ : Ctx) (D : Addr → Prop) (t : Sem α) : ∀ (Q : α → Pos → Shared → Prop) (E : Value → Pos → Shared → Prop) (p : Pos) (s : Shared), (∀ b, D b → Dead b s.heap) → Sem.wp M Γ t Q E p s →
  Sem.wp M Γ t (fun a p' s' => (∀ b, D b → Dead b s'.heap) ∧ Q a p' s') (fun e p' s' => (∀ b, D b → Dead b s'.heap) ∧ E e p' s') p s := by
 induction t with
 | pure a | raise a => intro Q E p s hn h; exact ⟨hn, h⟩
 | unsupported | finish | register | yield | fork | await => intro Q E p s _ h; exact h
 | rule _ k ih | «at» _ k ih | point _ k ih | ask k ih | handled _ k ih | stack k ih | thread k ih | loadIfAlive _ k ih | fresh k ih | os _ _ k ih | newGen _ k ih => intro Q E p s hn h; exact ih _ Q E _ _ hn h
 | load a _ k ih => intro Q E p s hn h; obtain ⟨o, ho, h⟩ := h; exact ⟨o, ho, ih o Q E p s hn h⟩
 | update a _ f k ih => intro Q E p s hn h; exact ⟨h.1, ih () Q E p _ (fun b hb => by obtain ⟨o, ho⟩ := Option.isSome_iff_exists.mp h.1; exact (hn b hb).update ho) h.2⟩
 | alloc o k ih => intro Q E p s hn h; exact ih _ Q E p _ (fun b hb => (hn b hb).push) h
 | choose src m k ih => intro Q E p s hn h; exact ⟨h.1, ih _ Q E p _ hn h.2⟩
 | call c hd _ _ k ih => intro Q E p s hn h; obtain ⟨r, s', hr, h⟩ := h; exact ⟨r, s', hr, ih r Q E p s' (fun b hb => runs_dead hr (hn b hb)) h⟩
 | genState g k ih => intro Q E p s hn h; obtain ⟨st, hs, h⟩ := h; exact ⟨st, hs, ih _ Q E p s hn h⟩
 | resume g r _ k ih => intro Q E p s hn h; obtain ⟨res, s', hw, h⟩ := h; exact ⟨res, s', hw, ih res Q E p s' (fun b hb => wakes_dead hw (hn b hb)) h⟩
theorem with_dead {α : Type} {M : Model} {A : Around} {s : Shared} {t : Sem α} {Q : α → Shared → Prop} {E : Value → Shared → Prop}
  (h : wpAny M A t (fun a s' => (∀ b, Dead b s.heap → Dead b s'.heap) → Q a s') (fun e s' => (∀ b, Dead b s.heap → Dead b s'.heap) → E e s') s) : wpAny M A t Q E s :=
 fun Γ p hΓ => Sem.wp_mono M Γ t (fun _ _ _ x => x.2 x.1) (fun _ _ _ x => x.2 x.1) p s (wp_dead M Γ (fun b => Dead b s.heap) t _ _ p s (fun _ h => h) (h Γ p hΓ))
end Mine
end
noncomputable section
namespace Mine
open PySem PySem.W PyProof.Rows PySem.Calls
noncomputable def veBases : List Value := [.type "ValueError", .type "Exception", .type "BaseException", .type "object"]
noncomputable def XCls (C : Cx) (c : String) (Cl : Addr) : Prop := OwnCls (Str.ofString c) Cl veBases "ValueError.__new__" C.mg C.hB
section
variable {C : Cx} {sc : Scope} {k : Nat}
noncomputable def xRaise (c : String) : STX := fun m σ _ X => X c m σ
theorem HSX1.raise (O : C.Ok) (hz : C.held = Option.none) {c : String} {Cl : Addr} (K : XCls C c Cl) {x : Str} {n : Nat} {np ap cpos pos : Pos} (hn : sc.names.lookup (Str.ofString c) = some .globalImplicit) (hdb : (Str.ofString c == ("__debug__" : Str)) = false) :
  HSX1 C sc k (.Raise (some (.Call (.Name (Str.ofString c) np) [.Constant (.str x) n ap] [] cpos)) Option.none pos) (xRaise c) := by
 refine ⟨?_⟩; intro env A s m σ Q X P E en ao R F W q hP hX
 have OK : OwnCls (Str.ofString c) Cl veBases "ValueError.__new__" C.mg s.heap := K.keeps R.base
 obtain ⟨tl, N, nm, qn, bs, hdct, sn, sub, ab, col, dd, k0, k1, k2, k3, k5, mN, hC, hN, hni, T⟩ := OK.obj
 refine with_dead ?_
 refine wpAny_Raise_call_subT (C := Cl) (nm := nm) (q := qn) (N := N) (bs := bs) (bm := tl) (hdct := hdct) (sn := sn) (sub := sub) (ab := ab) (col := col) (dd := dd) (k0 := k0) (k1 := k1) (k2 := k2) (k3 := k3) (k5 := k5)
  PySem.F.excBase_ValueError (mN := mN) (T.hasType PySem.F.excBase_ValueError.hasBase) (ao.none hz) rfl hni
  (Calls.Name_function_global en.k (en.of hn) (Calls.loadGlobal_global (mg := C.mg) (by rw [en.globals]; exact O.g.keeps R.base) K.bound ⟨rfl, ?_⟩) hdb)
 refine evalArgs_of rfl ?_
 show wpAny _ A (spliced ((false, eval (.Constant (.str x) n ap) env) :: backTo cpos (starEach [] env))) _ _ s
 refine Calls.spliced_cons (Calls.Constant_str (Calls.spliced_nil ⟨rfl, by rw [sizeLine_eq]; show 1 ≤ _; decide, hC, hN, T, fun h' e hm hdead => ?_⟩))
 obtain ⟨t, he, _, _⟩ := hm.there
 have hge : s.heap.objs.size ≤ e := by
  rcases Nat.lt_or_ge e s.heap.objs.size with z | z
  ·have := (hdead e ⟨hm.new, z⟩).1
   have he' : h'.get? e = _ := he
   rw [he'] at this; cases this
  ·exact z
 have hsz : s.heap.objs.size ≤ h'.objs.size := Nat.le_trans hge (Nat.le_of_lt (Heap.lt_size he))
 have hkeep : ∀ b o, s.heap.get? b = some o → h'.get? b = some o := hm.keeps
 refine hX c e m σ _ ⟨⟨_, _, Cl, he, K.bound, rfl, rfl, rfl, by show 2 < 6; decide, .inl ⟨.inl rfl, rfl⟩⟩, hge, R.freshNone hm.new⟩ (R.grow hkeep) (F.grow hkeep) (Step.grow hkeep hsz) q
abbrev ETX := Loc → View → (V → View → Prop) → (String → View → Prop) → Prop
structure HEX (C : Cx) (sc : Scope) (k : Nat) (e : Expr) (T : ETX) : Prop where
 run : ∀ (env : Env) (A : Around) (s : Shared) (m : Loc) (σ : View) (Q : V → View → Prop) (X : String → View → Prop) (P : Value → Shared → Prop) (E : Value → Shared → Prop),
  EnvOk env sc → AOk C A k → RelG C σ s → FrameRel C env m σ s.heap → FOk C A env σ s.heap → T m σ Q X →
  (∀ v w σ' s', VRel C.aS s'.heap v w → RelG C σ' s' → Step no σ σ' s.heap s'.heap → Q v σ' → P w s') → AftXc C σ s X E →
  wpAny (model C.prog C.w) A (eval e env) P E s
theorem FOk.fs {A : Around} {env : Env} {m : Loc} {σ : View} {s : Shared} (W : FOk C A env σ s.heap) (F : FrameRel C env m σ s.heap) (hk : env.scope.kind = .function) : ∃ fs, A.frames = some fs ∧ FrsOk C σ s.heap fs := by
 obtain ⟨outer, h1, h2, h3⟩ := W.frames
 refine ⟨_, h1, fun y hy => ?_⟩
 rcases List.mem_cons.mp hy with rfl | hy
 ·obtain ⟨mm, ⟨oL, es, ep, hoL, hdL, _⟩, _⟩ := F.ns
  exact ⟨by rw [hk]; decide, _, W.frame, F.baseL, F.sepL, oL, es, ep, hoL, hdL⟩
 ·exact h2 y hy
noncomputable def FnAtX (C : Cx) (j : Nat) (f : String) (spec : SpecX) : Prop :=
 ∃ a o fd, C.mg (Str.ofString f) = some (.ref a) ∧ C.hB.get? a = some o ∧ o.data = .func fd ∧ FnSoundX C j a spec
noncomputable def xCall (spec : SpecX) (L : LT) : ETX := fun m σ Q X => L m σ fun vs σ' => spec vs σ' Q X
theorem HEX.callAt {p : Program} (G : Gl C p) {f : String} {np pos : Pos} {es : List Expr} {L : LT} {spec : SpecX} {j : Nat} (hf : FnAtX C j f spec) (hj : j < k)
  (hn : sc.names.lookup (Str.ofString f) = some .globalImplicit) (hdb : (Str.ofString f == ("__debug__" : Str)) = false)
  (hl : HL C sc k es L) (hp : plainArgs es = true) : HEX C sc k (.Call (.Name (Str.ofString f) np) es [] pos) (xCall spec L) := by
 obtain ⟨a, o, fd, hg, ho, hd, hf⟩ := hf
 refine ⟨?_⟩; intro env A s m σ Q X P E en ao R F W q hP hX
 refine wpAny_Call_NameR (Calls.Name_function_global en.k (en.of hn) (Calls.loadGlobal_global (mg := C.mg) (by rw [en.globals]; exact G.ok.g.keeps R.base) hg ?_) hdb)
 refine Calls.callWith_function (o := o) (fd := fd) (evalArgs_of hp (hl.run env A s m σ pos _ _ E en ao R F q fun vs ws σ₁ s₁ hv R₁ S₁ q₁ => ⟨⟨R₁.base _ _ ho, hd⟩, ?_⟩))
 have W₁ := W.step (S₁.own (env := env))
 exact wpAny_call (hf A s₁ σ₁ vs ws Q X P E (ao.le hj) (W₁.fs (F.step R S₁) en.k) R₁ hv q₁ (fun v w σ' s' hv' R' S' q' => hP v w σ' s' hv' R' (S₁.trans S') q') fun c e σ' s' fl R' S' x => hX c e σ' s' (fl.less S₁.size) R' (S₁.trans S') x)
theorem AftXc.of {env : Env} {m : Loc} {σ : View} {s : Shared} {X : XT} {E : Value → Shared → Prop} (R : RelG C σ s) (F : FrameRel C env m σ s.heap) (hX : AftX C env σ s X E) : AftXc C σ s (fun c σ' => X c m σ') E :=
 fun c e σ' s' fl R' S' x => hX c e m σ' s' (fl.mono fun _ h => .inr (.inl h)) R' (F.step R S') S'.own x
noncomputable def xSet (x : String) (T : ETX) : STX := fun m σ Q X => T m σ (fun v σ' => Q .next (put m x v) σ') fun c σ' => X c m σ'
theorem HSX1.set {x : String} {p pos : Pos} {value : Expr} {T : ETX} (hx : Var sc x) (he : HEX C sc k value T) (hs : ∀ env, EnvOk env sc → swapsWith value (some (.Name (Str.ofString x) p)) pos.line env = pure false) : HSX1 C sc k (.Assign [.Name (Str.ofString x) p] value pos) (xSet x T) := by
 refine ⟨?_⟩; intro env A s m σ Q X P E en ao R F W q hP hX
 refine wpAny_Assign_Name (he.run env A s m σ _ _ _ E en ao R F W q (fun v w σ₁ s₁ hv R₁ S₁ q₁ => ?_) (AftXc.of R F hX)) (hs env en)
 exact store en R₁ (F.step R S₁) hx hv fun s₂ R₂ F₂ S₂ => hP .next .next _ σ₁ s₂ .next R₂ F₂ ((S₁.own).trans S₂) q₁
noncomputable def xRet (T : ETX) : STX := fun m σ Q X => T m σ (fun v σ' => Q (.ret v) m σ') fun c σ' => X c m σ'
theorem HSX1.ret {pos : Pos} {value : Expr} {T : ETX} (he : HEX C sc k value T) : HSX1 C sc k (.Return (some value) pos) (xRet T) := by
 refine ⟨?_⟩; intro env A s m σ Q X P E en ao R F W q hP hX
 exact wpAny_Return_some (he.run env A s m σ _ _ _ E en ao R F W q (fun v w σ₁ s₁ hv R₁ S₁ q₁ => hP (.ret v) (.ret w) m σ₁ s₁ (.ret hv) R₁ (F.step R S₁) S₁.own q₁) (AftXc.of R F hX))
end
end Mine
end
noncomputable section
set_option maxRecDepth 100000
namespace Mine
open PySem PySem.W PyProof.Rows PySem.Calls
noncomputable def lookNames : List Str := ["__init__", "__getattribute__", "__getattr__", "__class__"]
inductive OT (h : Heap) : List Value → Prop
 | base : OT h veBases
 | own {A : Addr} {c0 : Value} {dd : Option Addr} {cd : ClassData} {sl : Array (Option Value)} {mA : Str → Option Value} {tl : List Value} :
   h.get? A = some { cls := c0, dict := dd, data := .cls cd, slots := sl } → h.Ns cd.ns mA → (∀ n ∈ lookNames, mA n = none) → OT h tl → OT h (.ref A :: tl)
theorem OT.keeps {h h' : Heap} {l : List Value} (T : OT h l) (k : ∀ b o, h.get? b = some o → h'.get? b = some o) : OT h' l := by
 induction T with
 | base => exact .base
 | own h1 h2 h3 _ ih => exact .own (k _ _ h1) (h2.keeps k) h3 ih
theorem OT.tail {h : Heap} {l : List Value} (T : OT h l) : OwnTail h veBases l := by
 induction T with
 | base => exact .base
 | own h1 h2 h3 _ ih => exact .own h1 h2 (h3 _ (.head _)) ih
inductive XC (h : Heap) (Cl : Addr) (bm : List Value) : Prop
 | mk (N : Addr) (nm q : Str) (bs : List Value) (hdct : Bool) (sn : List Str) (sub : List Value) (ab : Bool) (col : Option Bool) (dd : Option Addr) (k0 k1 k2 k3 k5 : Option Value) (mN : Str → Option Value)
   (h1 : h.get? Cl = some (excClassObj nm q Cl N bs bm hdct sn sub ab col dd k0 k1 k2 k3 k5 "ValueError.__new__")) (h2 : h.Ns N mN) (h3 : ∀ n ∈ lookNames, mN n = none) (h4 : OT h bm) : XC h Cl bm
theorem XC.keeps {h h' : Heap} {Cl : Addr} {bm : List Value} (X : XC h Cl bm) (k : ∀ b o, h.get? b = some o → h'.get? b = some o) : XC h' Cl bm := by
 obtain ⟨N, nm, q, bs, hdct, sn, sub, ab, col, dd, k0, k1, k2, k3, k5, mN, h1, h2, h3, h4⟩ := X
 exact ⟨N, nm, q, bs, hdct, sn, sub, ab, col, dd, k0, k1, k2, k3, k5, mN, k _ _ h1, h2.keeps k, h3, h4.keeps k⟩
section
variable {prog : Program} {w : World} {A : Around} {E : Value → Shared → Prop} {s : Shared} {Cl a : Addr} {bm : List Value} {o : Obj}
theorem look_tail {l : List Value} {n : Str} {y : Option Value} {Q : Option Value → Shared → Prop} {M : Model} (T : OT s.heap l) (hn : n ∈ lookNames) (hrest : lookupAlong veBases n = pure y) (hq : Q y s) : wpAny M A (lookupAlong l n) Q E s := by
 induction T with
 | base => rw [hrest]; exact wpAny_pure hq
 | own hA hN h3 _ ih =>
  rw [lookupAlong_cons]
  obtain ⟨h, g, d, t, os⟩ := s
  refine wpAny_bind (wpAny_classOwn_cls hA hN ?_)
  rw [h3 n hn]
  exact ih
theorem look_exc {n : Str} {y : Option Value} {Q : Option Value → Shared → Prop} {M : Model} (X : XC s.heap Cl bm) (hn : n ∈ lookNames) (hB : typeLookup (.type "ValueError") n = pure y) (hq : Q y s) : wpAny M A (typeLookup (.ref Cl) n) Q E s := by
 obtain ⟨N, nm, q, bs, hdct, sn, sub, ab, col, dd, k0, k1, k2, k3, k5, mN, h1, h2, h3, h4⟩ := X
 have hrest : lookupAlong veBases n = pure y := by rw [typeLookup_eq, PySem.F.excBase_ValueError.mroIs] at hB; exact hB
 rw [typeLookup_eq]
 obtain ⟨h, g, d, t, os⟩ := s
 refine wpAny_bind (wpAny_mroOf_exc h1 ?_)
 rw [lookupAlong_cons]
 refine wpAny_bind (wpAny_classOwn_exc h1 h2 ?_)
 rw [h3 n hn]
 exact look_tail h4 hn hrest hq
theorem sub_exc {base : Value} {Q : Bool → Shared → Prop} {M : Model} (X : XC s.heap Cl bm) (hq : Q ((Value.ref Cl :: bm).contains base) s) : wpAny M A (isSubtype (.ref Cl) base) Q E s := by
 obtain ⟨N, nm, q, bs, hdct, sn, sub, ab, col, dd, k0, k1, k2, k3, k5, mN, h1, h2, h3, h4⟩ := X
 obtain ⟨h, g, d, t, os⟩ := s
 exact wpAny_isSubtype_exc h1 hq
theorem lk_ve_class : typeLookup (.type "ValueError") "__class__" = pure (some (.builtin "object.__class__")) := by rw [typeLookup_type, builtinLookup_eq_fast]; kernel_rfl
theorem OT.obj {h : Heap} {l : List Value} (T : OT h l) : l.contains (.type "object") = true ∧ l.contains (.type "BaseException") = true := by
 induction T with
 | base => decide
 | own _ _ _ _ ih => rw [List.contains_cons, List.contains_cons, ih.1, ih.2]; simp
theorem XC.obj {h : Heap} (X : XC h Cl bm) : bm.contains (.type "object") = true ∧ bm.contains (.type "BaseException") = true := by
 obtain ⟨N, nm, q, bs, hdct, sn, sub, ab, col, dd, k0, k1, k2, k3, k5, mN, h1, h2, h3, h4⟩ := X
 exact h4.obj
theorem class_get {R : Result → Shared → Prop} (X : XC s.heap Cl bm) (hx : s.heap.get? a = some o) (hc : o.cls = .ref Cl) (hq : R (.ok (.ret (.ref Cl))) s) :
  codeAny (model prog w) A (.call (.builtin "getset_descriptor.__get__") ⟨[.builtin "object.__class__", .ref a, .ref Cl], []⟩) R s := by
 have hT5 : s.TypeIs (.builtin "object.__class__") "getset_descriptor" := F.typeOf_object_class
 have hcB : (Value.ref Cl :: bm).contains (.type (".".intercalate ("object.__class__".cutAt '.').dropLast)) = true := by rw [F.owner_object_class, List.contains_cons, X.obj.1, Bool.or_true]
 refine codeAny_call_builtin F.slot_gs_get.plain F.entry_gs_get (F.slot_gs_get.check _ _ _ _ _ _ _ _ hT5 (F.args_gs_get _ _ _) ?_)
 repeat (any_goals (first | assumption | (with_reducible refine wpAny_loadPart hx ?_; rw [hc]) | (with_reducible refine sub_exc X ?_; rw [hcB]) | wp_step))
 refine ⟨Code.quiet_builtin _ (by decide +kernel), codeAny_builtin F.entry_object_class ?_⟩
 repeat (any_goals (first | assumption | (with_reducible refine wpAny_loadPart hx ?_; rw [hc]) | wp_step))
theorem class_entry {tk : Tok} {Q : Fin → Shared → Prop} (X : XC s.heap Cl bm) (hx : s.heap.get? a = some o) (hc : o.cls = .ref Cl) (hq : Q (.done (.ret (.ref Cl))) s) :
  wpAny (model prog w) A (Builtin.«object.__getattribute__» ⟨[.ref a, .str "__class__" tk], []⟩) Q E s := by
 have hT5 : s.TypeIs (.builtin "object.__class__") "getset_descriptor" := F.typeOf_object_class
 have f5 := F.typeOf_object_class
 have f6 := F.slot_gs_get.lookup
 have f7 := F.slot_gs_set.lookup
 have hm : ("__class__" : Str) ∈ lookNames := .tail _ (.tail _ (.tail _ (.head _)))
 repeat (any_goals (first | assumption | (with_reducible refine wpAny_loadPart hx ?_; rw [hc]) | with_reducible refine look_exc X hm lk_ve_class ?_ | wp_step))
 refine class_get X hx hc ?_
 repeat (any_goals (first | assumption | wp_step))
theorem check_ga {nameV : Value} {Q : Unit → Shared → Prop} {M : Model} (X : XC s.heap Cl bm) (hx : s.heap.get? a = some o) (hc : o.cls = .ref Cl) (hq : Q () s) : wpAny M A (checkBuiltinCall "BaseException.__getattribute__" ⟨[.ref a, nameV], []⟩) Q E s := by
 have hk : builtinKind "BaseException.__getattribute__" = some .slot := by decide +kernel
 have hsplit : splitId "BaseException.__getattribute__" = some ("BaseException", "__getattribute__") := by decide +kernel
 have hcB : (Value.ref Cl :: bm).contains (.type "BaseException") = true := by rw [List.contains_cons, X.obj.2, Bool.or_true]
 have ha := F.args_bexc_ga (.ref a) nameV
 simp only [checkBuiltinCall, hk, hsplit]
 refine wpAny_bind ?_
 ·unfold isInstance
  repeat (first | (with_reducible refine wpAny_loadPart hx ?_; rw [hc]) | (with_reducible refine sub_exc X ?_; rw [hcB]) | wp_step)
  exact hq
theorem class_call {tk : Tok} {R : Result → Shared → Prop} (X : XC s.heap Cl bm) (hx : s.heap.get? a = some o) (hc : o.cls = .ref Cl) (hq : R (.ok (.ret (.ref Cl))) s) :
  codeAny (model prog w) A (.call (.builtin "BaseException.__getattribute__") ⟨[.ref a, .str "__class__" tk], []⟩) R s :=
 codeAny_call_builtin F.attrBase_ValueError.ga.plain F.entry_bexc_ga (check_ga X hx hc (class_entry X hx hc hq))
theorem class_by {tk : Tok} {fill expr : Bool} {Q : Value → Shared → Prop} (X : XC s.heap Cl bm) (hx : s.heap.get? a = some o) (hc : o.cls = .ref Cl) (hq : Q (.ref Cl) s) :
  wpAny (model prog w) A (getAttrBy (.ref a) (.str "__class__" tk) fill expr) Q E s := by
 have f3 := F.attrBase_ValueError.ga.bind (.ref a)
 have hx0 : (expr && onTheHeap (Value.builtin "BaseException.__getattribute__")) = false := by cases expr <;> rfl
 have hx2 : (Value.builtin "BaseException.__getattribute__" == Value.builtin "object.__getattribute__") = false := by decide +kernel
 have hx1 : (onTheHeap (Value.ref Cl) && Value.builtin "BaseException.__getattribute__" == Value.builtin "object.__getattribute__") = false := by rw [hx2]; rfl
 have hm1 : ("__getattribute__" : Str) ∈ lookNames := .tail _ (.head _)
 have hm2 : ("__getattr__" : Str) ∈ lookNames := .tail _ (.tail _ (.head _))
 repeat (any_goals (first | assumption | (with_reducible refine wpAny_loadPart hx ?_; rw [hc]) | with_reducible refine look_exc X hm1 F.attrBase_ValueError.ga.lookup ?_ | with_reducible refine look_exc X hm2 F.attrBase_ValueError.noGetattr ?_ | wp_step))
 refine class_call X hx hc ?_
 repeat (any_goals (first | assumption | wp_step))
theorem class_attr {Q : Option Value → Shared → Prop} (X : XC s.heap Cl bm) (hx : s.heap.get? a = some o) (hc : o.cls = .ref Cl) (hq : Q (some (.ref Cl)) { s with toks := s.toks + 1 }) : wpAny (model prog w) A (getAttr? (.ref a) "__class__") Q E s := by
 obtain ⟨h, g, d, t, os⟩ := s
 dsimp only at X hx hq
 unfold getAttr? getAttrBy?
 repeat (any_goals (first | assumption | with_reducible apply class_by (s := ⟨h, g, d, t + 1, os⟩) X hx hc | wp_step))
theorem isi_exc_ref {H : Addr} {bm' : List Value} {dep : Int} {tk : Tok} {Q : Fin → Shared → Prop} (X : XC s.heap Cl bm) (XH : XC s.heap H bm') (hx : s.heap.get? a = some o) (hc : o.cls = .ref Cl)
  (hq : ∀ tk', Q (.done (.ret (.bool ((Value.ref Cl :: bm).contains (.ref H))))) { s with toks := tk' }) :
  wpAny (model prog w) A (Builtin.«isinstance.nested» ⟨[.ref a, .ref H, .int dep tk], []⟩) Q E s := by
 obtain ⟨N, nm, q, bs, hdct, sn, sub, ab, col, dd, k0, k1, k2, k3, k5, mN, h1, h2, h3, h4⟩ := XH
 have q0 := hq s.toks
 by_cases e : Cl = H
 ·subst e
  have hcc : (Value.ref Cl :: bm).contains (.ref Cl) = true := by simp
  rw [hcc] at q0
  have hee : (Value.ref Cl == Value.ref Cl) = true := by simp
  repeat (any_goals (first | assumption | (with_reducible refine wpAny_loadPart hx ?_; rw [hc]) | wp_step))
 ·have hne : (Value.ref Cl == Value.ref H) = false := by simpa using e
  obtain ⟨h, g, d, t, os⟩ := s
  dsimp only at X hx hq h1
  have hTH : (⟨h, g, d, t, os⟩ : Shared).TypeIs (.ref H) "type" := ⟨_, h1, rfl⟩
  cases hb : (Value.ref Cl :: bm).contains (.ref H) with
  | true =>
   rw [hb] at hq
   repeat (any_goals (first | exact hq _ | assumption | (with_reducible refine wpAny_loadPart_at hx ?_; rw [hc]) | (with_reducible refine wpAny_loadPart_at h1 ?_) | (with_reducible refine sub_exc (s := ⟨h, g, d, t, os⟩) X ?_; rw [hb]) | wp_step))
  | false =>
   rw [hb] at hq
   repeat (any_goals (first | exact hq _ | assumption | (with_reducible refine wpAny_loadPart_at hx ?_; rw [hc]) | (with_reducible refine wpAny_loadPart_at h1 ?_) | (with_reducible refine sub_exc (s := ⟨h, g, d, t, os⟩) X ?_; rw [hb]) | with_reducible apply class_attr (s := ⟨h, g, d, t, os⟩) X hx hc | wp_step))
   obtain ⟨N', nm', q', bs', hdct', sn', sub', ab', col', dd', l0, l1, l2, l3, l5, mN', hCl, _⟩ := id X
   refine wpAny_loadPart_at hCl (wpAny_pure ?_)
   dsimp only
   rw [if_neg (by decide)]
   refine wpAny_bind (wpAny_rule (sub_exc (s := ⟨h, g, d, t + 1, os⟩) X ?_))
   rw [hb]
   exact wpAny_pure (hq _)
end
end Mine
end
noncomputable section
namespace Mine
open PySem PySem.W PyProof.Rows PySem.Calls
noncomputable def deadObj : Obj := { cls := .none, dict := none, data := .freed }
noncomputable def heapAdd (h : Heap) (e : Addr) (o : Obj) : Heap := if e < h.objs.size then ⟨h.objs.setIfInBounds e o, h.life⟩ else ⟨(h.objs ++ Array.replicate (e - h.objs.size) deadObj).push o, h.life⟩
theorem heapAdd_get {h : Heap} {e : Addr} {o : Obj} (hz : h.get? e = none) (ho : o.isFreed = false) (b : Addr) : (heapAdd h e o).get? b = if b = e then some o else h.get? b := by
 have at_ : (heapAdd h e o).objs[e]? = some o := by
  unfold heapAdd
  split
  ·rename_i q
   show (h.objs.setIfInBounds e o)[e]? = some o
   rw [Array.getElem?_setIfInBounds_self_of_lt q]
  ·rename_i q
   have sz : (h.objs ++ Array.replicate (e - h.objs.size) deadObj).size = e := by
    rw [Array.size_append, Array.size_replicate]
    exact Nat.add_sub_cancel' (Nat.le_of_not_lt q)
   show ((h.objs ++ Array.replicate (e - h.objs.size) deadObj).push o)[e]? = some o
   rw [Array.getElem?_push, sz, if_pos rfl]
 have other : b ≠ e → ∀ x, x.isFreed = false → ((heapAdd h e o).objs[b]? = some x ↔ h.objs[b]? = some x) := by
  intro hb x hf
  unfold heapAdd
  split
  ·show (h.objs.setIfInBounds e o)[b]? = some x ↔ _
   rw [Array.getElem?_setIfInBounds_ne (Ne.symm hb)]
  ·rename_i q
   have sz : (h.objs ++ Array.replicate (e - h.objs.size) deadObj).size = e := by
    rw [Array.size_append, Array.size_replicate]
    exact Nat.add_sub_cancel' (Nat.le_of_not_lt q)
   show ((h.objs ++ Array.replicate (e - h.objs.size) deadObj).push o)[b]? = some x ↔ _
   rw [Array.getElem?_push, sz, if_neg hb, Array.getElem?_append]
   split
   ·exact Iff.rfl
   ·rename_i q2
    rw [Array.getElem?_replicate, Array.getElem?_eq_none (Nat.le_of_not_lt q2)]
    split
    ·exact ⟨fun z => (by cases z; cases hf), fun z => (by cases z)⟩
    ·exact Iff.rfl
 by_cases hb : b = e
 ·rw [if_pos hb, hb]
  exact Heap.get?_some_iff.mpr ⟨at_, ho⟩
 ·rw [if_neg hb]
  cases hg : h.get? b with
  | some x =>
   obtain ⟨h1, h2⟩ := Heap.get?_some_iff.mp hg
   exact Heap.get?_some_iff.mpr ⟨(other hb x h2).mpr h1, h2⟩
  | none =>
   cases hq : (heapAdd h e o).get? b with
   | none => rfl
   | some x =>
    obtain ⟨h1, h2⟩ := Heap.get?_some_iff.mp hq
    have := Heap.get?_some_iff.mpr ⟨(other hb x h2).mp h1, h2⟩
    rw [hg] at this; cases this
noncomputable def Cx.hold (C : Cx) (e : Addr) (o : Obj) : Cx := { C with s₁ := { C.s₁ with heap := heapAdd C.s₁.heap e o }, held := some e }
section
variable {C : Cx} {e : Addr} {o : Obj} {σ : View} {s : Shared} {env : Env} {m : Loc} {p : Program} {vs : Array Value}
theorem hold_keeps (hz : C.hB.get? e = none) (ho : o.isFreed = false) : ∀ b x, C.hB.get? b = some x → (C.hold e o).hB.get? b = some x := fun b x h => by
 show (heapAdd C.hB e o).get? b = some x
 rw [heapAdd_get hz ho, if_neg (by rintro rfl; rw [hz] at h; cases h)]; exact h
theorem hold_at (hz : C.hB.get? e = none) (ho : o.isFreed = false) : (C.hold e o).hB.get? e = some o := by
 show (heapAdd C.hB e o).get? e = some o
 rw [heapAdd_get hz ho, if_pos rfl]
theorem RelG.hold (R : RelG C σ s) (hz : C.hB.get? e = none) (ho : o.isFreed = false) (he : s.heap.get? e = some o) (hs : σ e = none) : RelG (C.hold e o) σ s := by
 refine ⟨let ⟨h, tk, d, q⟩ := R.rest; ⟨h, tk, d, by rw [q]; rfl⟩, fun b x h => ?_, fun a x h => ?_, fun a h => ?_⟩
 ·have h' : (heapAdd C.hB e o).get? b = some x := h
  rw [heapAdd_get hz ho] at h'
  split at h'
  ·rename_i q; cases h'; rw [q]; exact he
  ·exact R.base b x h'
 ·have := R.view a x h
  cases x <;> exact this
 ·show (heapAdd C.hB e o).get? a = none
  rw [heapAdd_get hz ho, if_neg (by rintro rfl; exact h hs)]; exact R.apart a h
theorem RelG.drop (R : RelG (C.hold e o) σ s) (hz : C.hB.get? e = none) (ho : o.isFreed = false) : RelG C σ s := by
 refine ⟨let ⟨h, tk, d, q⟩ := R.rest; ⟨h, tk, d, by rw [q]; rfl⟩, fun b x h => R.base b x (hold_keeps hz ho b x h), fun a x h => ?_, fun a h => ?_⟩
 ·have := R.view a x h
  cases x <;> exact this
 ·have : (heapAdd C.hB e o).get? a = none := R.apart a h
  rw [heapAdd_get hz ho] at this
  split at this
  ·cases this
  ·exact this
theorem FrameRel.hold (F : FrameRel C env m σ s.heap) (hz : C.hB.get? e = none) (ho : o.isFreed = false) (he : s.heap.get? e = some o) (hd : o.data = .fields vs) : FrameRel (C.hold e o) env m σ s.heap := by
 refine ⟨F.ns, F.cel, F.cells, F.sepL, ?_, fun n c hc => ?_, F.dist, F.has⟩
 ·show (heapAdd C.hB e o).get? env.locals = none
  rw [heapAdd_get hz ho, if_neg ?_]
  ·exact F.baseL
  ·rintro q
   obtain ⟨mm, ⟨oL, es, ep, hoL, hdL, _⟩, _⟩ := F.ns
   rw [q, he] at hoL; cases hoL; rw [hd] at hdL; cases hdL
 ·show (heapAdd C.hB e o).get? c = none
  rw [heapAdd_get hz ho, if_neg ?_]
  ·exact F.baseC n c hc
  ·rintro q
   obtain ⟨v, oc, hoc, hdc⟩ := F.cells n c hc
   rw [q, he] at hoc; cases hoc; rw [hd] at hdc; cases hdc
theorem FrameRel.drop (F : FrameRel (C.hold e o) env m σ s.heap) (hz : C.hB.get? e = none) (ho : o.isFreed = false) : FrameRel C env m σ s.heap := by
 have dr : ∀ b, (C.hold e o).hB.get? b = none → C.hB.get? b = none := fun b h => by
  cases q : C.hB.get? b with
  | none => rfl
  | some x => rw [hold_keeps hz ho b x q] at h; cases h
 exact ⟨F.ns, F.cel, F.cells, F.sepL, dr _ F.baseL, fun n c hc => dr _ (F.baseC n c hc), F.dist, F.has⟩
theorem Cx.Ok.hold (O : C.Ok) (hz : C.hB.get? e = none) (ho : o.isFreed = false) (hd : o.data = .fields vs) (h2 : vs[2]? = some .none) : (C.hold e o).Ok where
 g := O.g.keeps (hold_keeps hz ho)
 b := O.b.keeps (hold_keeps hz ho)
 nolimit := O.nolimit.keeps (hold_keeps hz ho)
 mods := let ⟨x, hx⟩ := O.mods; ⟨x, hold_keeps hz ho _ _ hx⟩
 few := O.few
 heldOk := fun e' h => by
  have : e' = e := by
   have h' : some e = some e' := h
   cases h'; rfl
  subst this
  exact ⟨o, vs, hold_at hz ho, hd, h2⟩
 script := let ⟨ws, h1, h2, h3⟩ := O.script; ⟨ws, h1.at fun x hx => hold_keeps hz ho _ _ hx, h2, h3⟩
theorem Gl.hold (G : Gl C p) (hz : C.hB.get? e = none) (ho : o.isFreed = false) (hd : o.data = .fields vs) (h2 : vs[2]? = some .none) : Gl (C.hold e o) p where
 ok := G.ok.hold hz ho hd h2
 mb := G.mb
 free := G.free
 fn := fun d hd' => by
  obtain ⟨a, o', pm, code, doc, h1, h2', h3, h4⟩ := G.fn d hd'
  exact ⟨a, o', pm, code, doc, h1, hold_keeps hz ho _ _ h2', h3, h4.keeps (hold_keeps hz ho)⟩
end
end Mine
end
noncomputable section
set_option maxRecDepth 100000
namespace Mine
open PySem PySem.W PyProof.Rows PySem.Calls
section
variable {prog : Program} {w : World} {A : Around} {E : Value → Shared → Prop} {s : Shared} {Cl H a : Addr} {bm bmH : List Value} {o : Obj} {M : Model}
theorem matches_exc {Q : Bool → Shared → Prop} (X : XC s.heap Cl bm) (XH : XC s.heap H bmH) (hx : s.heap.get? a = some o) (hc : o.cls = .ref Cl) (hq : Q ((Value.ref Cl :: bm).contains (.ref H)) s) :
  wpAny M A (excMatches (.ref a) (.ref H)) Q E s := by
 have hcB : (Value.ref H :: bmH).contains (.type "BaseException") = true := by rw [List.contains_cons, XH.obj.2, Bool.or_true]
 obtain ⟨N, nm, q, bs, hdct, sn, sub, ab, col, dd, k0, k1, k2, k3, k5, mN, h1, h2, h3, h4⟩ := id XH
 have f := tc_notTuple
 obtain ⟨h, g, d, t, os⟩ := s
 dsimp only at X XH hx h1
 unfold excMatches
 repeat (first | (with_reducible refine wpAny_loadPart_at hx ?_; rw [hc]) | with_reducible refine wpAny_loadPart_at h1 ?_ | (with_reducible refine wpAny_isSubtype_exc h1 ?_; rw [hcB]) | (with_reducible refine sub_exc (s := ⟨h, g, d, t, os⟩) X ?_) | wp_step)
 cases hb : (Value.ref Cl :: bm).contains (.ref H) <;> (rw [hb] at hq; wp_walk; exact hq)
end
noncomputable def cut (m : Loc) (x : String) : Loc := fun y => if y = x then Option.none else m y
section
variable {C : Cx} {sc : Scope} {k : Nat}
theorem unbind {env : Env} {A : Around} {s : Shared} {m : Loc} {σ : View} {x : String} {pos : Pos} {P : Unit → Shared → Prop} {E : Value → Shared → Prop} (en : EnvOk env sc) (R : RelG C σ s) (F : FrameRel C env m σ s.heap)
  (hl : sc.names.lookup (Str.ofString x) = some .local)
  (h : ∀ s', RelG C σ s' → FrameRel C env (cut m x) σ s'.heap → Step (Own env) σ σ s.heap s'.heap → P () s') : wpAny (model C.prog C.w) A (do bindName env (Str.ofString x) .none; unbindBehindTheSuite env (Str.ofString x) pos) P E s := by
 refine wpAny_bind (wpAny_bindName (store_local en R F hl (v := .none) .none fun s₁ R₁ F₁ S₁ => ?_))
 unfold unbindBehindTheSuite
 refine wpAny_onRaise ?_
 obtain ⟨mm, hn, hm⟩ := F₁.ns
 obtain ⟨w, hw, _⟩ := hm x .none (by simp) (en.of hl)
 refine wpAny_unbindName_local (en.of hl) hn hw (by rw [en.k]; rfl) fun h' u hn' hs' => ?_
 obtain ⟨oL, esL, epL, hoL, hdL, _⟩ := id hn
 have kt : TupKeep s₁.heap h' := fun b o e ht => (hs'.2 b (by rintro rfl; rw [hoL] at e; cases e; obtain ⟨_, _, _, hd⟩ := ht; rw [hdL] at hd; cases hd)).trans e
 have kc : ∀ c v, s₁.heap.IsCell c v → h'.IsCell c v := fun c v ⟨o, ho, hd⟩ => ⟨o, (hs'.2 c (by rintro rfl; rw [hoL] at ho; cases ho; rw [hdL] at hd; cases hd)).trans ho, hd⟩
 have cutm : ∀ y v, cut m x y = some v → y ≠ x ∧ put m x .none y = some v := fun y v e => by
  unfold cut at e
  split at e
  ·cases e
  ·rename_i q; exact ⟨q, by rw [put_ne q]; exact e⟩
 refine h _ ?_ ?_ ?_
 ·refine ⟨let ⟨_, tk, d, e⟩ := R₁.rest; ⟨h', tk, d, by rw [e]⟩, fun b o e => ?_, fun a o e => ?_, R₁.apart⟩
  ·exact (hs'.2 b (by rintro rfl; rw [F.baseL] at e; cases e)).trans (R₁.base b o e)
  ·exact (R₁.view a o e).keep kt fun o' e' => (hs'.2 a (by rintro rfl; rw [F.sepL] at e; cases e)).trans e'
 ·refine ⟨⟨_, hn', fun y v e ky => ?_⟩, fun y v e => ?_, fun n c e => ?_, F.sepL, F.baseL, F.baseC, F.dist, F.has⟩
  ·obtain ⟨hy, e'⟩ := cutm y v e
   obtain ⟨w', h1, h2⟩ := hm y v e' ky
   exact ⟨w', by simp [show ¬ Str.ofString y = Str.ofString x from fun z => hy (ofString_inj z), h1], h2.keep kt⟩
  ·obtain ⟨hy, e'⟩ := cutm y v e
   rcases F₁.cel y v e' with z | ⟨z, c, w', h1, h2, h3⟩
   ·exact .inl z
   ·exact .inr ⟨z, c, w', h1, kc _ _ h2, h3.keep kt⟩
  ·obtain ⟨v, hv⟩ := F₁.cells n c e; exact ⟨v, kc _ _ hv⟩
 ·exact (S₁.mono fun _ _ _ z => .inl z).trans (.of (fun b o e n q => (hs'.2 b fun z => q (.inl z)).trans e) (Nat.le_of_eq hs'.1.symm) fun _ a b => absurd a b)
noncomputable def xTry (n : String) (cs : List String) (T : STX) (U : Addr → String → ST) : STX := fun m σ Q X => T m σ Q fun c m' σ' => c ∈ cs ∧ ∀ e, σ' e = Option.none → U e c (put m' n (.ref e)) σ' fun f m'' σ'' => Q f (cut m'' n) σ''
end
end Mine
end
noncomputable section
set_option maxRecDepth 100000
namespace Mine
open PySem PySem.W PyProof.Rows PySem.Calls
section
variable {prog : Program} {w : World} {A : Around} {E : Value → Shared → Prop} {s : Shared} {Cl H a : Addr} {bm bmH : List Value} {o : Obj}
theorem isi_call_ref {Q : Value → Shared → Prop} (X : XC s.heap Cl bm) (XH : XC s.heap H bmH) (hx : s.heap.get? a = some o) (hc : o.cls = .ref Cl) (hq : ∀ tk', Q (.bool ((Value.ref Cl :: bm).contains (.ref H))) { s with toks := tk' }) :
  wpAny (model prog w) A (call (.builtin "isinstance") [.ref a, .ref H]) Q E s :=
 call_isinstance (S := fun _ R s' => s' = s ∧ ∀ tk', R (.ok (.ret (.bool ((Value.ref Cl :: bm).contains (.ref H))))) { s with toks := tk' })
  (fun _ _ _ _ s' hs => by obtain ⟨rfl, hs⟩ := hs; exact isinstance_outer (isi_exc_ref X XH hx hc fun tk' => hs tk') (by intro e; cases e)) ⟨rfl, fun tk' => hq tk'⟩
end
section
variable {C : Cx} {sc : Scope} {k : Nat} {p : Program}
noncomputable def spIsX (e : Addr) (c : V) (b : Bool) : Spec := fun vs σ Q => vs = [.ref e, c] ∧ Q (.bool b) σ
theorem ok_isX {e Cc H : Addr} {o : Obj} {bm bmH : List Value} {b : Bool} (he : C.hB.get? e = some o) (hc : o.cls = .ref Cc) (X : XC C.hB Cc bm) (XH : XC C.hB H bmH) (hb : (Value.ref Cc :: bm).contains (.ref H) = b) : OpN C k (fun ws => PySem.call (.builtin "isinstance") ws) (spIsX e (.ref H) b) := by
 rintro A s σ vs ws Q P E ao R hv ⟨rfl, q⟩ hP
 obtain ⟨wa, wb, rfl, h1, h2⟩ := hv.inv2
 cases h1; cases h2
 refine isi_call_ref (X.keeps R.base) (XH.keeps R.base) (R.base _ _ he) hc fun tk' => ?_
 rw [hb]
 exact hP _ _ σ _ (.bool b) (R.tok _) Step.refl q
theorem HE.isX (G : Gl C p) {n K : String} {H : Addr} {e : Addr} {b : Bool} {np p1 p2 pos : Pos} (hop : OpN C k (fun ws => PySem.call (.builtin "isinstance") ws) (spIsX e (.ref H) b)) (hi : sc.names.lookup (Str.ofString "isinstance") = some .globalImplicit)
  (hn : sc.names.lookup (Str.ofString n) = some .local) (hnd : (Str.ofString n == ("__debug__" : Str)) = false) (hk : sc.names.lookup (Str.ofString K) = some .globalImplicit) (hkd : (Str.ofString K == ("__debug__" : Str)) = false) (hg : C.mg (Str.ofString K) = some (.ref H)) :
  HE C sc k (.Call (.Name (Str.ofString "isinstance") np) [.Name (Str.ofString n) p1, .Name (Str.ofString K) p2] [] pos) (eCall (spIsX e (.ref H) b) (lCons (eName n) (lCons (eVal (.ref H)) lNil))) :=
 HE.builtin G.ok hop hi (G.free _ (by decide)) (G.blt bb_isi (by decide)) rfl (HL.cons (HE.name hn hnd) (HL.cons (HE.glob G.ok (v := .ref H) hk hg (fun _ => .ref _) hkd) HL.nil rfl) rfl) rfl
@[simp] theorem isX_eq {e : Addr} {c : V} {b : Bool} {σ : View} {Q : V → View → Prop} : spIsX e c b [.ref e, c] σ Q = Q (.bool b) σ := propext ⟨fun h => h.2, fun h => ⟨rfl, h⟩⟩
theorem FnAtX.mk (G : Gl C p) (i n : Nat) {f : String} {xs : List String} {j : Nat} {spec : SpecX} {T : STX}
  (hm : (recsOf p)[i]? = some ⟨Str.ofString f, parsAt p n, bodyAt p n, scopeAt p n, posAt p n⟩)
  (hk : (scopeAt p n).kind = .function) (hfr : ((scopeAt p n).names.all fun q => q.2 != .free) = true) (hco : (scopeAt p n).isCoroutine = false) (hgen : (scopeAt p n).isGenerator = false)
  (hbind : ∀ (ws : List Value) (pm code doc : Value), ws.length = xs.length → bindArgs (docDef (Str.ofString f) (parsAt p n) (bodyAt p n) (scopeAt p n) pm code doc) ⟨ws, []⟩ = pure ((xs.map Str.ofString).zip ws))
  (hloc : (xs.all fun x => (scopeAt p n).names.lookup (Str.ofString x) == some .local || (scopeAt p n).names.lookup (Str.ofString x) == some .cell) = true)
  (hT : HSX C (scopeAt p n) j (bodyAt p n) T)
  (hspec : ∀ vs σ Q X, spec vs σ Q X → vs.length = xs.length ∧ T (bindM xs vs none') σ (fin Q) (fun c _ σ' => X c σ')) : FnAtX C j f spec := by
 obtain ⟨a, o, pm, code, doc, h1, h2, h3, h4⟩ := G.fn _ (List.mem_of_getElem? hm)
 refine ⟨a, o, _, h1, h2, h3, FnSoundX.mk G.ok (xs := xs) h2 h3 h4 rfl rfl rfl rfl rfl hk ?_ hco hgen (fun ws hw => hbind ws pm code doc hw) ?_ hT hspec⟩
 ·intro q hq
  have := List.all_eq_true.mp hfr q hq
  simpa using this
 ·intro x hx
  have := List.all_eq_true.mp hloc x hx
  simp only [Bool.or_eq_true, beq_iff_eq] at this
  exact this
noncomputable def spLawX : SpecX := fun vs σ Q _ => vs = [.script] ∧ (∀ a, σ a = Option.none) ∧ ∀ σ', Q (.bool true) σ'
theorem law_endsX (hz : C.held = Option.none) {f : Addr} {j : Nat} {r : OpenLaw} {args : List WData} {cl : Str → Option Addr} {mean : ExcName → Option Value} (hf : FnSoundX C j f spLawX) (hj : j ≤ 100) (hg : C.s₁.gens = #[])
  (hn : ∀ cls, r.row.claim.raises args cls = false) (hp : r.row.claim.post args (.bool true) args = true) :
  codeAny (model C.prog C.w) callerA (.call (.ref f) ⟨[.ref C.aS], []⟩) (GoodWG r.row.claim cl mean args C.s₁) C.s₁ := by
 refine codeAny_mono (hf callerA C.s₁ (fun _ => Option.none) [.script] [.ref C.aS] (fun v σ => v = .bool true) (fun _ _ => False) (fun w s' => w = .bool true ∧ ∃ σ', RelG C σ' s') (fun _ _ => False) ⟨by rw [hz]; rfl, ?_, ?_⟩ ⟨[], rfl, fun y hy => by cases hy⟩ ⟨⟨_, _, _, rfl⟩, fun _ _ e => e, fun _ _ e => by (cases e), fun _ e => absurd rfl e⟩ (.cons .script .nil) ⟨rfl, fun _ => rfl, fun _ => rfl⟩ ?_ (fun _ _ _ _ _ _ _ h => h)) ?_
 ·show 1 + claimMargin + 3 * (j + 1) + 3 < recursionLimit
  have : claimMargin = 300 := rfl
  have : recursionLimit = 1000 := rfl
  omega
 ·show 4 + 10 * (j + 1) + 20 < cLine
  unfold cLine
  exact Nat.lt_of_not_le fun hg => lin [j] [(10, (.v 0), (.n 100)), (1, (.n 9900), (.a (.a (.n 4) (.m 10 (.a (.v 0) (.n 1)))) (.n 20)))] rfl hj hg
 ·intro v w σ' s' hv R' S' q
  subst q
  cases hv with | bool b => exact ⟨rfl, σ', R'⟩
 ·intro res s' h
  cases res with
  | error e => exact h.elim
  | ok fl =>
   cases fl with
   | ret v =>
    obtain ⟨rfl, σ', R'⟩ := h
    obtain ⟨h₁, tk, d₁, e⟩ := R'.rest
    refine GoodW.toG ⟨.inl ⟨_, .bool true, [], rfl, hn, .bool true, hp, fun _ => ⟨List.nodup_nil, fun a h => by cases h⟩⟩, R'.base, ?_, ?_⟩
    ·rw [e]
    ·rw [e]; exact hg
   | _ => exact h.elim
end
end Mine
end
noncomputable section
namespace Mine
open PySem PySem.W PyProof.Rows PySem.Calls
section
variable {C : Cx} {sc : Scope} {k : Nat}
end
noncomputable def otIn (K : Frag) : List Value → Bool
 | [] => false
 | v :: r => (v :: r) == veBases || match v with
  | .ref A => (match K.lookup A with
   | some ⟨_, _, .cls cd, _⟩ => nsOkIn K cd.ns && lookNames.all (fun n => nsIn K cd.ns n == some none) && otIn K r
   | _ => false)
  | _ => false
theorem ot_of_in {K : Frag} {h : Heap} (X : K.In h) : ∀ {l : List Value}, otIn K l = true → OT h l
 | [], e => by cases e
 | v :: r, e => by
  unfold otIn at e
  rcases Bool.or_eq_true_iff.mp e with q | q
  ·rw [beq_iff_eq.mp q]; exact .base
  ·split at q
   ·split at q
    ·rename_i ho
     simp only [Bool.and_eq_true] at q
     refine .own (X _ _ ho) (.of_isNs (isNs_of_in X q.1.1)) (fun n hn => nsMap_none_of_in X q.1.1 ?_) (ot_of_in X q.2)
     exact beq_iff_eq.mp (List.all_eq_true.mp q.1.2 n hn)
    ·cases q
   ·cases q
noncomputable def xcIn (K : Frag) (C : Addr) (bm : List Value) : Bool := match K.lookup C with
 | some o => o.cls == .type "type" && (o.slots[4]? == some (some (.builtin "ValueError.__new__")) && o.slots.size == 6) && match o.data with
  | .cls cd => cd.mro == .ref C :: bm && !cd.hasDel && otIn K bm && nsOkIn K cd.ns && lookNames.all (fun n => nsIn K cd.ns n == some none)
  | _ => false
 | none => false
theorem slots_six {sl : Array (Option Value)} {v : Option Value} (h4 : sl[4]? = some v) (h6 : sl.size = 6) : ∃ k0 k1 k2 k3 k5, sl = #[k0, k1, k2, k3, v, k5] := by
 obtain ⟨l⟩ := sl
 simp only [List.size_toArray] at h6
 rcases l with _ | ⟨k0, _ | ⟨k1, _ | ⟨k2, _ | ⟨k3, _ | ⟨k4, _ | ⟨k5, _ | ⟨k6, r⟩⟩⟩⟩⟩⟩⟩ <;> first | cases h6 | skip
 simp at h4
 subst h4
 exact ⟨k0, k1, k2, k3, k5, rfl⟩
theorem xc_of_in {K : Frag} {h : Heap} {C : Addr} {bm : List Value} (X : K.In h) (q : xcIn K C bm = true) : XC h C bm := by
 unfold xcIn at q
 cases ho : K.lookup C with
 | none => rw [ho] at q; cases q
 | some o =>
  rw [ho] at q
  obtain ⟨oc, od, da, sl⟩ := o
  cases da with
  | cls cd =>
   simp only [Bool.and_eq_true, beq_iff_eq, Bool.not_eq_true'] at q
   obtain ⟨⟨rfl, h4, h6⟩, ⟨⟨⟨hm, hdel⟩, ht⟩, hok⟩, hni⟩ := q
   obtain ⟨k0, k1, k2, k3, k5, rfl⟩ := slots_six h4 h6
   obtain ⟨nm, bs, mro, ns, qn, hd, sn, sub, ab, col, del⟩ := cd
   dsimp only at hm hdel hok hni
   subst hm hdel
   exact ⟨ns, nm, qn, bs, hd, sn, sub, ab, col, od, k0, k1, k2, k3, k5, _, X _ _ ho, .of_isNs (isNs_of_in X hok), fun n hn => nsMap_none_of_in X hok (beq_iff_eq.mp (List.all_eq_true.mp hni n hn)), ot_of_in X ht⟩
  | _ => simp at q
theorem XC.own {h : Heap} {Cl : Addr} {bm : List Value} {mg : Str → Option Value} {x : Str} (X : XC h Cl bm) (hg : mg x = some (.ref Cl)) : OwnCls x Cl veBases "ValueError.__new__" mg h := by
 obtain ⟨N, nm, q, bs, hdct, sn, sub, ab, col, dd, k0, k1, k2, k3, k5, mN, h1, h2, h3, h4⟩ := X
 exact ⟨hg, bm, N, nm, q, bs, hdct, sn, sub, ab, col, dd, k0, k1, k2, k3, k5, mN, h1, h2, h3 _ (.head _), h4.tail⟩
end Mine
end
noncomputable section
namespace Mine
open PySem PySem.W PyProof.Rows PySem.Calls
noncomputable def subX (c k : String) : Bool := c == k || k == "RoadError"
structure XTab (C : Cx) (cs ks : List String) (ad : String → Addr) : Prop where
 at_ : ∀ k ∈ ks, C.mg (Str.ofString k) = some (.ref (ad k)) ∧ ∃ bm, XC C.hB (ad k) bm
 sub : ∀ c ∈ cs, ∃ bm, C.mg (Str.ofString c) = some (.ref (ad c)) ∧ XC C.hB (ad c) bm ∧ bm.contains (.type "ValueError") = true ∧ ∀ k ∈ ks, (Value.ref (ad c) :: bm).contains (.ref (ad k)) = subX c k
 ve : C.mg (Str.ofString "ValueError") = Option.none
section
variable {C : Cx} {sc : Scope} {k : Nat} {p : Program} {cs ks : List String} {ad : String → Addr}
theorem HSX1.raiseAt (G : Gl C p) (hz : C.held = Option.none) (Tb : XTab C cs ks ad) {c : String} (hc : c ∈ cs) {x : Str} {n : Nat} {np ap cpos pos : Pos} (hn : sc.names.lookup (Str.ofString c) = some .globalImplicit) (hdb : (Str.ofString c == ("__debug__" : Str)) = false) :
  HSX1 C sc k (.Raise (some (.Call (.Name (Str.ofString c) np) [.Constant (.str x) n ap] [] cpos)) Option.none pos) (xRaise c) := by
 obtain ⟨bm, h1, h2, _⟩ := Tb.sub c hc
 exact HSX1.raise G.ok hz (h2.own h1) hn hdb
theorem HE.isK (G : Gl C p) (Tb : XTab C cs ks ad) {e : Addr} {o : Obj} {vs : Array Value} {c n K : String} (hc : c ∈ cs) (hez : C.hB.get? e = Option.none) (hof : o.isFreed = false) (hcls : o.cls = .ref (ad c)) (hd : o.data = .fields vs) (h2 : vs[2]? = some .none) (hK : K ∈ ks) {np p1 p2 pos : Pos}
  (hi : sc.names.lookup (Str.ofString "isinstance") = some .globalImplicit) (hn : sc.names.lookup (Str.ofString n) = some .local) (hnd : (Str.ofString n == ("__debug__" : Str)) = false) (hk : sc.names.lookup (Str.ofString K) = some .globalImplicit) (hkd : (Str.ofString K == ("__debug__" : Str)) = false) :
  HE (C.hold e o) sc k (.Call (.Name (Str.ofString "isinstance") np) [.Name (Str.ofString n) p1, .Name (Str.ofString K) p2] [] pos) (eCall (spIsX e (.ref (ad K)) (subX c K)) (lCons (eName n) (lCons (eVal (.ref (ad K))) lNil))) := by
 obtain ⟨h1, bmH, h3⟩ := Tb.at_ K hK
 obtain ⟨bm, h4, h5, _, h6⟩ := Tb.sub c hc
 exact HE.isX (G.hold hez hof hd h2) (ok_isX (hold_at hez hof) hcls (h5.keeps (hold_keeps hez hof)) (h3.keeps (hold_keeps hez hof)) (h6 K hK)) hi hn hnd hk hkd h1
end
section
variable {m : Loc} {σ : View} {Q : Fl → Loc → View → Prop} {X : XT} {R : V → View → Prop} {Y : String → View → Prop}
@[simp] theorem xP_eq {T : ST} : xP T m σ Q X = T m σ Q := rfl
@[simp] theorem xRaise_eq {c : String} : xRaise c m σ Q X = X c m σ := rfl
@[simp] theorem xIf_eq {B : BT} {T U : STX} : xIf B T U m σ Q X = B m σ fun b σ' => if b then T m σ' Q X else U m σ' Q X := rfl
@[simp] theorem xFor_eq {g : Tgt} {I : IT} {T : STX} : xFor g I T m σ Q X = I m σ fun items inv σ' => xforL g inv T items m σ' Q X := rfl
@[simp] theorem xSet_eq {x : String} {T : ETX} : xSet x T m σ Q X = T m σ (fun v σ' => Q .next (put m x v) σ') fun c σ' => X c m σ' := rfl
@[simp] theorem xRet_eq {T : ETX} : xRet T m σ Q X = T m σ (fun v σ' => Q (.ret v) m σ') fun c σ' => X c m σ' := rfl
@[simp] theorem xCall_eq {spec : SpecX} {L : LT} : xCall spec L m σ R Y = L m σ fun vs σ' => spec vs σ' R Y := rfl
@[simp] theorem xTry_eq {n : String} {cs : List String} {T : STX} {U : Addr → String → ST} : xTry n cs T U m σ Q X = T m σ Q fun c m' σ' => c ∈ cs ∧ ∀ e, σ' e = Option.none → U e c (put m' n (.ref e)) σ' fun f m'' σ'' => Q f (cut m'' n) σ'' := rfl
noncomputable def xkont (U : STX) (Q : Fl → Loc → View → Prop) (X : XT) : Fl → Loc → View → Prop := fun f m σ => match f with
 | .next => U m σ Q X
 | f => Q f m σ
theorem xseq_eq (T U : STX) : xSeq T U m σ Q X = T m σ (xkont U Q X) X := rfl
@[simp] theorem xkont_next (U : STX) : xkont U Q X .next m σ = U m σ Q X := rfl
@[simp] theorem xkont_ret (U : STX) (v : V) : xkont U Q X (.ret v) m σ = Q (.ret v) m σ := rfl
end
theorem xforL_inv {g : Tgt} {inv : View → Prop} {T : STX} (I : Nat → Loc → View → Prop) (hinv : ∀ i m σ, I i m σ → inv σ) (items : List V) {Q : Fl → Loc → View → Prop} {X : XT}
  (step : ∀ i v m σ Q', items[i]? = some v → I i m σ → (∀ m' σ', I (i + 1) m' σ' → Q' .next m' σ') → ∃ m', bindT g v m = some m' ∧ T m' σ Q' X)
  (done : ∀ m σ, I items.length m σ → Q .next m σ) : ∀ (m : Loc) (σ : View), I 0 m σ → xforL g inv T items m σ Q X := by
 have key : ∀ (n : Nat) (i : Nat) (m : Loc) (σ : View), n = items.length - i → i ≤ items.length → I i m σ → xforL g inv T (items.drop i) m σ Q X := by
  intro n
  induction n with
  | zero =>
   intro i m σ hn hi h
   have : i = items.length := by exact Nat.le_antisymm (Nat.le_of_not_lt fun hg => lin [i, (items.length)] [(1, (.v 0), (.v 1)), (1, (.a (.v 1) (.n 1)), (.v 0))] rfl hi hg) (Nat.le_of_not_lt fun hg => lin [(items.length - i), i, (items.length)] [(1, (.v 0), (.n 0)), (1, (.v 2), (.a (.v 0) (.v 1))), (1, (.a (.v 1) (.n 1)), (.v 2))] rfl (Nat.le_of_eq (Eq.symm hn)) (sub_lo (items.length) (i)) hg)
   subst this
   rw [List.drop_length]
   exact ⟨hinv _ _ _ h, done m σ h⟩
  | succ n ih =>
   intro i m σ hn hi h
   have hlt : i < items.length := by exact Nat.lt_of_not_le fun hg => lin [n, (items.length - i), i, (items.length)] [(1, (.a (.v 0) (.n 1)), (.v 1)), (1, (.a (.v 1) (.v 2)), (.v 3)), (1, (.v 3), (.v 2))] rfl (Nat.le_of_eq hn) (sub_hi (Nat.le_of_not_lt fun hg => lin [i, (items.length)] [(1, (.v 0), (.v 1)), (1, (.a (.v 1) (.n 1)), (.v 0))] rfl hi hg)) hg
   rw [List.drop_eq_getElem_cons hlt]
   simp only [xforL]
   exact ⟨hinv _ _ _ h, step i _ m σ _ (List.getElem?_eq_getElem hlt) h fun m' σ' h' => ih (i + 1) m' σ' (by exact Nat.le_antisymm (Nat.le_of_not_lt fun hg => lin [n, (items.length - i), i, (items.length), (items.length - (i + 1))] [(1, (.a (.v 0) (.n 1)), (.v 1)), (1, (.a (.v 1) (.v 2)), (.v 3)), (1, (.v 3), (.a (.v 4) (.a (.v 2) (.n 1)))), (1, (.a (.v 4) (.n 1)), (.v 0))] rfl (Nat.le_of_eq hn) (sub_hi (Nat.le_of_not_lt fun hg => lin [i, (items.length)] [(1, (.a (.v 0) (.n 1)), (.v 1)), (1, (.a (.v 1) (.n 1)), (.v 0))] rfl hlt hg)) (sub_lo (items.length) (i + 1)) hg) (Nat.le_of_not_lt fun hg => lin [n, (items.length - i), i, (items.length), (items.length - (i + 1))] [(1, (.v 1), (.a (.v 0) (.n 1))), (1, (.v 3), (.a (.v 1) (.v 2))), (1, (.a (.v 4) (.a (.v 2) (.n 1))), (.v 3)), (1, (.a (.v 0) (.n 1)), (.v 4))] rfl (Nat.le_of_eq (Eq.symm hn)) (sub_lo (items.length) (i)) (sub_hi (Nat.le_of_not_lt fun hg => lin [i, (items.length)] [(1, (.a (.v 0) (.n 1)), (.v 1)), (1, (.a (.v 1) (.n 1)), (.a (.v 0) (.n 1)))] rfl hlt hg)) hg)) (by exact hlt) h'⟩
 intro m σ h
 have := key items.length 0 m σ (by exact rfl) (by exact Nat.zero_le _) h
 simpa using this
end Mine
end
noncomputable section
set_option maxRecDepth 100000
namespace Mine
open PySem PySem.W PyProof.Rows PySem.Calls
section
variable {C : Cx} {sc : Scope} {k : Nat} {p : Program} {cs ks : List String} {ad : String → Addr}
inductive HHs (C : Cx) (sc : Scope) (k : Nat) (ks : List String) (ad : String → Addr) (n c : String) : List ExceptHandler → (Addr → ST) → Prop
 | here {H : String} {np hpos : Pos} {b₀ : Stmt} {suite : List Stmt} {rest : List ExceptHandler} {U : Addr → ST} : H ∈ ks → subX c H = true → sc.names.lookup (Str.ofString H) = some .globalImplicit → (Str.ofString H == ("__debug__" : Str)) = false →
   (∀ (e : Addr) (o : Obj) (vs : Array Value), C.hB.get? e = Option.none → o.isFreed = false → o.cls = .ref (ad c) → o.data = .fields vs → vs[2]? = some .none → HS (C.hold e o) sc k (b₀ :: suite) (U e)) →
   HHs C sc k ks ad n c (.ExceptHandler (some (.Name (Str.ofString H) np)) (some (Str.ofString n)) (b₀ :: suite) hpos :: rest) U
 | there {H : String} {np hpos : Pos} {body : List Stmt} {rest : List ExceptHandler} {U : Addr → ST} : H ∈ ks → subX c H = false → sc.names.lookup (Str.ofString H) = some .globalImplicit → (Str.ofString H == ("__debug__" : Str)) = false →
   HHs C sc k ks ad n c rest U → HHs C sc k ks ad n c (.ExceptHandler (some (.Name (Str.ofString H) np)) (some (Str.ofString n)) body hpos :: rest) U
theorem HHs.run (G : Gl C p) (Tb : XTab C cs ks ad) {n c : String} (hc : c ∈ cs) (hvar : sc.names.lookup (Str.ofString n) = some .local) {hs : List ExceptHandler} {U : Addr → ST} (hh : HHs C sc k ks ad n c hs U)
  {env : Env} {A : Around} {σ σ₁ : View} {h₀ : Heap} {m₁ : Loc} {e : Addr} {s₃ : Shared} {Q : Fl → Loc → View → Prop} {P : Flow → Shared → Prop} {E : Value → Shared → Prop} (en : EnvOk env sc) (ao : AOk C A k) (hbase : ∀ b o, C.hB.get? b = some o → b < h₀.objs.size)
  (hnone : ∀ b, h₀.objs.size ≤ b → C.hB.get? b = Option.none)
  (W₃ : Way C A env c e σ h₀ m₁ σ₁ s₃ (fun x => x = some .none)) (x : ∀ e, σ₁ e = Option.none → U e (put m₁ n (.ref e)) σ₁ fun f m'' σ'' => Q f (cut m'' n) σ'')
  (hP : ∀ f g m' σ' (s' : Shared), FlRel C.aS s'.heap f g → RelG C σ' s' → FrameRel C env m' σ' s'.heap → Step (Own env) σ σ' h₀ s'.heap → Q f m' σ' → P g s') :
  wpAny (model C.prog C.w) A (handleBy (.ref e) env hs) P E s₃ := by
 obtain ⟨bm, hg, XCc, _, hsubs⟩ := Tb.sub c hc
 induction hh with
 | there hH hsub hn hdb _ ih =>
  obtain ⟨hgH, bmH, XH⟩ := Tb.at_ _ hH
  refine wpAny_handleBy_cons (codeAny_handlers_test ?_) (by intro z; cases z)
  obtain ⟨oe, vs, Cl, he, hmg, hcls, hd, h2, h2s, hT⟩ := W₃.fly.obj
  rw [hg] at hmg; cases hmg
  refine Calls.Name_function_global en.k (en.of hn) (Calls.loadGlobal_global (mg := C.mg) (by rw [en.globals]; exact G.ok.g.keeps W₃.rel.base) hgH ?_) hdb
  refine matches_exc (XCc.keeps W₃.rel.base) (XH.keeps W₃.rel.base) he hcls ?_
  rw [hsubs _ hH, hsub]
  exact ih x
 | here hH hsub hn hdb hs =>
  obtain ⟨hgH, bmH, XH⟩ := Tb.at_ _ hH
  refine wpAny_handleBy_cons (codeAny_handlers_test ?_) (by intro z; cases z)
  obtain ⟨oe, vs, Cl, he, hmg, hcls, hd, h2, h2s, hT⟩ := W₃.fly.obj
  rw [hg] at hmg; cases hmg
  refine Calls.Name_function_global en.k (en.of hn) (Calls.loadGlobal_global (mg := C.mg) (by rw [en.globals]; exact G.ok.g.keeps W₃.rel.base) hgH ?_) hdb
  refine matches_exc (XCc.keeps W₃.rel.base) (XH.keeps W₃.rel.base) he hcls ?_
  rw [hsubs _ hH, hsub]
  refine codeAny_handlers_suite_as ?_
  refine (W₃.mono fun x hx => by rw [hx]; simp).flight en.k hbase fun s₄ W₄ => ?_
  refine store_local en W₄.rel W₄.frame hvar (.ref e) fun s₅ R₅ F₅ S₅ => ?_
  obtain ⟨oe, vs, Cl, he, hmg, hcls, hd, h2, h2s, hT⟩ := W₄.fly.obj
  rw [hg] at hmg; cases hmg
  have hse := W₄.fly.sep
  have hez : C.hB.get? e = Option.none := hnone e W₄.fly.new
  have hof : oe.isFreed = false := Obj.isFreed_of_fields hd
  have hne : e ≠ env.locals := by
   rintro z
   obtain ⟨mm, ⟨oL, es, ep, hoL, hdL, _⟩, _⟩ := W₄.frame.ns
   rw [← z, he] at hoL; cases hoL; rw [hd] at hdL; cases hdL
  have he₅ : s₅.heap.get? e = some oe := S₅.keep e oe he hse hne (fun es ep z => by rw [hd] at z; cases z)
  have R₅' := R₅.hold hez hof he₅ hse
  have F₅' := F₅.hold hez hof he₅ hd
  have ao' : AOk (C.hold e oe) (A.mark (some (.ref e))) k := ⟨rfl, ao.depth, ao.units⟩
  refine (hs e oe vs hez hof hcls hd h2).run env _ s₅ _ σ₁ _ _ _ en ao' R₅' F₅' (x e hse) fun f g m₆ σ₆ s₆ hf R₆ F₆ S₆ q₆ => ?_
  refine unbind en (R₆.drop hez hof) (F₆.drop hez hof) hvar fun s₇ R₇ F₇ S₇ => ?_
  have SS : Step (Own env) σ σ₆ h₀ s₇.heap := ((W₄.step.trans (S₅.mono fun _ _ _ z => .inl z)).trans S₆).trans S₇
  refine hP f g (cut m₆ n) σ₆ s₇ ?_ R₇ F₇ SS q₆
  cases hf with
  | next => exact .next
  | brk => exact .brk
  | cont => exact .cont
  | ret hv => exact .ret (hv.keep (S₇.tupsO (F₆.drop hez hof) (R₆.drop hez hof)))
theorem HSX1.tryN (G : Gl C p) (hz : C.held = Option.none) (Tb : XTab C cs ks ad) {body : List Stmt} {n : String} {h₁ : ExceptHandler} {hs : List ExceptHandler} {pos : Pos} {T : STX} {U : Addr → String → ST} (hb : HSX C sc k body T) (hvar : sc.names.lookup (Str.ofString n) = some .local)
  (hh : ∀ c ∈ cs, HHs C sc k ks ad n c (h₁ :: hs) fun e => U e c) :
  HSX1 C sc k (.Try body (h₁ :: hs) [] [] pos) (xTry n cs T U) := by
 refine ⟨?_⟩; intro env A s m σ Q X P E en ao R F W q hP hX
 have hbase : ∀ b o, C.hB.get? b = some o → b < s.heap.objs.size := fun b o e => Heap.lt_size (R.base b o e)
 refine wpAny_Try_except (hb.run env A s m σ _ _ _ _ en ao R F W q (fun f g m₁ σ₁ s₁ hf R₁ F₁ S₁ q₁ => ?_) (fun c e m₁ σ₁ s₁ fl R₁ F₁ S₁ x => ?_))
 ·cases hf with
  | next => exact wpAny_execs_nil (hP _ _ m₁ σ₁ s₁ .next R₁ F₁ S₁ q₁)
  | brk => exact hP _ _ m₁ σ₁ s₁ .brk R₁ F₁ S₁ q₁
  | cont => exact hP _ _ m₁ σ₁ s₁ .cont R₁ F₁ S₁ q₁
  | ret hv => exact hP _ _ m₁ σ₁ s₁ (.ret hv) R₁ F₁ S₁ q₁
 ·obtain ⟨hc, x⟩ := x
  have WW : Way C A env c e σ s.heap m₁ σ₁ s₁ (okIn env) := ⟨fl, R₁, F₁, S₁, W.step S₁⟩
  refine WW.note en.k hbase rfl fun s₂ W₂ => ?_
  refine (W₂.mono fun x hx => by rw [hx]; simp).flight en.k hbase fun s₃ W₃ => ?_
  exact (hh c hc).run G Tb hc hvar en ao hbase (fun b hb => R.baseNone (get_none_of_size hb)) W₃ x hP
noncomputable def xElse (c H : String) (U R : ST) : ST := fun m σ Q => if subX c H = true then U m σ Q else R m σ Q
theorem HHs.pick {n c H : String} {np hpos : Pos} {b₀ : Stmt} {suite : List Stmt} {rest : List ExceptHandler} {U R : Addr → ST} (hH : H ∈ ks) (hn : sc.names.lookup (Str.ofString H) = some .globalImplicit) (hdb : (Str.ofString H == ("__debug__" : Str)) = false)
  (hs : ∀ (e : Addr) (o : Obj) (vs : Array Value), C.hB.get? e = Option.none → o.isFreed = false → o.cls = .ref (ad c) → o.data = .fields vs → vs[2]? = some .none → HS (C.hold e o) sc k (b₀ :: suite) (U e))
  (hr : subX c H = false → HHs C sc k ks ad n c rest R) :
  HHs C sc k ks ad n c (.ExceptHandler (some (.Name (Str.ofString H) np)) (some (Str.ofString n)) (b₀ :: suite) hpos :: rest) (fun e => xElse c H (U e) (R e)) := by
 cases h : subX c H with
 | true =>
  have : (fun e => xElse c H (U e) (R e)) = U := by funext e m σ Q; unfold xElse; rw [if_pos h]
  rw [this]; exact .here hH h hn hdb hs
 | false =>
  have : (fun e => xElse c H (U e) (R e)) = R := by funext e m σ Q; unfold xElse; rw [if_neg (by rw [h]; decide)]
  rw [this]; exact .there hH h hn hdb (hr h)
end
end Mine
end
noncomputable section
set_option maxRecDepth 100000
namespace Mine
open PySem PySem.W PyProof.Rows PySem.Calls
section
variable {C : Cx} {sc : Scope} {k : Nat}
theorem assignNamesC {env : Env} {A : Around} {E : Value → Shared → Prop} (en : EnvOk env sc) (l : List (String × Pos)) : ∀ (vs : List V) (ws : List Value) (s : Shared) (m : Loc) (σ : View) (P : Unit → Shared → Prop), l.length = vs.length → (∀ x ∈ l, sc.names.lookup (Str.ofString x.1) = some .local ∨ sc.names.lookup (Str.ofString x.1) = some .cell) →
  RelG C σ s → FrameRel C env m σ s.heap → VRels C.aS s.heap vs ws →
  (∀ s', RelG C σ s' → FrameRel C env (bindM (l.map (·.1)) vs m) σ s'.heap → Step (OwnL false env) σ σ s.heap s'.heap → P () s') →
  wpAny (model C.prog C.w) A (assignInOrder ((assignEach (namesAt l) env).map (·.2)) ws) P E s := by
 induction l with
 | nil =>
  intro vs ws s m σ P h1 h2 R F hv h
  cases vs with
  | nil => cases hv; exact wpAny_pure (h s R F Step.refl)
  | cons => simp at h1
 | cons x l ih =>
  intro vs ws s m σ P h1 h2 R F hv h
  cases vs with
  | nil => simp at h1
  | cons v vs =>
   cases hv with | @cons _ w _ ws hv hvs =>
   rw [each_cons, List.map_cons]
   have e : assignInOrder (assign (.Name (Str.ofString x.1) x.2) env :: (assignEach (namesAt l) env).map (·.2)) (w :: ws) = (do holding ws (assign (.Name (Str.ofString x.1) x.2) env w); assignInOrder ((assignEach (namesAt l) env).map (·.2)) ws) := by rw [assignInOrder]
   show wpAny _ A (assignInOrder (assign (.Name (Str.ofString x.1) x.2) env :: (assignEach (namesAt l) env).map (·.2)) (w :: ws)) P E s
   rw [e]
   have st : ∀ (P : Unit → Shared → Prop), (∀ s', RelG C σ s' → FrameRel C env (put m x.1 v) σ s'.heap → Step (OwnL false env) σ σ s.heap s'.heap → P () s') → wpAny (model C.prog C.w) A (assign (.Name (Str.ofString x.1) x.2) env w) P E s := fun P h => by
    rcases h2 x (.head _) with hx | hx
    ·exact wpAny_assign_Name (store_local en R F hx hv fun s' R' F' S' => h s' R' F' (S'.mono fun _ _ _ z => .inl z))
    ·exact wpAny_assign_Name (store_cell en R F hx hv fun s' R' F' S' => h s' R' F' (S'.mono fun _ _ _ z => z.imp id fun z => ⟨rfl, z⟩))
   refine wpAny_bind (wpAny_holding (st _ fun s₁ R₁ F₁ S₁ => ?_))
   have kt : TupKeep s.heap s₁.heap := S₁.tups R fun b o z e => F.ownT _ o (z.imp id fun z => z.2) e
   exact ih vs ws s₁ (put m x.1 v) σ P (by simpa using h1) (fun y hy => h2 y (.tail _ hy)) R₁ F₁ (hvs.keep kt) fun s₂ R₂ F₂ S₂ => h s₂ R₂ F₂ (S₁.trans S₂)
theorem HT.tupC (O : C.Ok) {l : List (String × Pos)} {n : Nat} {pos : Pos} (hx : ∀ x ∈ l, sc.names.lookup (Str.ofString x.1) = some .local ∨ sc.names.lookup (Str.ofString x.1) = some .cell) : HT C sc k false (.Tuple (namesAt l) n pos) (.tup (l.map (·.1))) := by
 refine ⟨?_⟩; intro env A s m m' σ v w P E en ao R F hv hb hP
 cases v <;> simp only [bindT] at hb <;> first | cases hb | skip
 split at hb
 ·rename_i vs hlen
  cases hb
  cases hv with | @tup _ t ws ht hvs =>
  have hlen' : l.length = vs.length := by simpa using hlen
  refine with_size (assignH (ao.hd O R) ht (by rw [(each_len env _).1, List.size_toArray, ← hvs.length, hlen']) (each_len env _).2 fun h' hx' => ?_)
  have keep : ∀ b o, s.heap.get? b = some o → h'.get? b = some o := fun b o e => hx' b o (Nat.ne_of_lt (Heap.lt_size e)) e
  have e : ws.toArray.toList = ws := by simp
  rw [e]
  refine assignNamesC en l vs ws _ m σ _ hlen' hx (R.grow (tk := s.toks) keep) (F.grow keep) (hvs.keep fun b o e _ => keep b o e) fun s₂ R₂ F₂ S₂ hsz => ?_
  exact hP s₂ R₂ F₂ ⟨fun b o e n q => S₂.keepL b o (keep b o e) n fun z => q z, hsz, fun _ a b => absurd a b⟩
 ·cases hb
end
end Mine
end
noncomputable section
set_option maxRecDepth 100000
set_option maxHeartbeats 0
namespace Mine
namespace Hd
noncomputable section
open PySem PySem.W PyProof.Rows PySem.Calls
theorem topGo_q : topGo = PySem.W.Fast.tw15667345088766844465 := PySem.W.Fast.te15667345088766844465
theorem segRun_q : segRun = PySem.W.Fast.tw14374325043358763698 := PySem.W.Fast.te14374325043358763698
theorem segRunT_q : segRunT = PySem.W.Fast.tw10110043849684766642 := PySem.W.Fast.te10110043849684766642
theorem topRun_q : topRun = PySem.W.Fast.tw14082659384304107361 := PySem.W.Fast.te14082659384304107361
theorem table_q : treeTable = PySem.W.Fast.tw14364793385576792824 := PySem.W.Fast.te14364793385576792824
theorem denote_q : denote = PySem.W.Fast.tw11892475500146522536 := PySem.W.Fast.te11892475500146522536
noncomputable def fA (l : List Stmt) (n : Nat) : Arguments := match l[n]? with | some (.FunctionDef _ a _ _ _ _ _ _ _ _) => a | _ => default
noncomputable def fB (l : List Stmt) (n : Nat) : List Stmt := match l[n]? with | some (.FunctionDef _ _ b _ _ _ _ _ _ _) => b | _ => []
noncomputable def fS (l : List Stmt) (n : Nat) : Scope := match l[n]? with | some (.FunctionDef _ _ _ _ _ _ s _ _ _) => s | _ => default
noncomputable def cB (l : List Stmt) (n : Nat) : List Stmt := match l[n]? with | some (.ClassDef _ _ _ b ..) => b | _ => []
noncomputable def cS (l : List Stmt) (n : Nat) : Scope := match l[n]? with | some (.ClassDef _ _ _ _ _ _ s ..) => s | _ => default
abbrev n : Value := .none
abbrev r (k : Nat) : Value := .ref k
abbrev s (x : Str) (k : Nat) : Value := .str x k
abbrev i (k m : Nat) : Value := .int (Int.ofNat k) m
abbrev z (k : Nat) : Value := .int (Int.ofNat k) 0
abbrev t (x : String) : Value := .type x
abbrev u (x : String) : Value := .builtin x
abbrev ps (a b c d : Nat) : Pos := Pos.mk a b c d
noncomputable def e (P : Params) (x : String) (k : Nat) (v : Value) : DictEntry := .mk (PyData.keyHash P x) (.str (Str.ofString x) k) v
noncomputable def O (x : String) (l : List Value) : Obj := .mk (.type x) none (.fields l.toArray) #[]
noncomputable def T (l : List Value) : Obj := .mk (.type "tuple") none (.seq l.toArray 0) #[]
noncomputable def E (l : List Value) : Obj := .mk .none none (.fields l.toArray) #[]
noncomputable def D (l : List DictEntry) (k : Nat) : Obj := .mk (.type "dict") none (.dict l.toArray k) #[]
noncomputable def K (x y : Str) (k l a f b : Nat) (g : Bool) (v0 v1 v2 v3 : Value) (m : Nat) : Obj := O "code" [s x k, s y (k + 1), s "/claim/cut.py" (k + 2), z l, z a, z 0, z 0, z f, r b, .bool g, z 181, r (b + 1), v0, v1, v2, v3, z m, z l, s "/claim/cut.py" (m + 1)]
noncomputable def G (x y : Str) (l : List Stmt) (k : Nat) : Obj := .mk .none none (.func (.mk x y (fA l k) (.stmts (fB l k)) (fS l k) 0 [] n n n n none n n 0)) #[]
noncomputable def F (x y : Str) (l : List Stmt) (k g : Nat) (v c : Value) : Obj := .mk (.type "function") none (.func (.mk x y (fA l k) (.stmts (fB l k)) (fS l k) g [] n n n v none c n 0)) #[]
noncomputable def M (a b c : Nat) (v : Value) : Obj := .mk (.type "frame") none .plain #[some (r a), some (r b), some (r c), none, some v, none, some (r 0)]
noncomputable def lfe : Life := (@Life.mk [] [] [] 0 [] [] false (@List.toArray @Nat []) [] 0 false false false (0 : Int) [(2000 : Int), (10 : Int), (10 : Int)] false 0 true [] [] 0 false)
noncomputable def dw : Drawn := Drawn.mk 0 0 0 0
noncomputable def ev (l : List Obj) : List Obj × List Obj := List.rec ([], []) (fun x _ ih => (x :: ih.2, ih.1)) l
noncomputable def bt (f : Nat) : List Obj → PySem.W.BT := Nat.rec (fun _ => .nil) (fun _ ih l => List.rec .nil (fun x t _ => .node x (ih (ev t).1) (ih (ev t).2)) l) f
abbrev pw : Program := PySem.Challenge.pw_uf050007_05
abbrev TB : List Stmt := pw.main.body
noncomputable def vw : Program := view pw [1, 2, 3, 4, 6, 7, 8, 9, 10, 11, 13, 14, 15, 17, 18, 19, 20, 21, 22, 23, 24, 25, 26, 27, 28, 29]
noncomputable def env : Env := { scope := pw.main.scope, locals := mainNs, globals := mainNs, cells := [], code := (.ref 13), frame := some 14 }
noncomputable def ann : Option Value := (some (.ref 6))
abbrev cE : Code := .body (behindTheImports pw) env
noncomputable def qq : Pos := (ps 0 0 0 0)
abbrev BB : List Frame := [topFrame qq]
abbrev s0 (w : World) (os : OsState) : Shared := Shared.mk (boot_heap w.params) (@Array.mk GenState []) boot_drawn boot_toks os
noncomputable def eo3 (P : Params) : List DictEntry := [(e P "__name__" 165 (s "law_uf050007_05" 317)), (e P "__doc__" 166 n), (e P "__package__" 167 n), (e P "__loader__" 168 (u "__main__.__loader__#opaque")), (e P "__spec__" 169 n), (e P "__annotations__" 170 (r 6)), (e P "__builtins__" 171 (r 4)), (e P "__file__" 173 (s "/claim/cut.py" 172)), (e P "__cached__" 174 n), (e P "RoadError" 206 (r 24)), (e P "NoPath" 222 (r 37)), (e P "NoFile" 238 (r 49)), (e P "InTheWay" 254 (r 61)), (e P "SIGNS" 258 (s "abcdefghijklmnopqrstuvwxyzABCDEFGHIJKLMNOPQRSTUVWXYZ0123456789.-_" 257)), (e P "MOST_PARTS" 260 (i 8 259)), (e P "LONGEST_PART" 262 (i 12 261)), (e P "is_part" 270 (r 70)), (e P "is_path" 279 (r 77)), (e P "is_beneath" 287 (r 84)), (e P "done" 300 (r 91)), (e P "changed" 310 (r 98)), (e P "between" 316 (r 103)), (e P "_law_cell_at" 326 (r 110)), (e P "_law_sign_by" 333 (r 117)), (e P "_law_name_by" 339 (r 122)), (e P "_law_path_by" 345 (r 127)), (e P "_law_line_by" 351 (r 132)), (e P "_law_is_free" 360 (r 139)), (e P "_law_grown" 371 (r 146)), (e P "_law_word_of" 381 (r 153)), (e P "_law_is_deed" 387 (r 158)), (e P "_law_told" 396 (r 165)), (e P "_law_trees" 408 (r 172)), (e P "_law_odd_deed" 419 (r 179)), (e P "law" 425 (r 184))]
noncomputable def o3_0 (P : Params) : Obj := D ((e P "__name__" 165 (s "threeroad.errors" 187)) :: ((eo3 P).drop 1).take 10) 11
noncomputable def o3_1 (P : Params) : Obj := D ((e P "__name__" 165 (s "threeroad.paths" 255)) :: ((eo3 P).drop 1).take 13) 14
noncomputable def o3_2 (P : Params) : Obj := D ((eo3 P).take 29) 29
noncomputable def o3_3 (P : Params) : Obj := D (eo3 P) 35
noncomputable def eo12 : List Value := [(z 2), (z 0), (r 20), (z 4), (z 0), (r 33), (z 6), (z 0), (r 45), (z 8), (z 0), (r 57), (z 14), (z 0), (r 69), (z 21), (z 0), (r 76), (z 29), (z 0), (r 83), (z 32), (z 0), (r 90), (z 47), (z 0), (r 97), (z 52), (z 0), (r 102), (z 59), (z 0), (r 109), (z 63), (z 0), (r 116), (z 65), (z 0), (r 121), (z 79), (z 0), (r 126), (z 88), (z 0), (r 131), (z 97), (z 0), (r 138), (z 102), (z 0), (r 145), (z 110), (z 0), (r 152), (z 124), (z 0), (r 157), (z 128), (z 0), (r 164), (z 137), (z 0), (r 171), (z 151), (z 0), (r 178), (z 156), (z 0), (r 183)]
noncomputable def o12_0 (P : Params) : Obj := E (eo12.take 0)
noncomputable def o12_1 (P : Params) : Obj := E (eo12.take 6)
noncomputable def o12_2 (P : Params) : Obj := E (eo12.take 12)
noncomputable def o12_3 (P : Params) : Obj := E (eo12.take 51)
noncomputable def o12_4 (P : Params) : Obj := E (eo12.take 69)
noncomputable def o24_0 (P : Params) : Obj := (.mk (t "type") none (.cls (.mk "RoadError" [(t "ValueError")] [(r 24), (t "ValueError"), (t "Exception"), (t "BaseException"), (t "object")] 23 "RoadError" true [] [(r 37)] false none false)) (List.toArray [(some (r 15)), none, (some (s "RoadError" 189)), (some (s "RoadError" 197)), (some (u "ValueError.__new__")), (some (.bool true))]))
noncomputable def o24_1 (P : Params) : Obj := (.mk (t "type") none (.cls (.mk "RoadError" [(t "ValueError")] [(r 24), (t "ValueError"), (t "Exception"), (t "BaseException"), (t "object")] 23 "RoadError" true [] [(r 37), (r 49), (r 61)] false none false)) (List.toArray [(some (r 15)), none, (some (s "RoadError" 189)), (some (s "RoadError" 197)), (some (u "ValueError.__new__")), (some (.bool true))]))
noncomputable def lz (P : Params) : List Obj := [boot_o_0 P, boot_o_1 P, boot_o_2 P, o3_3 P, boot_o_4 P, boot_o_5 P, boot_o_6 P, boot_o_7 P, boot_o_8 P, boot_o_9 P, boot_o_10 P, T [], o12_4 P, K "<module>" "<module>" 182 1 0 0 11 false n n n n 185, M 13 3 3 (s "__main__" 164), T [(t "ValueError")], O "builtin_function_or_method" [(u "type.__prepare__"), (t "type")], D [(e P "__module__" 196 (s "threeroad.errors" 187)), (e P "__qualname__" 198 (s "RoadError" 197)), (e P "__firstlineno__" 200 (i 2 199)), (e P "__static_attributes__" 201 (r 22))] 4, T [], E [], K "RoadError" "RoadError" 191 2 0 0 18 false n n n n 194, M 20 3 17 (s "threeroad.errors" 187), T [], D [(e P "__module__" 196 (s "threeroad.errors" 187)), (e P "__firstlineno__" 200 (i 2 199)), (e P "__static_attributes__" 201 (r 22)), (e P "__weakref__" 203 (r 25)), (e P "__doc__" 204 n)] 3, o24_1 P, O "getset_descriptor" [(s "__weakref__" 202), (r 24), (u "ExceptionGroup.__weakref__"), n], O "super" [(r 24), (r 24), (r 24)], O "builtin_function_or_method" [(u "object.__init_subclass__"), (r 24)], T [(r 24)], O "builtin_function_or_method" [(u "type.__prepare__"), (t "type")], D [(e P "__module__" 214 (s "threeroad.errors" 187)), (e P "__qualname__" 216 (s "NoPath" 215)), (e P "__firstlineno__" 218 (i 4 217)), (e P "__static_attributes__" 219 (r 35))] 4, T [], E [], K "NoPath" "NoPath" 209 4 0 0 31 false n n n n 212, M 33 3 30 (s "threeroad.errors" 187), T [], D [(e P "__module__" 214 (s "threeroad.errors" 187)), (e P "__firstlineno__" 218 (i 4 217)), (e P "__static_attributes__" 219 (r 35)), (e P "__doc__" 220 n)] 2, (.mk (t "type") none (.cls (.mk "NoPath" [(r 24)] [(r 37), (r 24), (t "ValueError"), (t "Exception"), (t "BaseException"), (t "object")] 36 "NoPath" true [] [] false none false)) (List.toArray [(some (r 28)), none, (some (s "NoPath" 207)), (some (s "NoPath" 215)), (some (u "ValueError.__new__")), (some (.bool true))])), O "super" [(r 37), (r 37), (r 37)], O "builtin_function_or_method" [(u "object.__init_subclass__"), (r 37)], T [(r 24)], O "builtin_function_or_method" [(u "type.__prepare__"), (t "type")], D [(e P "__module__" 230 (s "threeroad.errors" 187)), (e P "__qualname__" 232 (s "NoFile" 231)), (e P "__firstlineno__" 234 (i 6 233)), (e P "__static_attributes__" 235 (r 47))] 4, T [], E [], K "NoFile" "NoFile" 225 6 0 0 43 false n n n n 228, M 45 3 42 (s "threeroad.errors" 187), T [], D [(e P "__module__" 230 (s "threeroad.errors" 187)), (e P "__firstlineno__" 234 (i 6 233)), (e P "__static_attributes__" 235 (r 47)), (e P "__doc__" 236 n)] 2, (.mk (t "type") none (.cls (.mk "NoFile" [(r 24)] [(r 49), (r 24), (t "ValueError"), (t "Exception"), (t "BaseException"), (t "object")] 48 "NoFile" true [] [] false none false)) (List.toArray [(some (r 40)), none, (some (s "NoFile" 223)), (some (s "NoFile" 231)), (some (u "ValueError.__new__")), (some (.bool true))])), O "super" [(r 49), (r 49), (r 49)], O "builtin_function_or_method" [(u "object.__init_subclass__"), (r 49)], T [(r 24)], O "builtin_function_or_method" [(u "type.__prepare__"), (t "type")], D [(e P "__module__" 246 (s "threeroad.errors" 187)), (e P "__qualname__" 248 (s "InTheWay" 247)), (e P "__firstlineno__" 250 (i 8 249)), (e P "__static_attributes__" 251 (r 59))] 4, T [], E [], K "InTheWay" "InTheWay" 241 8 0 0 55 false n n n n 244, M 57 3 54 (s "threeroad.errors" 187), T [], D [(e P "__module__" 246 (s "threeroad.errors" 187)), (e P "__firstlineno__" 250 (i 8 249)), (e P "__static_attributes__" 251 (r 59)), (e P "__doc__" 252 n)] 2, (.mk (t "type") none (.cls (.mk "InTheWay" [(r 24)] [(r 61), (r 24), (t "ValueError"), (t "Exception"), (t "BaseException"), (t "object")] 60 "InTheWay" true [] [] false none false)) (List.toArray [(some (r 52)), none, (some (s "InTheWay" 239)), (some (s "InTheWay" 247)), (some (u "ValueError.__new__")), (some (.bool true))])), O "super" [(r 61), (r 61), (r 61)], O "builtin_function_or_method" [(u "object.__init_subclass__"), (r 61)], T [], E [], T [(s "text" 266), (s "sign" 267)], T [], G "is_part" "is_part" TB 9, K "is_part" "is_part" 263 14 1 3 64 true n (r 66) (r 67) (r 68) 268, F "is_part" "is_part" TB 9 3 (s "threeroad.paths" 255) (r 69), T [], E [], T [(s "text" 274), (s "parts" 275), (s "part" 276)], T [], G "is_path" "is_path" TB 10, K "is_path" "is_path" 271 21 1 3 71 true n (r 73) (r 74) (r 75) 277, F "is_path" "is_path" TB 10 3 (s "threeroad.paths" 255) (r 76), T [], E [], T [(s "path" 283), (s "upper" 284)], T [], G "is_beneath" "is_beneath" TB 11, K "is_beneath" "is_beneath" 280 29 2 3 78 true n (r 80) (r 81) (r 82) 285, F "is_beneath" "is_beneath" TB 11 3 (s "threeroad.paths" 255) (r 83), T [], E [], T [(s "tree" 293), (s "deed" 294), (s "path" 295), (s "fresh" 296), (s "other" 297)], T [], G "done" "done" TB 13, K "done" "done" 290 32 2 3 85 true n (r 87) (r 88) (r 89) 298, F "done" "done" TB 13 3 (s "threeroad.trees" 288) (r 90), T [], E [], T [(s "tree" 304), (s "deeds" 305), (s "fresh" 306), (s "deed" 307)], T [], G "changed" "changed" TB 14, K "changed" "changed" 301 47 2 3 92 true n (r 94) (r 95) (r 96) 308, F "changed" "changed" TB 14 3 (s "threeroad.trees" 288) (r 97), T [], E [], G "between" "between" TB 15, K "between" "between" 311 52 2 3 99 true n n n (r 101) 314, F "between" "between" TB 15 3 (s "threeroad.trees" 288) (r 102), T [], E [], T [(s "_law_script" 322), (s "_law_k" 323)], T [], G "_law_cell_at" "_law_cell_at" TB 17, K "_law_cell_at" "_law_cell_at" 319 59 2 3 104 true n (r 106) (r 107) (r 108) 324, F "_law_cell_at" "_law_cell_at" TB 17 3 (s "law_uf050007_05" 317) (r 109), T [], E [], T [(s "_law_k" 330)], T [], G "_law_sign_by" "_law_sign_by" TB 18, K "_law_sign_by" "_law_sign_by" 327 63 1 3 111 true n (r 113) (r 114) (r 115) 331, F "_law_sign_by" "_law_sign_by" TB 18 3 (s "law_uf050007_05" 317) (r 116), T [], E [], G "_law_name_by" "_law_name_by" TB 19, K "_law_name_by" "_law_name_by" 334 65 2 3 118 true n n n (r 120) 337, F "_law_name_by" "_law_name_by" TB 19 3 (s "law_uf050007_05" 317) (r 121), T [], E [], G "_law_path_by" "_law_path_by" TB 20, K "_law_path_by" "_law_path_by" 340 79 2 3 123 true n n n (r 125) 343, F "_law_path_by" "_law_path_by" TB 20 3 (s "law_uf050007_05" 317) (r 126), T [], E [], G "_law_line_by" "_law_line_by" TB 21, K "_law_line_by" "_law_line_by" 346 88 2 3 128 true n n n (r 130) 349, F "_law_line_by" "_law_line_by" TB 21 3 (s "law_uf050007_05" 317) (r 131), T [], E [], T [(s "_law_tree" 355), (s "_law_path" 356), (s "_law_other" 357)], T [], G "_law_is_free" "_law_is_free" TB 22, K "_law_is_free" "_law_is_free" 352 97 2 3 133 true n (r 135) (r 136) (r 137) 358, F "_law_is_free" "_law_is_free" TB 22 3 (s "law_uf050007_05" 317) (r 138), T [], E [], T [(s "_law_tree" 364), (s "_law_cell" 365), (s "_law_shift" 366), (s "_law_made" 367), (s "_law_path" 368)], T [], G "_law_grown" "_law_grown" TB 23, K "_law_grown" "_law_grown" 361 102 3 3 140 true n (r 142) (r 143) (r 144) 369, F "_law_grown" "_law_grown" TB 23 3 (s "law_uf050007_05" 317) (r 145), T [], E [], T [(s "_law_tree" 375), (s "_law_deeds" 376), (s "_law_made" 377), (s "_law_deed" 378)], T [], G "_law_word_of" "_law_word_of" TB 24, K "_law_word_of" "_law_word_of" 372 110 2 3 147 true n (r 149) (r 150) (r 151) 379, F "_law_word_of" "_law_word_of" TB 24 3 (s "law_uf050007_05" 317) (r 152), T [], E [], G "_law_is_deed" "_law_is_deed" TB 25, K "_law_is_deed" "_law_is_deed" 382 124 1 3 154 true n n n (r 156) 385, F "_law_is_deed" "_law_is_deed" TB 25 3 (s "law_uf050007_05" 317) (r 157), T [], E [], T [(s "_law_tree" 391), (s "_law_deeds" 392), (s "e" 393)], T [], G "_law_told" "_law_told" TB 26, K "_law_told" "_law_told" 388 128 2 3 159 true n (r 161) (r 162) (r 163) 394, F "_law_told" "_law_told" TB 26 3 (s "law_uf050007_05" 317) (r 164), T [], E [], T [(s "_law_script" 400), (s "_law_shift" 401), (s "_law_old" 402), (s "_law_k" 403), (s "_law_j" 404), (s "_law_new" 405)], T [], G "_law_trees" "_law_trees" TB 27, K "_law_trees" "_law_trees" 397 137 1 3 166 true n (r 168) (r 169) (r 170) 406, F "_law_trees" "_law_trees" TB 27 3 (s "law_uf050007_05" 317) (r 171), T [], E [], T [(s "_law_cell" 412), (s "_law_new" 413), (s "_law_paths" 414), (s "_law_near" 415), (s "_law_some" 416)], T [], G "_law_odd_deed" "_law_odd_deed" TB 28, K "_law_odd_deed" "_law_odd_deed" 409 151 2 3 173 true n (r 175) (r 176) (r 177) 417, F "_law_odd_deed" "_law_odd_deed" TB 28 3 (s "law_uf050007_05" 317) (r 178), T [], E [], G "law" "law" TB 29, K "law" "law" 420 156 1 3 180 true n n n (r 182) 423, F "law" "law" TB 29 3 (s "law_uf050007_05" 317) (r 183)]
noncomputable def hp_a (P : Params) : Heap := Heap.mk ⟨(((lz P).take 15).set 3 (boot_o_3 P)).set 12 (o12_0 P)⟩ lfe
abbrev sl_a (w : World) (os : OsState) : Shared := Shared.mk (hp_a w.params) #[] dw 187 os
noncomputable def tr_b (P : Params) : PySem.W.BT := bt 8 ((((lz P).take 15).set 3 (boot_o_3 P)).set 12 (o12_0 P))
abbrev st_b (w : World) (os : OsState) : SharedT := SharedT.mk (tr_b w.params) 15 lfe #[] dw 187 os
theorem q_pre : ∀ w : World, (fun os => topGo treeTable pw w 11 ann 12 (s0 w os) (topStub pw)) = fun os => some (sl_a w os, Thread.mk (denote treeTable cE) cE (ps 0 0 0 0) BB) := fun w => by rw [topGo_q, table_q, denote_q]; kernel_rfl
theorem q_block : ∀ w : World, (fun os => segRun treeTable pw w 11 ann 1 1 (sl_a w os) (blockOf (behindTheImports pw) env cE (ps 0 0 0 0) BB)) = fun os => some (Flow.next, (st_b w os).abs, cE, (ps 0 0 0 0)) := fun w => by rw [segRun_q, table_q]; kernel_rfl
noncomputable def tr_3 (P : Params) : PySem.W.BT := bt 8 (((((lz P).take 40).set 3 (o3_0 P)).set 12 (o12_1 P)).set 24 (o24_0 P))
abbrev st_3 (w : World) (os : OsState) : SharedT := SharedT.mk (tr_3 w.params) 40 lfe #[] dw 223 os
noncomputable def ss_3 : List Stmt := ((behindTheImports pw).drop 0).take 3
theorem q_3 : ∀ w : World, (fun os => segRunT treeTable pw w 11 ann 1 409 (st_b w os) (piecesOf ss_3 env cE (ps 0 0 0 0) BB)) = fun os => some (Flow.next, st_3 w os, cE, (ps 4 0 5 8)) := fun w => by rw [segRunT_q, table_q]; kernel_rfl
noncomputable def tr_7 (P : Params) : PySem.W.BT := bt 8 ((((lz P).take 64).set 3 (o3_1 P)).set 12 (o12_2 P))
abbrev st_7 (w : World) (os : OsState) : SharedT := SharedT.mk (tr_7 w.params) 64 lfe #[] dw 259 os
noncomputable def ss_7 : List Stmt := ((behindTheImports pw).drop 3).take 4
theorem q_7 : ∀ w : World, (fun os => segRunT treeTable pw w 11 ann 1 445 (st_3 w os) (piecesOf ss_7 env cE (ps 4 0 5 8) BB)) = fun os => some (Flow.next, st_7 w os, cE, (ps 11 0 11 5)) := fun w => by rw [segRunT_q, table_q]; kernel_rfl
noncomputable def tr_24 (P : Params) : PySem.W.BT := bt 8 ((((lz P).take 147).set 3 (o3_2 P)).set 12 (o12_3 P))
abbrev st_24 (w : World) (os : OsState) : SharedT := SharedT.mk (tr_24 w.params) 147 lfe #[] dw 372 os
noncomputable def ss_24 : List Stmt := ((behindTheImports pw).drop 7).take 17
theorem q_24 : ∀ w : World, (fun os => segRunT treeTable pw w 11 ann 1 420 (st_7 w os) (piecesOf ss_24 env cE (ps 11 0 11 5) BB)) = fun os => some (Flow.next, st_24 w os, cE, (ps 102 0 109 20)) := fun w => by rw [segRunT_q, table_q]; kernel_rfl
noncomputable def tr_30 (P : Params) : PySem.W.BT := bt 8 (lz P)
abbrev st_30 (w : World) (os : OsState) : SharedT := SharedT.mk (tr_30 w.params) 185 lfe #[] dw 426 os
noncomputable def ss_30 : List Stmt := ((behindTheImports pw).drop 24).take 6
theorem q_30 : ∀ w : World, (fun os => segRunT treeTable pw w 11 ann 1 183 (st_24 w os) (piecesOf ss_30 env cE (ps 102 0 109 20) BB)) = fun os => some (Flow.next, st_30 w os, cE, (ps 156 0 179 124)) := fun w => by rw [segRunT_q, table_q]; kernel_rfl
noncomputable def hp_f (P : Params) : Heap := Heap.mk ⟨lz P⟩ lfe
abbrev sl_f (w : World) (os : OsState) : Shared := Shared.mk (hp_f w.params) #[] dw 426 os
theorem q_fin : ∀ w : World, (fun os => topRun treeTable pw w 11 ann 2 (st_30 w os).abs (Thread.mk (doneF .next) cE (ps 156 0 179 124) BB)) = fun os => some (sl_f w os) := fun w => by rw [topRun_q, table_q]; kernel_rfl
theorem body_eq : behindTheImports pw = (ss_3 ++ (ss_7 ++ (ss_24 ++ (ss_30 ++ ([] : List Stmt))))) := by kernel_rfl
theorem q_rest (w : World) (os : OsState) : topRun treeTable pw w 11 ann (Nat.add 409 (Nat.add 445 (Nat.add 420 (Nat.add 183 2)))) (st_b w os).abs (restOf (ss_3 ++ (ss_7 ++ (ss_24 ++ (ss_30 ++ ([] : List Stmt))))) env cE (ps 0 0 0 0) BB) = some (sl_f w os) :=
 (piece_app (tb := treeTable) (p := pw) (w := w) (n₀ := 11) (ann := ann) (env := env) (q := qq) (n := 409) (N := (Nat.add 445 (Nat.add 420 (Nat.add 183 2)))) (s := (st_b w os).abs) (s' := (st_3 w os).abs) (r := sl_f w os) (l := ss_3) (rest := (ss_7 ++ (ss_24 ++ (ss_30 ++ ([] : List Stmt))))) (c := cE) (pos := (ps 0 0 0 0)) (p' := (ps 4 0 5 8)) (segRun_of (congrFun (q_3 w) os))
  (piece_app (tb := treeTable) (p := pw) (w := w) (n₀ := 11) (ann := ann) (env := env) (q := qq) (n := 445) (N := (Nat.add 420 (Nat.add 183 2))) (s := (st_3 w os).abs) (s' := (st_7 w os).abs) (r := sl_f w os) (l := ss_7) (rest := (ss_24 ++ (ss_30 ++ ([] : List Stmt)))) (c := cE) (pos := (ps 4 0 5 8)) (p' := (ps 11 0 11 5)) (segRun_of (congrFun (q_7 w) os))
  (piece_app (tb := treeTable) (p := pw) (w := w) (n₀ := 11) (ann := ann) (env := env) (q := qq) (n := 420) (N := (Nat.add 183 2)) (s := (st_7 w os).abs) (s' := (st_24 w os).abs) (r := sl_f w os) (l := ss_24) (rest := (ss_30 ++ ([] : List Stmt))) (c := cE) (pos := (ps 11 0 11 5)) (p' := (ps 102 0 109 20)) (segRun_of (congrFun (q_24 w) os))
  (piece_app (tb := treeTable) (p := pw) (w := w) (n₀ := 11) (ann := ann) (env := env) (q := qq) (n := 183) (N := 2) (s := (st_24 w os).abs) (s' := (st_30 w os).abs) (r := sl_f w os) (l := ss_30) (rest := ([] : List Stmt)) (c := cE) (pos := (ps 102 0 109 20)) (p' := (ps 156 0 179 124)) (segRun_of (congrFun (q_30 w) os))
  (congrFun (q_fin w) os)))))
theorem q_run (w : World) (os : OsState) : topRun treeTable pw w 11 ann (Nat.add 12 (Nat.add 1 (Nat.add 409 (Nat.add 445 (Nat.add 420 (Nat.add 183 2)))))) (s0 w os) (topStub pw) = some (sl_f w os) :=
 go_top (congrFun (q_pre w) os) (piece_block (congrFun (q_block w) os) (by rw [show restOf (behindTheImports pw) env cE (ps 0 0 0 0) BB = restOf (ss_3 ++ (ss_7 ++ (ss_24 ++ (ss_30 ++ ([] : List Stmt))))) env cE (ps 0 0 0 0) BB from congrArg (fun b => restOf b env cE (ps 0 0 0 0) BB) body_eq]; exact q_rest w os))
theorem q_le : Nat.ble (Nat.add 12 (Nat.add 1 (Nat.add 409 (Nat.add 445 (Nat.add 420 (Nat.add 183 2)))))) 3032 = true := by kernel_rfl
theorem q_open : ∀ w : World, (fencedOpening treeTable pw w 3032).map (fun s => (s.heap, s.gens, s.drawn, s.toks)) = some (boot_heap w.params, (@Array.mk GenState []), boot_drawn, boot_toks) := boot_open (by kernel_rfl) (by kernel_rfl) (fun _ => by kernel_rfl)
theorem q_size : ∀ w : World, ((boot_heap w.params).isNs mainGlobals && ((@Array.mk GenState [])).size == 0, (boot_heap w.params).objs.size, (boot_heap w.params).nsMap mainGlobals "__annotations__") = (true, 11, ann) := fun w => by kernel_rfl
noncomputable def ks : List Addr := [0, 1, 2, 3, 4, 5, 6, 7, 9, 10, 11, 13, 14, 15, 16, 17, 18, 20, 21, 22, 23, 24, 25, 26, 27, 28, 29, 30, 31, 33, 34, 35, 36, 37, 38, 39, 40, 41, 42, 43, 45, 46, 47, 48, 49, 50, 51, 52, 53, 54, 55, 57, 58, 59, 60, 61, 62, 63, 64, 66, 67, 69, 70, 71, 73, 74, 76, 77, 78, 80, 81, 83, 84, 85, 87, 88, 90, 91, 92, 94, 95, 97, 98, 99, 102, 103, 104, 106, 107, 109, 110, 111, 113, 114, 116, 117, 118, 121, 122, 123, 126, 127, 128, 131, 132, 133, 135, 136, 138, 139, 140, 142, 143, 145, 146, 147, 149, 150, 152, 153, 154, 157, 158, 159, 161, 162, 164, 165, 166, 168, 169, 171, 172, 173, 175, 176, 178, 179, 180, 183, 184]
noncomputable def kk (P : Params) : Frag := ks.map fun a => (a, (lz P).getD a default)
abbrev NN : Nat := 3032
theorem openSeen_q : @openSeen = @PySem.W.Fast.tw4187177175401517315 := PySem.W.Fast.te4187177175401517315
theorem imods_q : importedModules = PySem.W.Fast.tw5923862056798008813 := PySem.W.Fast.te5923862056798008813
abbrev rw : OpenLaw := PySem.Challenge.rw_uf050007_05
abbrev Xt : Shared → Bool := fun s => xlAt vw [] s && recOk (RowW.records (OpenRow.toRowW rw.row)) s
abbrev HK : Hook := kHook kk ks (fun _ => by kernel_rfl)
theorem l_1 : ∀ w : World, (fun os => (staticsOk (importedModules pw.main.body) (boot_heap w.params) (hp_f w.params) && namesBound pw (hp_f w.params) && gensDone (sl_f w os) && laidKept (boot_heap w.params) (hp_f w.params))) = fun _ : OsState => true := fun w => by rw [imods_q]; kernel_rfl
theorem l_2 : ∀ w : World, (fun os => openSeen vw [] (importedModules pw.main.body) Xt true (sl_f w os)) = fun _ : OsState => openGood vw [] := fun w => by rw [imods_q, openSeen_q]; kernel_rfl
theorem l_3 : ∀ w : World, (fun os => HK.obs (sl_f w os)) = fun _ : OsState => HK.val w := fun w => by kernel_rfl
theorem left : LeftO pw vw [] Xt HK.obs HK.val NN :=
 LeftO.of_pieces (p := pw) (q := vw) (loose := []) (Xt := Xt) (Yf := HK.obs) (Ya := HK.val) (N := NN) (g0 := true) (H₀ := boot_heap) (H₁ := hp_f) q_open q_size q_run q_le
  fun w => funext fun os => looks_pair (congrFun (l_1 w) os) (looks_pair (congrFun (l_2 w) os) (congrFun (l_3 w) os))
theorem said : rw.wellSaid = true := by
 unfold OpenLaw.wellSaid OpenRow.wellSaid OpenRow.partSaid looksOpen
 repeat' (with_reducible refine look_both ?_ ?_)
 all_goals decide +kernel
theorem hd {d : DefRec} {kwd : List (Str × Expr)} (hdef : defOf vw rw.row.name = some (d, kwd)) (hp : rw.row.prog.theDef rw.row.name = some (d.params, d.body, d.scope)) (hk : kwWritten? d.params.kwonlyargs d.params.kw_defaults = some kwd)
  (call : WalkO vw [] (XL vw []) HK.says rw.row.toRowW d kwd fun f vs => PySem.call f vs) : rw.Holds :=
 holds_law said fun said' =>
  holds_open (q := vw) (loose := []) (Xt := Xt) (XP := XL vw []) (Yf := HK.obs) (Ya := HK.val) (YP := HK.says) (N := NN) left HK.of HK.keeps (fun s e => xl_of s (Bool.and_eq_true_iff.mp e).1) XL.keeps hdef hp hk
   (fun s e => recFacts_of (Bool.and_eq_true_iff.mp e).2) (by rfl) said' (by decide +kernel) ⟨rfl, rfl, rfl, rfl, rfl, by decide +kernel⟩ (by w_witness2) call
end
end Hd
end Mine
end
noncomputable section
namespace Mine
open PySem PySem.W PyProof.Rows PySem.Calls
noncomputable def csX : List String := ["NoPath", "NoFile", "InTheWay"]
noncomputable def ksX : List String := ["RoadError", "NoPath", "NoFile", "InTheWay"]
noncomputable def ALS : Str := Str.ofString "abcdefghijklmnopqrstuvwxyzABCDEFGHIJKLMNOPQRSTUVWXYZ0123456789.-_"
noncomputable def okPart (x : Str) : Bool := decide (x ≠ Str.ofString "." ∧ x ≠ Str.ofString ".." ∧ 1 ≤ x.length ∧ x.length ≤ 12) && (cl x).all fun c => Txt.contains ALS ⟨#[c]⟩
noncomputable def okPath (x : Str) : Bool := decide ((Txt.split x (Str.ofString "/")).length ≤ 8) && (Txt.split x (Str.ofString "/")).all okPart
noncomputable def ok7 (x : Str) : Prop := okPath x = true ∧ (Txt.split x (Str.ofString "/")).length ≤ 7
noncomputable def signBy (k : Int) : Str := ⟨#[(cl ALS).getD (k % 65).toNat 0]⟩
structure Tr (n : Nat) (kvs : List (Str × V)) : Prop where
 len : kvs.length ≤ n
 key : ∀ q ∈ kvs, q.1.length ≤ 200
 ok : ∀ q ∈ kvs, ok7 q.1
 val : ∀ q ∈ kvs, ∃ y, q.2 = .str y
 nodup : (kvs.map (·.1)).Nodup
structure Tk (n : Nat) (kvs : List (Str × V)) : Prop where
 len : kvs.length ≤ n
 key : ∀ q ∈ kvs, q.1.length ≤ 300
noncomputable def keysOf (kvs : List (Str × V)) : List Str := kvs.map (·.1)
noncomputable def gS (kvs : List (Str × V)) (x : Str) : Str := match vget kvs x with | some (.str y) => y | _ => Str.ofString ""
noncomputable def clr (x y : Str) : Bool := !(Txt.startswith y (x ++ Str.ofString "/") || Txt.startswith x (y ++ Str.ofString "/"))
noncomputable def isFree (ks : List Str) (x : Str) : Bool := ks.all fun y => clr x y
structure Deed where
 cu : Bool
 x : Str
 l : Str
noncomputable def deedV (d : Deed) : V := bif d.cu then .tup [.str (Str.ofString "cut"), .str d.x] else .tup [.str (Str.ofString "put"), .str d.x, .str d.l]
noncomputable def outc (kvs : List (Str × V)) (d : Deed) : Sum String (List (Str × V)) :=
 if okPath d.x = false then .inl "NoPath" else if d.cu then (if d.x ∈ keysOf kvs then .inr (vout kvs d.x) else .inl "NoFile") else if isFree (keysOf kvs) d.x then .inr (vstored kvs d.x (.str d.l)) else .inl "InTheWay"
noncomputable def outs (kvs : List (Str × V)) : List Deed → Sum String (List (Str × V))
 | [] => .inr kvs
 | d :: r => match outc kvs d with
  | .inl c => .inl c
  | .inr k => outs k r
noncomputable def Ends (o : Sum String (List (Str × V))) (σ : View) (Q : V → View → Prop) (X : String → View → Prop) : Prop := match o with
 | .inl c => ∀ σ', Grow σ σ' → X c σ'
 | .inr k2 => ∀ b ep' σ', Grow σ σ' → σ b = Option.none → σ' b = some (.dict k2 ep') → Q (.ref b) σ'
noncomputable def badL : List Str := [Str.ofString "", Str.ofString "a/../b", Str.ofString "a b"]
noncomputable def okD (d : Deed) : Prop := d.x.length ≤ 300 ∧ okPath d.x = !decide (d.x ∈ badL)
noncomputable def cutsL (ka kb : List (Str × V)) : List Deed := (srt (keysOf ka)).filterMap fun x => if x ∈ keysOf kb then Option.none else some ⟨true, x, Str.ofString ""⟩
noncomputable def newer (ka kb : List (Str × V)) (x : Str) : Bool := !decide (x ∈ keysOf ka) || !decide (gS ka x = gS kb x)
noncomputable def putsL (ka kb : List (Str × V)) : List Deed := (srt (keysOf kb)).filterMap fun x => if newer ka kb x then some ⟨false, x, gS kb x⟩ else Option.none
noncomputable def dueL (ka kb : List (Str × V)) : List Deed := cutsL ka kb ++ putsL ka kb
noncomputable def NF (ka kb : List (Str × V)) : Prop := ∀ p ∈ keysOf kb, newer ka kb p = true → ∀ q ∈ keysOf kb, clr p q = true
noncomputable def Grew (kvs k2 : List (Str × V)) : Prop := k2 = kvs ∨ (∃ x, k2 = vout kvs x) ∨ (∃ x l, isFree (keysOf kvs) x = true ∧ k2 = vstored kvs x (.str l))
inductive sp_is_part (ns : List Int) (vs : List V) (σ : View) (Q : V → View → Prop) : Prop
 | mk (x : _) (h1 : vs = [.str x]) (h2 : x.length ≤ 1000) (h3 : Q (.bool (okPart x)) σ) : sp_is_part ns vs σ Q
inductive sp_is_path (ns : List Int) (vs : List V) (σ : View) (Q : V → View → Prop) : Prop
 | mk (x : _) (h1 : vs = [.str x]) (h2 : x.length ≤ 1000) (h3 : ∀ σ', Grow σ σ' → Q (.bool (okPath x)) σ') : sp_is_path ns vs σ Q
inductive sp_is_beneath (ns : List Int) (vs : List V) (σ : View) (Q : V → View → Prop) : Prop
 | mk (x : _) (y : _) (h1 : vs = [.str x, .str y]) (h2 : y.length ≤ 1000) (h3 : Q (.bool (Txt.startswith x (y ++ Str.ofString "/"))) σ) : sp_is_beneath ns vs σ Q
inductive sp_done (ns : List Int) (vs : List V) (σ : View) (Q : V → View → Prop) (X : String → View → Prop) : Prop
 | mk (a : _) (kvs : _) (ep : _) (d : _) (h1 : vs = [.ref a, deedV d]) (h2 : σ a = some (.dict kvs ep)) (h3 : Tk 1000 kvs) (h4 : d.x.length ≤ 300) (h5 : Ends (outc kvs d) σ Q X) : sp_done ns vs σ Q X
inductive sp_changed (ns : List Int) (vs : List V) (σ : View) (Q : V → View → Prop) (X : String → View → Prop) : Prop
 | mk (a : _) (L : _) (kvs : _) (ep : _) (ds : _) (n : _) (h1 : vs = [.ref a, .ref L]) (h2 : σ a = some (.dict kvs ep)) (h3 : σ L = some (.list (ds.map deedV))) (h4 : Tk n kvs) (h5 : n + ds.length ≤ 1000) (h6 : (∀ d ∈ ds, d.x.length ≤ 300)) (h7 : Ends (outs kvs ds) σ Q X) : sp_changed ns vs σ Q X
inductive sp_between (ns : List Int) (vs : List V) (σ : View) (Q : V → View → Prop) : Prop
 | mk (a : _) (b : _) (ka : _) (kb : _) (e1 : _) (e2 : _) (h1 : vs = [.ref a, .ref b]) (h2 : σ a = some (.dict ka e1)) (h3 : σ b = some (.dict kb e2)) (h4 : Tr 300 ka) (h5 : Tr 300 kb) (h6 : newG ((dueL ka kb).map deedV) σ Q) : sp_between ns vs σ Q
inductive sp__law_cell_at (ns : List Int) (vs : List V) (σ : View) (Q : V → View → Prop) : Prop
 | mk (k : _) (h1 : vs = [.script, .int k]) (h2 : 0 ≤ k) (h3 : Q (.int (cell ns k)) σ) : sp__law_cell_at ns vs σ Q
inductive sp__law_sign_by (ns : List Int) (vs : List V) (σ : View) (Q : V → View → Prop) : Prop
 | mk (k : _) (h1 : vs = [.int k]) (h2 : Q (.str (signBy k)) σ) : sp__law_sign_by ns vs σ Q
inductive sp__law_name_by (ns : List Int) (vs : List V) (σ : View) (Q : V → View → Prop) : Prop
 | mk (c : _) (s : _) (h1 : vs = [.int c, .int s]) (h2 : ∀ (x : Str) σ', Grow σ σ' → okPart x = true → Q (.str x) σ') : sp__law_name_by ns vs σ Q
inductive sp__law_path_by (ns : List Int) (vs : List V) (σ : View) (Q : V → View → Prop) : Prop
 | mk (c : _) (s : _) (h1 : vs = [.int c, .int s]) (h2 : ∀ (x : Str) σ', Grow σ σ' → ok7 x → x.length ≤ 200 → Q (.str x) σ') : sp__law_path_by ns vs σ Q
inductive sp__law_line_by (ns : List Int) (vs : List V) (σ : View) (Q : V → View → Prop) : Prop
 | mk (c : _) (s : _) (h1 : vs = [.int c, .int s]) (h2 : ∀ (x : Str) σ', Grow σ σ' → Q (.str x) σ') : sp__law_line_by ns vs σ Q
inductive sp__law_is_free (ns : List Int) (vs : List V) (σ : View) (Q : V → View → Prop) : Prop
 | mk (a : _) (kvs : _) (ep : _) (x : _) (h1 : vs = [.ref a, .str x]) (h2 : σ a = some (.dict kvs ep)) (h3 : (∀ q ∈ kvs, q.1.length ≤ 300)) (h4 : x.length ≤ 1000) (h5 : Q (.bool (isFree (keysOf kvs) x)) σ) : sp__law_is_free ns vs σ Q
inductive sp__law_grown (ns : List Int) (vs : List V) (σ : View) (Q : V → View → Prop) : Prop
 | mk (a : _) (kvs : _) (ep : _) (c : _) (s : _) (n : _) (h1 : vs = [.ref a, .int c, .int s]) (h2 : σ a = some (.dict kvs ep)) (h3 : Tr n kvs) (h4 : n ≤ 900) (h5 : ∀ b kvs' ep' σ', Grow σ σ' → σ b = Option.none → σ' b = some (.dict kvs' ep') → Tr (n + 1) kvs' → Grew kvs kvs' → Q (.ref b) σ') : sp__law_grown ns vs σ Q
inductive sp__law_word_of (ns : List Int) (vs : List V) (σ : View) (Q : V → View → Prop) : Prop
 | mk (a : _) (L : _) (kvs : _) (ep : _) (ds : _) (n : _) (h1 : vs = [.ref a, .ref L]) (h2 : σ a = some (.dict kvs ep)) (h3 : σ L = some (.list (ds.map deedV))) (h4 : Tk n kvs) (h5 : n + ds.length ≤ 1000) (h6 : (∀ d ∈ ds, okD d)) (h7 : Ends (outs kvs ds) σ Q (fun c σ' => Q (.str (Str.ofString c)) σ')) : sp__law_word_of ns vs σ Q
inductive sp__law_is_deed (ns : List Int) (vs : List V) (σ : View) (Q : V → View → Prop) : Prop
 | mk (d : _) (h1 : vs = [deedV d]) (h2 : ∀ σ', Grow σ σ' → Q (.bool true) σ') : sp__law_is_deed ns vs σ Q
inductive sp__law_told (ns : List Int) (vs : List V) (σ : View) (Q : V → View → Prop) (d9 : String → View → Prop) : Prop
 | mk (a : _) (L : _) (kvs : _) (ep : _) (ds : _) (n : _) (h1 : vs = [.ref a, .ref L]) (h2 : σ a = some (.dict kvs ep)) (h3 : σ L = some (.list (ds.map deedV))) (h4 : Tk n kvs) (h5 : n + ds.length ≤ 1000) (h6 : (∀ d ∈ ds, d.x.length ≤ 300)) (h7 : Ends (outs kvs ds) σ Q (fun c σ' => Q (.str (Str.ofString c)) σ')) : sp__law_told ns vs σ Q d9
inductive sp__law_trees (ns : List Int) (vs : List V) (σ : View) (Q : V → View → Prop) : Prop
 | mk (z : _) (h1 : vs = [z]) (h2 : z = V.script) (h3 : ∀ a b ka kb e1 e2 σ', Grow σ σ' → σ' a = some (.dict ka e1) → σ' b = some (.dict kb e2) → Tr 190 ka → Tr 200 kb → NF ka kb → Q (.tup [.ref a, .ref b]) σ') : sp__law_trees ns vs σ Q
inductive sp__law_odd_deed (ns : List Int) (vs : List V) (σ : View) (Q : V → View → Prop) : Prop
 | mk (c : _) (b : _) (kb : _) (ep : _) (h1 : vs = [.int c, .ref b]) (h2 : σ b = some (.dict kb ep)) (h3 : Tr 200 kb) (h4 : ∀ d σ', Grow σ σ' → okD d → Q (deedV d) σ') : sp__law_odd_deed ns vs σ Q
noncomputable def sp_law (_ns : List Int) : SpecX := spLawX
end Mine
end
noncomputable section
set_option maxRecDepth 100000
set_option maxHeartbeats 4000000
namespace Mine
open PySem PySem.W PyProof.Rows PySem.Calls
noncomputable def T_is_part_1 (ns : List Int) : ST :=
 (sIf (tOr (tBool (eBin opEq0 (eName "text") (eVal (.str (Str.ofString "."))))) (tOr (tBool (eBin opEq0 (eName "text") (eVal (.str (Str.ofString ".."))))) (tOr (tNot (tCmp2 opLe opLe (eVal (.int 1)) (eCall (spLen ns) (lCons (eName "text") lNil)) (eVal (.int 12)))) tF))) (sSeq (sRet (eVal (.bool false)))
 sNil) sNil)
noncomputable def T_is_part_2 (ns : List Int) : ST :=
 (sFor (.name "sign") (iOf ns (eName "text")) (sSeq (sIf (tBool (eBin opNotInS (eName "sign") (eVal (.str (Str.ofString "abcdefghijklmnopqrstuvwxyzABCDEFGHIJKLMNOPQRSTUVWXYZ0123456789.-_"))))) (sSeq (sRet (eVal (.bool false)))
 sNil) sNil)
 sNil))
noncomputable def T_is_part_3 (ns : List Int) : ST :=
 (sRet (eVal (.bool true)))
noncomputable def T_is_part (ns : List Int) : ST := (sSeq (T_is_part_1 ns) (sSeq (T_is_part_2 ns) (sSeq (T_is_part_3 ns) sNil)))
theorem b_is_part {C : Cx} (G : Gl C Hd.vw) (hz : C.held = none) (g_LONGEST_PART : GInt C "LONGEST_PART" 12) (g_SIGNS : GStr C "SIGNS" (Str.ofString "abcdefghijklmnopqrstuvwxyzABCDEFGHIJKLMNOPQRSTUVWXYZ0123456789.-_"))  : HS C (scopeAt Hd.vw 7) 0 (bodyAt Hd.vw 7) (T_is_part C.ns) :=
 (HS.cons (HS1.ite (HB.boolOp (HBs.or (HB.cmp ok_eq0 (HE.name rfl rfl) HE.str rfl) (HBs.or (HB.cmp ok_eq0 (HE.name rfl rfl) HE.str rfl) (HBs.or (HB.not (HB.cmp2 ok_le ok_le HE.int (HE.len G rfl (HL.cons (HE.name rfl rfl) HL.nil rfl) rfl) (HE.gint G.ok rfl g_LONGEST_PART rfl) rfl)) HBs.orNil)))) (HS.cons (HS1.ret HE.bool)
 HS.nil) HS.nil)
 (HS.cons (HS1.for (HT.name rfl) (HI.of G.ok hz (HE.name rfl rfl)) (HS.cons (HS1.ite (HB.cmp ok_notInS (HE.name rfl rfl) (HE.gstr G.ok rfl g_SIGNS rfl) rfl) (HS.cons (HS1.ret HE.bool)
 HS.nil) HS.nil)
 HS.nil) (fun _ _ => rfl))
 (HS.cons (HS1.ret HE.bool)
 HS.nil)))
theorem f_is_part {C : Cx} (G : Gl C Hd.vw) (hz : C.held = none) (g_LONGEST_PART : GInt C "LONGEST_PART" 12) (g_SIGNS : GStr C "SIGNS" (Str.ofString "abcdefghijklmnopqrstuvwxyzABCDEFGHIJKLMNOPQRSTUVWXYZ0123456789.-_"))  (hspec : ∀ vs σ Q, sp_is_part C.ns vs σ Q → vs.length = 1 ∧ T_is_part C.ns (bindM ["text"] vs none') σ (fin Q)) : FnAt C 0 "is_part" (sp_is_part C.ns) :=
 FnAt.mk (xs := ["text"]) G 0 7 rfl rfl rfl rfl rfl (fun ws pm code doc h => by
  obtain ⟨w0, rfl⟩ := len1 h
  rfl) rfl (b_is_part G hz g_LONGEST_PART g_SIGNS ) hspec
noncomputable def T_is_path_1 (ns : List Int) : ST :=
 (sSet "parts" (eMeth tyStr spSplit (eName "text") (lCons (eVal (.str (Str.ofString "/"))) lNil)))
noncomputable def T_is_path_2 (ns : List Int) : ST :=
 (sIf (tBool (eBin opGt (eCall (spLen ns) (lCons (eName "parts") lNil)) (eVal (.int 8)))) (sSeq (sRet (eVal (.bool false)))
 sNil) sNil)
noncomputable def T_is_path_3 (ns : List Int) : ST :=
 (sFor (.name "part") (iOf ns (eName "parts")) (sSeq (sIf (tNot (tBool (eCall (sp_is_part ns) (lCons (eName "part") lNil)))) (sSeq (sRet (eVal (.bool false)))
 sNil) sNil)
 sNil))
noncomputable def T_is_path_4 (ns : List Int) : ST :=
 (sRet (eVal (.bool true)))
noncomputable def T_is_path (ns : List Int) : ST := (sSeq (T_is_path_1 ns) (sSeq (T_is_path_2 ns) (sSeq (T_is_path_3 ns) (sSeq (T_is_path_4 ns) sNil))))
theorem b_is_path {C : Cx} (G : Gl C Hd.vw) (hz : C.held = none) (g_MOST_PARTS : GInt C "MOST_PARTS" 8) (h_is_part : FnAt C 0 "is_part" (sp_is_part C.ns)) : HS C (scopeAt Hd.vw 8) 1 (bodyAt Hd.vw 8) (T_is_path C.ns) :=
 (HS.cons (HS1.set (.inl rfl) (HE.split (HE.name rfl rfl) (HL.cons HE.str HL.nil rfl) rfl (fun _ => rfl) rfl (by decide)) (fun _ _ => rfl))
 (HS.cons (HS1.ite (HB.cmp ok_gt (HE.len G rfl (HL.cons (HE.name rfl rfl) HL.nil rfl) rfl) (HE.gint G.ok rfl g_MOST_PARTS rfl) rfl) (HS.cons (HS1.ret HE.bool)
 HS.nil) HS.nil)
 (HS.cons (HS1.for (HT.name rfl) (HI.of G.ok hz (HE.name rfl rfl)) (HS.cons (HS1.ite (HB.not (HB.val (HE.callAt G h_is_part (by decide) rfl rfl (HL.cons (HE.name rfl rfl) HL.nil rfl) rfl) (fun _ _ => rfl))) (HS.cons (HS1.ret HE.bool)
 HS.nil) HS.nil)
 HS.nil) (fun _ _ => rfl))
 (HS.cons (HS1.ret HE.bool)
 HS.nil))))
theorem f_is_path {C : Cx} (G : Gl C Hd.vw) (hz : C.held = none) (g_MOST_PARTS : GInt C "MOST_PARTS" 8) (h_is_part : FnAt C 0 "is_part" (sp_is_part C.ns)) (hspec : ∀ vs σ Q, sp_is_path C.ns vs σ Q → vs.length = 1 ∧ T_is_path C.ns (bindM ["text"] vs none') σ (fin Q)) : FnAt C 1 "is_path" (sp_is_path C.ns) :=
 FnAt.mk (xs := ["text"]) G 1 8 rfl rfl rfl rfl rfl (fun ws pm code doc h => by
  obtain ⟨w0, rfl⟩ := len1 h
  rfl) rfl (b_is_path G hz g_MOST_PARTS h_is_part) hspec
noncomputable def T_is_beneath_1 (ns : List Int) : ST :=
 (sRet (eMeth tyStr spStarts (eName "path") (lCons (eBin opAdd (eName "upper") (eVal (.str (Str.ofString "/")))) lNil)))
noncomputable def T_is_beneath (ns : List Int) : ST := (sSeq (T_is_beneath_1 ns) sNil)
theorem b_is_beneath {C : Cx} (G : Gl C Hd.vw) (hz : C.held = none)   : HS C (scopeAt Hd.vw 9) 0 (bodyAt Hd.vw 9) (T_is_beneath C.ns) :=
 (HS.cons (HS1.ret (HE.starts (HE.name rfl rfl) (HL.cons (HE.bin ok_add (HE.name rfl rfl) HE.str) HL.nil rfl) rfl (fun _ => rfl) rfl (by decide)))
 HS.nil)
theorem f_is_beneath {C : Cx} (G : Gl C Hd.vw) (hz : C.held = none)   (hspec : ∀ vs σ Q, sp_is_beneath C.ns vs σ Q → vs.length = 2 ∧ T_is_beneath C.ns (bindM ["path", "upper"] vs none') σ (fin Q)) : FnAt C 0 "is_beneath" (sp_is_beneath C.ns) :=
 FnAt.mk (xs := ["path", "upper"]) G 2 9 rfl rfl rfl rfl rfl (fun ws pm code doc h => by
  obtain ⟨w0, w1, rfl⟩ := len2 h
  rfl) rfl (b_is_beneath G hz  ) hspec
noncomputable def T_done_1 (ns : List Int) : STX :=
 (xP (sSet "path" (eBin (opItem ns) (eName "deed") (eVal (.int 1)))))
noncomputable def T_done_2 (ns : List Int) : STX :=
 (xIf (tNot (tBool (eCall (sp_is_path ns) (lCons (eName "path") lNil)))) (xSeq (xRaise "NoPath")
 (xP sNil)) (xP sNil))
noncomputable def T_done_3 (ns : List Int) : STX :=
 (xP (sSet "fresh" (eCall spDictC (lCons (eName "tree") lNil))))
noncomputable def T_done_4 (ns : List Int) : STX :=
 (xIf (tBool (eBin opEq0 (eBin (opItem ns) (eName "deed") (eVal (.int 0))) (eVal (.str (Str.ofString "cut"))))) (xSeq (xIf (tBool (eBin opNotInD (eName "path") (eName "fresh"))) (xSeq (xRaise "NoFile")
 (xP sNil)) (xP sNil))
 (xP (sSeq (sExpr (eMeth tyDict spPop (eName "fresh") (lCons (eName "path") lNil)))
 (sSeq (sRet (eName "fresh"))
 sNil)))) (xP sNil))
noncomputable def T_done_5 (ns : List Int) : STX :=
 (xFor (.name "other") (iOf ns (eName "tree")) (xSeq (xIf (tOr (tBool (eCall (sp_is_beneath ns) (lCons (eName "path") (lCons (eName "other") lNil)))) (tOr (tBool (eCall (sp_is_beneath ns) (lCons (eName "other") (lCons (eName "path") lNil)))) tF)) (xSeq (xRaise "InTheWay")
 (xP sNil)) (xP sNil))
 (xP sNil)))
noncomputable def T_done_6 (ns : List Int) : ST :=
 (sSetItem setD (eBin (opItem ns) (eName "deed") (eVal (.int 2))) (eName "fresh") (eName "path"))
noncomputable def T_done_7 (ns : List Int) : ST :=
 (sRet (eName "fresh"))
noncomputable def T_done (ns : List Int) : STX := (xSeq (T_done_1 ns) (xSeq (T_done_2 ns) (xSeq (T_done_3 ns) (xSeq (T_done_4 ns) (xSeq (T_done_5 ns) (xP (sSeq (T_done_6 ns) (sSeq (T_done_7 ns) sNil))))))))
theorem b_done {C : Cx} (G : Gl C Hd.vw) (hz : C.held = none)  {ad : String → Addr} (Tb : XTab C csX ksX ad) (h_is_path : FnAt C 1 "is_path" (sp_is_path C.ns)) (h_is_beneath : FnAt C 0 "is_beneath" (sp_is_beneath C.ns)) : HSX C (scopeAt Hd.vw 10) 2 (bodyAt Hd.vw 10) (T_done C.ns) :=
 (HSX.cons (HSX1.plain (HS1.set (.inl rfl) (HE.item G (HE.name rfl rfl) HE.int rfl) (fun _ _ => rfl)))
 (HSX.cons (HSX1.ite (HB.not (HB.val (HE.callAt G h_is_path (by decide) rfl rfl (HL.cons (HE.name rfl rfl) HL.nil rfl) rfl) (fun _ _ => rfl))) (HSX.cons (HSX1.raiseAt G hz Tb (by decide) rfl rfl)
 (HSX.plain HS.nil)) (HSX.plain HS.nil))
 (HSX.cons (HSX1.plain (HS1.set (.inl rfl) (HE.dictC G rfl (HL.cons (HE.name rfl rfl) HL.nil rfl) rfl) (fun _ _ => rfl)))
 (HSX.cons (HSX1.ite (HB.cmp ok_eq0 (HE.item G (HE.name rfl rfl) HE.int rfl) HE.str rfl) (HSX.cons (HSX1.ite (HB.cmp (ok_notInD G.ok) (HE.name rfl rfl) (HE.name rfl rfl) rfl) (HSX.cons (HSX1.raiseAt G hz Tb (by decide) rfl rfl)
 (HSX.plain HS.nil)) (HSX.plain HS.nil))
 (HSX.plain (HS.cons (HS1.expr (HE.popD (HE.name rfl rfl) (HL.cons (HE.name rfl rfl) HL.nil rfl) rfl (fun _ => rfl) rfl (by decide)) (fun _ _ => rfl))
 (HS.cons (HS1.ret (HE.name rfl rfl))
 HS.nil)))) (HSX.plain HS.nil))
 (HSX.cons (HSX1.for (HT.name rfl) (HI.of G.ok hz (HE.name rfl rfl)) (HSX.cons (HSX1.ite (HB.boolOp (HBs.or (HB.val (HE.callAt G h_is_beneath (by decide) rfl rfl (HL.cons (HE.name rfl rfl) (HL.cons (HE.name rfl rfl) HL.nil rfl) rfl) rfl) (fun _ _ => rfl)) (HBs.or (HB.val (HE.callAt G h_is_beneath (by decide) rfl rfl (HL.cons (HE.name rfl rfl) (HL.cons (HE.name rfl rfl) HL.nil rfl) rfl) rfl) (fun _ _ => rfl)) HBs.orNil))) (HSX.cons (HSX1.raiseAt G hz Tb (by decide) rfl rfl)
 (HSX.plain HS.nil)) (HSX.plain HS.nil))
 (HSX.plain HS.nil)) (fun _ _ => rfl))
 (HSX.plain (HS.cons (HS1.setItem ok_setD (HE.item G (HE.name rfl rfl) HE.int rfl) (HE.name rfl rfl) (HE.name rfl rfl) (fun _ _ => rfl))
 (HS.cons (HS1.ret (HE.name rfl rfl))
 HS.nil))))))))
theorem f_done {C : Cx} (G : Gl C Hd.vw) (hz : C.held = none)  {ad : String → Addr} (Tb : XTab C csX ksX ad) (h_is_path : FnAt C 1 "is_path" (sp_is_path C.ns)) (h_is_beneath : FnAt C 0 "is_beneath" (sp_is_beneath C.ns)) (hspec : ∀ vs σ Q X, sp_done C.ns vs σ Q X → vs.length = 2 ∧ T_done C.ns (bindM ["tree", "deed"] vs none') σ (fin Q) (fun c _ σ' => X c σ')) : FnAtX C 2 "done" (sp_done C.ns) :=
 FnAtX.mk (xs := ["tree", "deed"]) G 3 10 rfl rfl rfl rfl rfl (fun ws pm code doc h => by
  obtain ⟨w0, w1, rfl⟩ := len2 h
  rfl) rfl (b_done G hz  Tb h_is_path h_is_beneath) hspec
noncomputable def T_changed_1 (ns : List Int) : STX :=
 (xP (sSet "fresh" (eCall spDictC (lCons (eName "tree") lNil))))
noncomputable def T_changed_2 (ns : List Int) : STX :=
 (xFor (.name "deed") (iOf ns (eName "deeds")) (xSeq (xSet "fresh" (xCall (sp_done ns) (lCons (eName "fresh") (lCons (eName "deed") lNil))))
 (xP sNil)))
noncomputable def T_changed_3 (ns : List Int) : ST :=
 (sRet (eName "fresh"))
noncomputable def T_changed (ns : List Int) : STX := (xSeq (T_changed_1 ns) (xSeq (T_changed_2 ns) (xP (sSeq (T_changed_3 ns) sNil))))
theorem b_changed {C : Cx} (G : Gl C Hd.vw) (hz : C.held = none)  (h_done : FnAtX C 2 "done" (sp_done C.ns)) : HSX C (scopeAt Hd.vw 11) 3 (bodyAt Hd.vw 11) (T_changed C.ns) :=
 (HSX.cons (HSX1.plain (HS1.set (.inl rfl) (HE.dictC G rfl (HL.cons (HE.name rfl rfl) HL.nil rfl) rfl) (fun _ _ => rfl)))
 (HSX.cons (HSX1.for (HT.name rfl) (HI.of G.ok hz (HE.name rfl rfl)) (HSX.cons (HSX1.set (.inl rfl) (HEX.callAt G h_done (by decide) rfl rfl (HL.cons (HE.name rfl rfl) (HL.cons (HE.name rfl rfl) HL.nil rfl) rfl) rfl) (fun _ _ => rfl))
 (HSX.plain HS.nil)) (fun _ _ => rfl))
 (HSX.plain (HS.cons (HS1.ret (HE.name rfl rfl))
 HS.nil))))
theorem f_changed {C : Cx} (G : Gl C Hd.vw) (hz : C.held = none)  (h_done : FnAtX C 2 "done" (sp_done C.ns)) (hspec : ∀ vs σ Q X, sp_changed C.ns vs σ Q X → vs.length = 2 ∧ T_changed C.ns (bindM ["tree", "deeds"] vs none') σ (fin Q) (fun c _ σ' => X c σ')) : FnAtX C 3 "changed" (sp_changed C.ns) :=
 FnAtX.mk (xs := ["tree", "deeds"]) G 4 11 rfl rfl rfl rfl rfl (fun ws pm code doc h => by
  obtain ⟨w0, w1, rfl⟩ := len2 h
  rfl) rfl (b_changed G hz  h_done) hspec
noncomputable def T_between_1 (ns : List Int) : ST :=
 (sSet "deeds" (eComp ["new"] (.name "path") (iOf ns (eSortK (eName "old"))) (tBool (eBin opNotInD (eName "path") (eName "new"))) (eTup (lCons (eVal (.str (Str.ofString "cut"))) (lCons (eName "path") lNil)))))
noncomputable def T_between_2 (ns : List Int) : ST :=
 (sFor (.name "path") (iOf ns (eSortK (eName "new"))) (sSeq (sIf (tOr (tBool (eBin opNotInD (eName "path") (eName "old"))) (tOr (tBool (eBin opNe0 (eBin opItemD (eName "old") (eName "path")) (eBin opItemD (eName "new") (eName "path")))) tF)) (sSeq (sExpr (eMeth tyList spAppend (eName "deeds") (lCons (eTup (lCons (eVal (.str (Str.ofString "put"))) (lCons (eName "path") (lCons (eBin opItemD (eName "new") (eName "path")) lNil)))) lNil)))
 sNil) sNil)
 sNil))
noncomputable def T_between_3 (ns : List Int) : ST :=
 (sRet (eName "deeds"))
noncomputable def T_between (ns : List Int) : ST := (sSeq (T_between_1 ns) (sSeq (T_between_2 ns) (sSeq (T_between_3 ns) sNil)))
theorem b_between {C : Cx} (G : Gl C Hd.vw) (hz : C.held = none)   : HS C (scopeAt Hd.vw 12) 0 (bodyAt Hd.vw 12) (T_between C.ns) :=
 (HS.cons (HS1.setComp (CompOk.of rfl) (HI.of G.ok hz (HE.sortedKeys G hz rfl (HE.name rfl rfl) (fun _ => rfl) rfl)) (HT.name rfl) (HTs.one (HB.cmp (ok_notInD G.ok) (HE.name rfl rfl) (HE.cell rfl rfl) rfl)) (HE.tup (HL.cons HE.str (HL.cons (HE.name rfl rfl) HL.nil rfl) rfl)) (fun _ _ => rfl) rfl (swaps_local rfl rfl rfl))
 (HS.cons (HS1.for (HT.name rfl) (HI.of G.ok hz (HE.sortedKeys G hz rfl (HE.cell rfl rfl) (fun _ => rfl) rfl)) (HS.cons (HS1.ite (HB.boolOp (HBs.or (HB.cmp (ok_notInD G.ok) (HE.name rfl rfl) (HE.name rfl rfl) rfl) (HBs.or (HB.cmp ok_ne0 (HE.itemD (HE.name rfl rfl) (HE.name rfl rfl) rfl) (HE.itemD (HE.cell rfl rfl) (HE.name rfl rfl) rfl) rfl) HBs.orNil))) (HS.cons (HS1.expr (HE.append (HE.name rfl rfl) (HL.cons (HE.tup (HL.cons HE.str (HL.cons (HE.name rfl rfl) (HL.cons (HE.itemD (HE.cell rfl rfl) (HE.name rfl rfl) rfl) HL.nil rfl) rfl) rfl)) HL.nil rfl) rfl (fun _ => rfl) rfl (by decide)) (fun _ _ => rfl))
 HS.nil) HS.nil)
 HS.nil) (fun _ _ => rfl))
 (HS.cons (HS1.ret (HE.name rfl rfl))
 HS.nil)))
theorem f_between {C : Cx} (G : Gl C Hd.vw) (hz : C.held = none)   (hspec : ∀ vs σ Q, sp_between C.ns vs σ Q → vs.length = 2 ∧ T_between C.ns (bindM ["old", "new"] vs none') σ (fin Q)) : FnAt C 0 "between" (sp_between C.ns) :=
 FnAt.mk (xs := ["old", "new"]) G 5 12 rfl rfl rfl rfl rfl (fun ws pm code doc h => by
  obtain ⟨w0, w1, rfl⟩ := len2 h
  rfl) rfl (b_between G hz  ) hspec
noncomputable def T__law_cell_at_1 (ns : List Int) : ST :=
 (sIf (tBool (eBin opLt (eName "_law_k") (eCall (spLen ns) (lCons (eName "_law_script") lNil)))) (sSeq (sRet (eBin (opItem ns) (eName "_law_script") (eName "_law_k")))
 sNil) sNil)
noncomputable def T__law_cell_at_2 (ns : List Int) : ST :=
 (sRet (eVal (.int 0)))
noncomputable def T__law_cell_at (ns : List Int) : ST := (sSeq (T__law_cell_at_1 ns) (sSeq (T__law_cell_at_2 ns) sNil))
theorem b__law_cell_at {C : Cx} (G : Gl C Hd.vw) (hz : C.held = none)   : HS C (scopeAt Hd.vw 13) 0 (bodyAt Hd.vw 13) (T__law_cell_at C.ns) :=
 (HS.cons (HS1.ite (HB.cmp ok_lt (HE.name rfl rfl) (HE.len G rfl (HL.cons (HE.name rfl rfl) HL.nil rfl) rfl) rfl) (HS.cons (HS1.ret (HE.item G (HE.name rfl rfl) (HE.name rfl rfl) rfl))
 HS.nil) HS.nil)
 (HS.cons (HS1.ret HE.int)
 HS.nil))
theorem f__law_cell_at {C : Cx} (G : Gl C Hd.vw) (hz : C.held = none)   (hspec : ∀ vs σ Q, sp__law_cell_at C.ns vs σ Q → vs.length = 2 ∧ T__law_cell_at C.ns (bindM ["_law_script", "_law_k"] vs none') σ (fin Q)) : FnAt C 0 "_law_cell_at" (sp__law_cell_at C.ns) :=
 FnAt.mk (xs := ["_law_script", "_law_k"]) G 6 13 rfl rfl rfl rfl rfl (fun ws pm code doc h => by
  obtain ⟨w0, w1, rfl⟩ := len2 h
  rfl) rfl (b__law_cell_at G hz  ) hspec
noncomputable def T__law_sign_by_1 (ns : List Int) : ST :=
 (sRet (eBin (opItem ns) (eVal (.str (Str.ofString "abcdefghijklmnopqrstuvwxyzABCDEFGHIJKLMNOPQRSTUVWXYZ0123456789.-_"))) (eBin opMod (eName "_law_k") (eVal (.int 65)))))
noncomputable def T__law_sign_by (ns : List Int) : ST := (sSeq (T__law_sign_by_1 ns) sNil)
theorem b__law_sign_by {C : Cx} (G : Gl C Hd.vw) (hz : C.held = none)   : HS C (scopeAt Hd.vw 14) 0 (bodyAt Hd.vw 14) (T__law_sign_by C.ns) :=
 (HS.cons (HS1.ret (HE.item G HE.str (HE.bin ok_mod (HE.name rfl rfl) HE.int) rfl))
 HS.nil)
theorem f__law_sign_by {C : Cx} (G : Gl C Hd.vw) (hz : C.held = none)   (hspec : ∀ vs σ Q, sp__law_sign_by C.ns vs σ Q → vs.length = 1 ∧ T__law_sign_by C.ns (bindM ["_law_k"] vs none') σ (fin Q)) : FnAt C 0 "_law_sign_by" (sp__law_sign_by C.ns) :=
 FnAt.mk (xs := ["_law_k"]) G 7 14 rfl rfl rfl rfl rfl (fun ws pm code doc h => by
  obtain ⟨w0, rfl⟩ := len1 h
  rfl) rfl (b__law_sign_by G hz  ) hspec
noncomputable def T__law_name_by_1 (ns : List Int) : ST :=
 (sSet "_law_size" (eVal (.int 1)))
noncomputable def T__law_name_by_2 (ns : List Int) : ST :=
 (sIf (tBool (eBin opEq0 (eBin opMod (eBin opDiv (eName "_law_shift") (eVal (.int 65))) (eVal (.int 3))) (eVal (.int 1)))) (sSeq (sSet "_law_size" (eBin opAdd (eVal (.int 1)) (eBin opMod (eBin opDiv (eName "_law_shift") (eVal (.int 195))) (eVal (.int 12)))))
 sNil) sNil)
noncomputable def T__law_name_by_3 (ns : List Int) : ST :=
 (sSet "_law_way" (eBin opMod (eBin opDiv (eName "_law_shift") (eVal (.int 5))) (eVal (.int 4))))
noncomputable def T__law_name_by_4 (ns : List Int) : ST :=
 (sSet "_law_rest" (eComp ["_law_shift", "_law_k", "_law_way"] (.name "_law_j") (iRange (lCons (eVal (.int 12)) lNil)) tT (eCall (sp__law_sign_by ns) (lCons (eBin opAdd (eBin opAdd (eBin opDiv (eName "_law_shift") (eVal (.int 195))) (eBin opMul (eVal (.int 7)) (eName "_law_j"))) (eBin opMul (eName "_law_k") (eCall spInt (lCons (eBin opEq0 (eName "_law_way") (eVal (.int 0))) lNil)))) lNil))))
noncomputable def T__law_name_by_5 (ns : List Int) : ST :=
 (sSet "_law_at" (eBin opMul (eBin opMod (eBin opDiv (eName "_law_shift") (eVal (.int 20))) (eName "_law_size")) (eCall spInt (lCons (eBin opEq0 (eName "_law_way") (eVal (.int 1))) lNil))))
noncomputable def T__law_name_by_6 (ns : List Int) : ST :=
 (sSet "_law_told_here" (eCall (sp__law_sign_by ns) (lCons (eBin opAdd (eName "_law_shift") (eBin opMul (eName "_law_k") (eBin (opItem ns) (eList (lCons (eVal (.int 1)) (lCons (eVal (.int 26)) lNil))) (eCall spInt (lCons (eBin opEq0 (eName "_law_way") (eVal (.int 3))) lNil))))) lNil)))
noncomputable def T__law_name_by_7 (ns : List Int) : ST :=
 (sSet "_law_name" (eBin opAdd (eBin opAdd (eMeth tyStr spJoin (eVal (.str (Str.ofString ""))) (lCons (eCut ns (eName "_law_rest") pNone (pSome (eName "_law_at"))) lNil)) (eName "_law_told_here")) (eMeth tyStr spJoin (eVal (.str (Str.ofString ""))) (lCons (eCut ns (eName "_law_rest") (pSome (eName "_law_at")) (pSome (eBin opSub (eName "_law_size") (eVal (.int 1))))) lNil))))
noncomputable def T__law_name_by_8 (ns : List Int) : ST :=
 (sIf (tBool (eBin opEq0 (eName "_law_way") (eVal (.int 2)))) (sSeq (sSet "_law_name" (eMeth tyStr spJoin (eVal (.str (Str.ofString ""))) (lCons (eCut ns (eName "_law_rest") pNone (pSome (eBin opAdd (eVal (.int 1)) (eBin opMod (eBin opAdd (eBin opDiv (eName "_law_shift") (eVal (.int 65))) (eName "_law_k")) (eVal (.int 12)))))) lNil)))
 sNil) sNil)
noncomputable def T__law_name_by_9 (ns : List Int) : ST :=
 (sIf (tOr (tBool (eBin opEq0 (eName "_law_name") (eVal (.str (Str.ofString "."))))) (tOr (tBool (eBin opEq0 (eName "_law_name") (eVal (.str (Str.ofString ".."))))) tF)) (sSeq (sRet (eVal (.str (Str.ofString "0x"))))
 sNil) sNil)
noncomputable def T__law_name_by_10 (ns : List Int) : ST :=
 (sRet (eName "_law_name"))
noncomputable def T__law_name_by (ns : List Int) : ST := (sSeq (T__law_name_by_1 ns) (sSeq (T__law_name_by_2 ns) (sSeq (T__law_name_by_3 ns) (sSeq (T__law_name_by_4 ns) (sSeq (T__law_name_by_5 ns) (sSeq (T__law_name_by_6 ns) (sSeq (T__law_name_by_7 ns) (sSeq (T__law_name_by_8 ns) (sSeq (T__law_name_by_9 ns) (sSeq (T__law_name_by_10 ns) sNil))))))))))
theorem b__law_name_by {C : Cx} (G : Gl C Hd.vw) (hz : C.held = none)  (h__law_sign_by : FnAt C 0 "_law_sign_by" (sp__law_sign_by C.ns)) : HS C (scopeAt Hd.vw 15) 1 (bodyAt Hd.vw 15) (T__law_name_by C.ns) :=
 (HS.cons (HS1.set (.inl rfl) HE.int (fun _ _ => rfl))
 (HS.cons (HS1.ite (HB.cmp ok_eq0 (HE.bin ok_mod (HE.bin ok_div (HE.cell rfl rfl) HE.int) HE.int) HE.int rfl) (HS.cons (HS1.set (.inl rfl) (HE.bin ok_add HE.int (HE.bin ok_mod (HE.bin ok_div (HE.cell rfl rfl) HE.int) HE.int)) (fun _ _ => rfl))
 HS.nil) HS.nil)
 (HS.cons (HS1.set (.inr rfl) (HE.bin ok_mod (HE.bin ok_div (HE.cell rfl rfl) HE.int) HE.int) (fun _ _ => rfl))
 (HS.cons (HS1.setComp (CompOk.of rfl) (HI.rng G hz rfl (HL.cons HE.int HL.nil rfl) rfl) (HT.name rfl) HTs.nil (HE.callAt G h__law_sign_by (by decide) rfl rfl (HL.cons (HE.bin ok_add (HE.bin ok_add (HE.bin ok_div (HE.cell rfl rfl) HE.int) (HE.bin ok_mul HE.int (HE.name rfl rfl))) (HE.bin ok_mul (HE.cell rfl rfl) (HE.intC G rfl (HL.cons (HE.cmp ok_eq0 (HE.cell rfl rfl) HE.int rfl) HL.nil rfl) rfl))) HL.nil rfl) rfl) (fun _ _ => rfl) rfl (swaps_local rfl rfl rfl))
 (HS.cons (HS1.set (.inl rfl) (HE.bin ok_mul (HE.bin ok_mod (HE.bin ok_div (HE.cell rfl rfl) HE.int) (HE.name rfl rfl)) (HE.intC G rfl (HL.cons (HE.cmp ok_eq0 (HE.cell rfl rfl) HE.int rfl) HL.nil rfl) rfl)) (fun _ _ => rfl))
 (HS.cons (HS1.set (.inl rfl) (HE.callAt G h__law_sign_by (by decide) rfl rfl (HL.cons (HE.bin ok_add (HE.cell rfl rfl) (HE.bin ok_mul (HE.cell rfl rfl) (HE.item G (HE.list (HL.cons HE.int (HL.cons HE.int HL.nil rfl) rfl)) (HE.intC G rfl (HL.cons (HE.cmp ok_eq0 (HE.cell rfl rfl) HE.int rfl) HL.nil rfl) rfl) rfl))) HL.nil rfl) rfl) (fun _ _ => rfl))
 (HS.cons (HS1.set (.inl rfl) (HE.bin ok_add (HE.bin ok_add (HE.join HE.str (HL.cons (HE.cut G.ok (HE.name rfl rfl) HP.none (HP.some (HE.name rfl rfl))) HL.nil rfl) rfl (fun _ => rfl) rfl (by decide)) (HE.name rfl rfl)) (HE.join HE.str (HL.cons (HE.cut G.ok (HE.name rfl rfl) (HP.some (HE.name rfl rfl)) (HP.some (HE.bin ok_sub (HE.name rfl rfl) HE.int))) HL.nil rfl) rfl (fun _ => rfl) rfl (by decide))) (fun _ _ => rfl))
 (HS.cons (HS1.ite (HB.cmp ok_eq0 (HE.cell rfl rfl) HE.int rfl) (HS.cons (HS1.set (.inl rfl) (HE.join HE.str (HL.cons (HE.cut G.ok (HE.name rfl rfl) HP.none (HP.some (HE.bin ok_add HE.int (HE.bin ok_mod (HE.bin ok_add (HE.bin ok_div (HE.cell rfl rfl) HE.int) (HE.cell rfl rfl)) HE.int)))) HL.nil rfl) rfl (fun _ => rfl) rfl (by decide)) (fun _ _ => rfl))
 HS.nil) HS.nil)
 (HS.cons (HS1.ite (HB.boolOp (HBs.or (HB.cmp ok_eq0 (HE.name rfl rfl) HE.str rfl) (HBs.or (HB.cmp ok_eq0 (HE.name rfl rfl) HE.str rfl) HBs.orNil))) (HS.cons (HS1.ret HE.str)
 HS.nil) HS.nil)
 (HS.cons (HS1.ret (HE.name rfl rfl))
 HS.nil))))))))))
theorem f__law_name_by {C : Cx} (G : Gl C Hd.vw) (hz : C.held = none)  (h__law_sign_by : FnAt C 0 "_law_sign_by" (sp__law_sign_by C.ns)) (hspec : ∀ vs σ Q, sp__law_name_by C.ns vs σ Q → vs.length = 2 ∧ T__law_name_by C.ns (bindM ["_law_k", "_law_shift"] vs none') σ (fin Q)) : FnAt C 1 "_law_name_by" (sp__law_name_by C.ns) :=
 FnAt.mk (xs := ["_law_k", "_law_shift"]) G 8 15 rfl rfl rfl rfl rfl (fun ws pm code doc h => by
  obtain ⟨w0, w1, rfl⟩ := len2 h
  rfl) rfl (b__law_name_by G hz  h__law_sign_by) hspec
noncomputable def T__law_path_by_1 (ns : List Int) : ST :=
 (sSet "_law_depth" (eBin (opItem ns) (eList (lCons (eVal (.int 1)) (lCons (eVal (.int 1)) (lCons (eVal (.int 2)) (lCons (eVal (.int 2)) (lCons (eVal (.int 3)) lNil)))))) (eBin opMod (eName "_law_cell") (eVal (.int 5)))))
noncomputable def T__law_path_by_2 (ns : List Int) : ST :=
 (sSet "_law_parts" (eComp ["_law_cell", "_law_shift"] (.name "_law_j") (iRange (lCons (eName "_law_depth") lNil)) tT (eCall (sp__law_name_by ns) (lCons (eBin opMod (eBin opDiv (eBin opDiv (eName "_law_cell") (eVal (.int 5))) (eBin (opItem ns) (eList (lCons (eVal (.int 1)) (lCons (eVal (.int 3)) (lCons (eVal (.int 9)) lNil)))) (eName "_law_j"))) (eVal (.int 3))) (lCons (eName "_law_shift") lNil)))))
noncomputable def T__law_path_by_3 (ns : List Int) : ST :=
 (sIf (tBool (eBin opNe0 (eBin opMod (eName "_law_shift") (eVal (.int 7))) (eVal (.int 3)))) (sSeq (sRet (eMeth tyStr spJoin (eVal (.str (Str.ofString "/"))) (lCons (eName "_law_parts") lNil)))
 sNil) sNil)
noncomputable def T__law_path_by_4 (ns : List Int) : ST :=
 (sSet "_law_parts" (eBin opAdd (eComp ["_law_shift"] (.name "_law_j") (iRange (lCons (eBin opAdd (eVal (.int 1)) (eBin opMod (eBin opDiv (eName "_law_shift") (eVal (.int 7))) (eVal (.int 4)))) lNil)) tT (eCall (sp__law_name_by ns) (lCons (eBin opAdd (eVal (.int 3)) (eName "_law_j")) (lCons (eName "_law_shift") lNil)))) (eName "_law_parts")))
noncomputable def T__law_path_by_5 (ns : List Int) : ST :=
 (sIf (tBool (eBin opEq0 (eBin opMod (eName "_law_cell") (eVal (.int 13))) (eVal (.int 6)))) (sSeq (sRet (eMeth tyStr spJoin (eVal (.str (Str.ofString "/"))) (lCons (eCut ns (eName "_law_parts") pNone (pSome (eBin opAdd (eVal (.int 1)) (eBin opMod (eBin opDiv (eName "_law_cell") (eVal (.int 13))) (eCall (spLen ns) (lCons (eName "_law_parts") lNil)))))) lNil)))
 sNil) sNil)
noncomputable def T__law_path_by_6 (ns : List Int) : ST :=
 (sRet (eMeth tyStr spJoin (eVal (.str (Str.ofString "/"))) (lCons (eName "_law_parts") lNil)))
noncomputable def T__law_path_by (ns : List Int) : ST := (sSeq (T__law_path_by_1 ns) (sSeq (T__law_path_by_2 ns) (sSeq (T__law_path_by_3 ns) (sSeq (T__law_path_by_4 ns) (sSeq (T__law_path_by_5 ns) (sSeq (T__law_path_by_6 ns) sNil))))))
theorem b__law_path_by {C : Cx} (G : Gl C Hd.vw) (hz : C.held = none)  (h__law_name_by : FnAt C 1 "_law_name_by" (sp__law_name_by C.ns)) : HS C (scopeAt Hd.vw 16) 2 (bodyAt Hd.vw 16) (T__law_path_by C.ns) :=
 (HS.cons (HS1.set (.inl rfl) (HE.item G (HE.list (HL.cons HE.int (HL.cons HE.int (HL.cons HE.int (HL.cons HE.int (HL.cons HE.int HL.nil rfl) rfl) rfl) rfl) rfl)) (HE.bin ok_mod (HE.cell rfl rfl) HE.int) rfl) (fun _ _ => rfl))
 (HS.cons (HS1.setComp (CompOk.of rfl) (HI.rng G hz rfl (HL.cons (HE.name rfl rfl) HL.nil rfl) rfl) (HT.name rfl) HTs.nil (HE.callAt G h__law_name_by (by decide) rfl rfl (HL.cons (HE.bin ok_mod (HE.bin ok_div (HE.bin ok_div (HE.cell rfl rfl) HE.int) (HE.item G (HE.list (HL.cons HE.int (HL.cons HE.int (HL.cons HE.int HL.nil rfl) rfl) rfl)) (HE.name rfl rfl) rfl)) HE.int) (HL.cons (HE.cell rfl rfl) HL.nil rfl) rfl) rfl) (fun _ _ => rfl) rfl (swaps_local rfl rfl rfl))
 (HS.cons (HS1.ite (HB.cmp ok_ne0 (HE.bin ok_mod (HE.cell rfl rfl) HE.int) HE.int rfl) (HS.cons (HS1.ret (HE.join HE.str (HL.cons (HE.name rfl rfl) HL.nil rfl) rfl (fun _ => rfl) rfl (by decide)))
 HS.nil) HS.nil)
 (HS.cons (HS1.set (.inl rfl) (HE.bin ok_add (HE.comp (CompOk.of rfl) (HI.rng G hz rfl (HL.cons (HE.bin ok_add HE.int (HE.bin ok_mod (HE.bin ok_div (HE.cell rfl rfl) HE.int) HE.int)) HL.nil rfl) rfl) (HT.name rfl) HTs.nil (HE.callAt G h__law_name_by (by decide) rfl rfl (HL.cons (HE.bin ok_add HE.int (HE.name rfl rfl)) (HL.cons (HE.cell rfl rfl) HL.nil rfl) rfl) rfl) (fun _ _ => rfl)) (HE.name rfl rfl)) (fun _ _ => rfl))
 (HS.cons (HS1.ite (HB.cmp ok_eq0 (HE.bin ok_mod (HE.cell rfl rfl) HE.int) HE.int rfl) (HS.cons (HS1.ret (HE.join HE.str (HL.cons (HE.cut G.ok (HE.name rfl rfl) HP.none (HP.some (HE.bin ok_add HE.int (HE.bin ok_mod (HE.bin ok_div (HE.cell rfl rfl) HE.int) (HE.len G rfl (HL.cons (HE.name rfl rfl) HL.nil rfl) rfl))))) HL.nil rfl) rfl (fun _ => rfl) rfl (by decide)))
 HS.nil) HS.nil)
 (HS.cons (HS1.ret (HE.join HE.str (HL.cons (HE.name rfl rfl) HL.nil rfl) rfl (fun _ => rfl) rfl (by decide)))
 HS.nil))))))
theorem f__law_path_by {C : Cx} (G : Gl C Hd.vw) (hz : C.held = none)  (h__law_name_by : FnAt C 1 "_law_name_by" (sp__law_name_by C.ns)) (hspec : ∀ vs σ Q, sp__law_path_by C.ns vs σ Q → vs.length = 2 ∧ T__law_path_by C.ns (bindM ["_law_cell", "_law_shift"] vs none') σ (fin Q)) : FnAt C 2 "_law_path_by" (sp__law_path_by C.ns) :=
 FnAt.mk (xs := ["_law_cell", "_law_shift"]) G 9 16 rfl rfl rfl rfl rfl (fun ws pm code doc h => by
  obtain ⟨w0, w1, rfl⟩ := len2 h
  rfl) rfl (b__law_path_by G hz  h__law_name_by) hspec
noncomputable def T__law_line_by_1 (ns : List Int) : ST :=
 (sSet "_law_some" (eVal (.str (Str.ofString " !\"#$&'()*+,-./0123456789:;<=>?@ABCDEFGHIJKLMNOPQRSTUVWXYZ[\\]^_`"))))
noncomputable def T__law_line_by_2 (ns : List Int) : ST :=
 (sSet "_law_some" (eBin opAdd (eName "_law_some") (eVal (.str (Str.ofString "abcdefghijklmnopqrstuvwxyz{|}~\n\t")))))
noncomputable def T__law_line_by_3 (ns : List Int) : ST :=
 (sIf (tBool (eBin opLt (eBin opMod (eName "_law_k") (eVal (.int 4))) (eVal (.int 3)))) (sSeq (sRet (eMeth tyStr spJoin (eVal (.str (Str.ofString ""))) (lCons (eComp ["_law_some", "_law_shift", "_law_k"] (.name "_law_j") (iRange (lCons (eBin opMod (eName "_law_k") (eVal (.int 4))) lNil)) tT (eBin (opItem ns) (eName "_law_some") (eBin opMod (eBin opAdd (eBin opAdd (eName "_law_shift") (eBin opMul (eVal (.int 5)) (eName "_law_k"))) (eName "_law_j")) (eVal (.int 96))))) lNil)))
 sNil) sNil)
noncomputable def T__law_line_by_4 (ns : List Int) : ST :=
 (sSet "_law_size" (eBin opAdd (eVal (.int 3)) (eBin opMod (eName "_law_shift") (eVal (.int 60)))))
noncomputable def T__law_line_by_5 (ns : List Int) : ST :=
 (sIf (tBool (eBin opEq0 (eBin opMod (eBin opDiv (eName "_law_shift") (eVal (.int 60))) (eVal (.int 4))) (eVal (.int 3)))) (sSeq (sSet "_law_size" (eBin opAdd (eVal (.int 3)) (eBin opMod (eBin opDiv (eName "_law_shift") (eVal (.int 240))) (eVal (.int 600)))))
 sNil) sNil)
noncomputable def T__law_line_by_6 (ns : List Int) : ST :=
 (sRet (eMeth tyStr spJoin (eVal (.str (Str.ofString ""))) (lCons (eComp ["_law_some", "_law_shift", "_law_k"] (.name "_law_j") (iRange (lCons (eName "_law_size") lNil)) tT (eBin (opItem ns) (eName "_law_some") (eBin opMod (eBin opAdd (eBin opAdd (eName "_law_shift") (eBin opMul (eVal (.int 5)) (eName "_law_k"))) (eName "_law_j")) (eVal (.int 96))))) lNil)))
noncomputable def T__law_line_by (ns : List Int) : ST := (sSeq (T__law_line_by_1 ns) (sSeq (T__law_line_by_2 ns) (sSeq (T__law_line_by_3 ns) (sSeq (T__law_line_by_4 ns) (sSeq (T__law_line_by_5 ns) (sSeq (T__law_line_by_6 ns) sNil))))))
theorem b__law_line_by {C : Cx} (G : Gl C Hd.vw) (hz : C.held = none)   : HS C (scopeAt Hd.vw 17) 0 (bodyAt Hd.vw 17) (T__law_line_by C.ns) :=
 (HS.cons (HS1.set (.inr rfl) HE.str (fun _ _ => rfl))
 (HS.cons (HS1.set (.inr rfl) (HE.bin ok_add (HE.cell rfl rfl) HE.str) (fun _ _ => rfl))
 (HS.cons (HS1.ite (HB.cmp ok_lt (HE.bin ok_mod (HE.cell rfl rfl) HE.int) HE.int rfl) (HS.cons (HS1.ret (HE.join HE.str (HL.cons (HE.comp (CompOk.of rfl) (HI.rng G hz rfl (HL.cons (HE.bin ok_mod (HE.cell rfl rfl) HE.int) HL.nil rfl) rfl) (HT.name rfl) HTs.nil (HE.item G (HE.cell rfl rfl) (HE.bin ok_mod (HE.bin ok_add (HE.bin ok_add (HE.cell rfl rfl) (HE.bin ok_mul HE.int (HE.cell rfl rfl))) (HE.name rfl rfl)) HE.int) rfl) (fun _ _ => rfl)) HL.nil rfl) rfl (fun _ => rfl) rfl (by decide)))
 HS.nil) HS.nil)
 (HS.cons (HS1.set (.inl rfl) (HE.bin ok_add HE.int (HE.bin ok_mod (HE.cell rfl rfl) HE.int)) (fun _ _ => rfl))
 (HS.cons (HS1.ite (HB.cmp ok_eq0 (HE.bin ok_mod (HE.bin ok_div (HE.cell rfl rfl) HE.int) HE.int) HE.int rfl) (HS.cons (HS1.set (.inl rfl) (HE.bin ok_add HE.int (HE.bin ok_mod (HE.bin ok_div (HE.cell rfl rfl) HE.int) HE.int)) (fun _ _ => rfl))
 HS.nil) HS.nil)
 (HS.cons (HS1.ret (HE.join HE.str (HL.cons (HE.comp (CompOk.of rfl) (HI.rng G hz rfl (HL.cons (HE.name rfl rfl) HL.nil rfl) rfl) (HT.name rfl) HTs.nil (HE.item G (HE.cell rfl rfl) (HE.bin ok_mod (HE.bin ok_add (HE.bin ok_add (HE.cell rfl rfl) (HE.bin ok_mul HE.int (HE.cell rfl rfl))) (HE.name rfl rfl)) HE.int) rfl) (fun _ _ => rfl)) HL.nil rfl) rfl (fun _ => rfl) rfl (by decide)))
 HS.nil))))))
theorem f__law_line_by {C : Cx} (G : Gl C Hd.vw) (hz : C.held = none)   (hspec : ∀ vs σ Q, sp__law_line_by C.ns vs σ Q → vs.length = 2 ∧ T__law_line_by C.ns (bindM ["_law_k", "_law_shift"] vs none') σ (fin Q)) : FnAt C 0 "_law_line_by" (sp__law_line_by C.ns) :=
 FnAt.mk (xs := ["_law_k", "_law_shift"]) G 10 17 rfl rfl rfl rfl rfl (fun ws pm code doc h => by
  obtain ⟨w0, w1, rfl⟩ := len2 h
  rfl) rfl (b__law_line_by G hz  ) hspec
noncomputable def T__law_is_free_1 (ns : List Int) : ST :=
 (sFor (.name "_law_other") (iOf ns (eName "_law_tree")) (sSeq (sIf (tOr (tBool (eMeth tyStr spStarts (eName "_law_other") (lCons (eBin opAdd (eName "_law_path") (eVal (.str (Str.ofString "/")))) lNil))) (tOr (tBool (eMeth tyStr spStarts (eName "_law_path") (lCons (eBin opAdd (eName "_law_other") (eVal (.str (Str.ofString "/")))) lNil))) tF)) (sSeq (sRet (eVal (.bool false)))
 sNil) sNil)
 sNil))
noncomputable def T__law_is_free_2 (ns : List Int) : ST :=
 (sRet (eVal (.bool true)))
noncomputable def T__law_is_free (ns : List Int) : ST := (sSeq (T__law_is_free_1 ns) (sSeq (T__law_is_free_2 ns) sNil))
theorem b__law_is_free {C : Cx} (G : Gl C Hd.vw) (hz : C.held = none)   : HS C (scopeAt Hd.vw 18) 0 (bodyAt Hd.vw 18) (T__law_is_free C.ns) :=
 (HS.cons (HS1.for (HT.name rfl) (HI.of G.ok hz (HE.name rfl rfl)) (HS.cons (HS1.ite (HB.boolOp (HBs.or (HB.val (HE.starts (HE.name rfl rfl) (HL.cons (HE.bin ok_add (HE.name rfl rfl) HE.str) HL.nil rfl) rfl (fun _ => rfl) rfl (by decide)) (fun _ _ => rfl)) (HBs.or (HB.val (HE.starts (HE.name rfl rfl) (HL.cons (HE.bin ok_add (HE.name rfl rfl) HE.str) HL.nil rfl) rfl (fun _ => rfl) rfl (by decide)) (fun _ _ => rfl)) HBs.orNil))) (HS.cons (HS1.ret HE.bool)
 HS.nil) HS.nil)
 HS.nil) (fun _ _ => rfl))
 (HS.cons (HS1.ret HE.bool)
 HS.nil))
theorem f__law_is_free {C : Cx} (G : Gl C Hd.vw) (hz : C.held = none)   (hspec : ∀ vs σ Q, sp__law_is_free C.ns vs σ Q → vs.length = 2 ∧ T__law_is_free C.ns (bindM ["_law_tree", "_law_path"] vs none') σ (fin Q)) : FnAt C 0 "_law_is_free" (sp__law_is_free C.ns) :=
 FnAt.mk (xs := ["_law_tree", "_law_path"]) G 11 18 rfl rfl rfl rfl rfl (fun ws pm code doc h => by
  obtain ⟨w0, w1, rfl⟩ := len2 h
  rfl) rfl (b__law_is_free G hz  ) hspec
noncomputable def T__law_grown_1 (ns : List Int) : ST :=
 (sSet "_law_made" (eCall spDictC (lCons (eName "_law_tree") lNil)))
noncomputable def T__law_grown_2 (ns : List Int) : ST :=
 (sSet "_law_path" (eCall (sp__law_path_by ns) (lCons (eName "_law_cell") (lCons (eName "_law_shift") lNil))))
noncomputable def T__law_grown_3 (ns : List Int) : ST :=
 (sIf (tAnd (tBool (eBin opInD (eName "_law_path") (eName "_law_made"))) (tAnd (tBool (eBin opEq0 (eBin opMod (eBin opDiv (eName "_law_cell") (eVal (.int 135))) (eVal (.int 3))) (eVal (.int 0)))) tT)) (sSeq (sExpr (eMeth tyDict spPop (eName "_law_made") (lCons (eName "_law_path") lNil)))
 sNil) (sSeq (sIf (tBool (eCall (sp__law_is_free ns) (lCons (eName "_law_made") (lCons (eName "_law_path") lNil)))) (sSeq (sSetItem setD (eCall (sp__law_line_by ns) (lCons (eBin opDiv (eName "_law_cell") (eVal (.int 405))) (lCons (eName "_law_shift") lNil))) (eName "_law_made") (eName "_law_path"))
 sNil) sNil)
 sNil))
noncomputable def T__law_grown_4 (ns : List Int) : ST :=
 (sRet (eName "_law_made"))
noncomputable def T__law_grown (ns : List Int) : ST := (sSeq (T__law_grown_1 ns) (sSeq (T__law_grown_2 ns) (sSeq (T__law_grown_3 ns) (sSeq (T__law_grown_4 ns) sNil))))
theorem b__law_grown {C : Cx} (G : Gl C Hd.vw) (hz : C.held = none)  (h__law_path_by : FnAt C 2 "_law_path_by" (sp__law_path_by C.ns)) (h__law_is_free : FnAt C 0 "_law_is_free" (sp__law_is_free C.ns)) (h__law_line_by : FnAt C 0 "_law_line_by" (sp__law_line_by C.ns)) : HS C (scopeAt Hd.vw 19) 3 (bodyAt Hd.vw 19) (T__law_grown C.ns) :=
 (HS.cons (HS1.set (.inl rfl) (HE.dictC G rfl (HL.cons (HE.name rfl rfl) HL.nil rfl) rfl) (fun _ _ => rfl))
 (HS.cons (HS1.set (.inl rfl) (HE.callAt G h__law_path_by (by decide) rfl rfl (HL.cons (HE.name rfl rfl) (HL.cons (HE.name rfl rfl) HL.nil rfl) rfl) rfl) (fun _ _ => rfl))
 (HS.cons (HS1.ite (HB.boolOp (HBs.and (HB.cmp (ok_inD G.ok) (HE.name rfl rfl) (HE.name rfl rfl) rfl) (HBs.and (HB.cmp ok_eq0 (HE.bin ok_mod (HE.bin ok_div (HE.name rfl rfl) HE.int) HE.int) HE.int rfl) HBs.andNil))) (HS.cons (HS1.expr (HE.popD (HE.name rfl rfl) (HL.cons (HE.name rfl rfl) HL.nil rfl) rfl (fun _ => rfl) rfl (by decide)) (fun _ _ => rfl))
 HS.nil) (HS.cons (HS1.ite (HB.val (HE.callAt G h__law_is_free (by decide) rfl rfl (HL.cons (HE.name rfl rfl) (HL.cons (HE.name rfl rfl) HL.nil rfl) rfl) rfl) (fun _ _ => rfl)) (HS.cons (HS1.setItem ok_setD (HE.callAt G h__law_line_by (by decide) rfl rfl (HL.cons (HE.bin ok_div (HE.name rfl rfl) HE.int) (HL.cons (HE.name rfl rfl) HL.nil rfl) rfl) rfl) (HE.name rfl rfl) (HE.name rfl rfl) (fun _ _ => rfl))
 HS.nil) HS.nil)
 HS.nil))
 (HS.cons (HS1.ret (HE.name rfl rfl))
 HS.nil))))
theorem f__law_grown {C : Cx} (G : Gl C Hd.vw) (hz : C.held = none)  (h__law_path_by : FnAt C 2 "_law_path_by" (sp__law_path_by C.ns)) (h__law_is_free : FnAt C 0 "_law_is_free" (sp__law_is_free C.ns)) (h__law_line_by : FnAt C 0 "_law_line_by" (sp__law_line_by C.ns)) (hspec : ∀ vs σ Q, sp__law_grown C.ns vs σ Q → vs.length = 3 ∧ T__law_grown C.ns (bindM ["_law_tree", "_law_cell", "_law_shift"] vs none') σ (fin Q)) : FnAt C 3 "_law_grown" (sp__law_grown C.ns) :=
 FnAt.mk (xs := ["_law_tree", "_law_cell", "_law_shift"]) G 12 19 rfl rfl rfl rfl rfl (fun ws pm code doc h => by
  obtain ⟨w0, w1, w2, rfl⟩ := len3 h
  rfl) rfl (b__law_grown G hz  h__law_path_by h__law_is_free h__law_line_by) hspec
noncomputable def T__law_word_of_1 (ns : List Int) : ST :=
 (sSet "_law_made" (eCall spDictC (lCons (eName "_law_tree") lNil)))
noncomputable def T__law_word_of_2 (ns : List Int) : ST :=
 (sFor (.name "_law_deed") (iOf ns (eName "_law_deeds")) (sSeq (sIf (tBool (eBin opInL (eBin (opItem ns) (eName "_law_deed") (eVal (.int 1))) (eList (lCons (eVal (.str (Str.ofString ""))) (lCons (eVal (.str (Str.ofString "a/../b"))) (lCons (eVal (.str (Str.ofString "a b"))) lNil)))))) (sSeq (sRet (eVal (.str (Str.ofString "NoPath"))))
 sNil) sNil)
 (sSeq (sIf (tAnd (tBool (eBin opEq0 (eBin (opItem ns) (eName "_law_deed") (eVal (.int 0))) (eVal (.str (Str.ofString "cut"))))) (tAnd (tBool (eBin opNotInD (eBin (opItem ns) (eName "_law_deed") (eVal (.int 1))) (eName "_law_made"))) tT)) (sSeq (sRet (eVal (.str (Str.ofString "NoFile"))))
 sNil) sNil)
 (sSeq (sIf (tBool (eBin opEq0 (eBin (opItem ns) (eName "_law_deed") (eVal (.int 0))) (eVal (.str (Str.ofString "cut"))))) (sSeq (sExpr (eMeth tyDict spPop (eName "_law_made") (lCons (eBin (opItem ns) (eName "_law_deed") (eVal (.int 1))) lNil)))
 sNil) (sSeq (sIf (tNot (tBool (eCall (sp__law_is_free ns) (lCons (eName "_law_made") (lCons (eBin (opItem ns) (eName "_law_deed") (eVal (.int 1))) lNil))))) (sSeq (sRet (eVal (.str (Str.ofString "InTheWay"))))
 sNil) (sSeq (sSetItem setD (eBin (opItem ns) (eName "_law_deed") (eVal (.int 2))) (eName "_law_made") (eBin (opItem ns) (eName "_law_deed") (eVal (.int 1))))
 sNil))
 sNil))
 sNil))))
noncomputable def T__law_word_of_3 (ns : List Int) : ST :=
 (sRet (eName "_law_made"))
noncomputable def T__law_word_of (ns : List Int) : ST := (sSeq (T__law_word_of_1 ns) (sSeq (T__law_word_of_2 ns) (sSeq (T__law_word_of_3 ns) sNil)))
theorem b__law_word_of {C : Cx} (G : Gl C Hd.vw) (hz : C.held = none)  (h__law_is_free : FnAt C 0 "_law_is_free" (sp__law_is_free C.ns)) : HS C (scopeAt Hd.vw 20) 1 (bodyAt Hd.vw 20) (T__law_word_of C.ns) :=
 (HS.cons (HS1.set (.inl rfl) (HE.dictC G rfl (HL.cons (HE.name rfl rfl) HL.nil rfl) rfl) (fun _ _ => rfl))
 (HS.cons (HS1.for (HT.name rfl) (HI.of G.ok hz (HE.name rfl rfl)) (HS.cons (HS1.ite (HB.cmp ok_inL (HE.item G (HE.name rfl rfl) HE.int rfl) (HE.list (HL.cons HE.str (HL.cons HE.str (HL.cons HE.str HL.nil rfl) rfl) rfl)) rfl) (HS.cons (HS1.ret HE.str)
 HS.nil) HS.nil)
 (HS.cons (HS1.ite (HB.boolOp (HBs.and (HB.cmp ok_eq0 (HE.item G (HE.name rfl rfl) HE.int rfl) HE.str rfl) (HBs.and (HB.cmp (ok_notInD G.ok) (HE.item G (HE.name rfl rfl) HE.int rfl) (HE.name rfl rfl) rfl) HBs.andNil))) (HS.cons (HS1.ret HE.str)
 HS.nil) HS.nil)
 (HS.cons (HS1.ite (HB.cmp ok_eq0 (HE.item G (HE.name rfl rfl) HE.int rfl) HE.str rfl) (HS.cons (HS1.expr (HE.popD (HE.name rfl rfl) (HL.cons (HE.item G (HE.name rfl rfl) HE.int rfl) HL.nil rfl) rfl (fun _ => rfl) rfl (by decide)) (fun _ _ => rfl))
 HS.nil) (HS.cons (HS1.ite (HB.not (HB.val (HE.callAt G h__law_is_free (by decide) rfl rfl (HL.cons (HE.name rfl rfl) (HL.cons (HE.item G (HE.name rfl rfl) HE.int rfl) HL.nil rfl) rfl) rfl) (fun _ _ => rfl))) (HS.cons (HS1.ret HE.str)
 HS.nil) (HS.cons (HS1.setItem ok_setD (HE.item G (HE.name rfl rfl) HE.int rfl) (HE.name rfl rfl) (HE.item G (HE.name rfl rfl) HE.int rfl) (fun _ _ => rfl))
 HS.nil))
 HS.nil))
 HS.nil))) (fun _ _ => rfl))
 (HS.cons (HS1.ret (HE.name rfl rfl))
 HS.nil)))
theorem f__law_word_of {C : Cx} (G : Gl C Hd.vw) (hz : C.held = none)  (h__law_is_free : FnAt C 0 "_law_is_free" (sp__law_is_free C.ns)) (hspec : ∀ vs σ Q, sp__law_word_of C.ns vs σ Q → vs.length = 2 ∧ T__law_word_of C.ns (bindM ["_law_tree", "_law_deeds"] vs none') σ (fin Q)) : FnAt C 1 "_law_word_of" (sp__law_word_of C.ns) :=
 FnAt.mk (xs := ["_law_tree", "_law_deeds"]) G 13 20 rfl rfl rfl rfl rfl (fun ws pm code doc h => by
  obtain ⟨w0, w1, rfl⟩ := len2 h
  rfl) rfl (b__law_word_of G hz  h__law_is_free) hspec
noncomputable def T__law_is_deed_1 (ns : List Int) : ST :=
 (sIf (tOr (tNot (tBool (eCall spIsi (lCons (eName "_law_deed") (lCons (eVal (.ty "tuple")) lNil))))) (tOr (tBool (eBin opLt (eCall (spLen ns) (lCons (eName "_law_deed") lNil)) (eVal (.int 2)))) (tOr (tBool (eBin opGt (eCall (spLen ns) (lCons (eName "_law_deed") lNil)) (eVal (.int 3)))) tF))) (sSeq (sRet (eVal (.bool false)))
 sNil) sNil)
noncomputable def T__law_is_deed_2 (ns : List Int) : ST :=
 (sRet (eBin opEq0 (eCall (spLen ns) (lCons (eComp [] (.name "_law_part") (iOf ns (eName "_law_deed")) (tNot (tBool (eCall spIsi (lCons (eName "_law_part") (lCons (eVal (.ty "str")) lNil))))) (eName "_law_part")) lNil)) (eVal (.int 0))))
noncomputable def T__law_is_deed (ns : List Int) : ST := (sSeq (T__law_is_deed_1 ns) (sSeq (T__law_is_deed_2 ns) sNil))
theorem b__law_is_deed {C : Cx} (G : Gl C Hd.vw) (hz : C.held = none)   : HS C (scopeAt Hd.vw 21) 0 (bodyAt Hd.vw 21) (T__law_is_deed C.ns) :=
 (HS.cons (HS1.ite (HB.boolOp (HBs.or (HB.not (HB.val (HE.isi G rfl (HL.cons (HE.name rfl rfl) (HL.cons (HE.gTuple G rfl) HL.nil rfl) rfl) rfl) (fun _ _ => rfl))) (HBs.or (HB.cmp ok_lt (HE.len G rfl (HL.cons (HE.name rfl rfl) HL.nil rfl) rfl) HE.int rfl) (HBs.or (HB.cmp ok_gt (HE.len G rfl (HL.cons (HE.name rfl rfl) HL.nil rfl) rfl) HE.int rfl) HBs.orNil)))) (HS.cons (HS1.ret HE.bool)
 HS.nil) HS.nil)
 (HS.cons (HS1.ret (HE.cmp ok_eq0 (HE.len G rfl (HL.cons (HE.comp (CompOk.of rfl) (HI.of G.ok hz (HE.name rfl rfl)) (HT.name rfl) (HTs.one (HB.not (HB.val (HE.isi G rfl (HL.cons (HE.name rfl rfl) (HL.cons (HE.gStr G rfl) HL.nil rfl) rfl) rfl) (fun _ _ => rfl)))) (HE.name rfl rfl) (fun _ _ => rfl)) HL.nil rfl) rfl) HE.int rfl))
 HS.nil))
theorem f__law_is_deed {C : Cx} (G : Gl C Hd.vw) (hz : C.held = none)   (hspec : ∀ vs σ Q, sp__law_is_deed C.ns vs σ Q → vs.length = 1 ∧ T__law_is_deed C.ns (bindM ["_law_deed"] vs none') σ (fin Q)) : FnAt C 0 "_law_is_deed" (sp__law_is_deed C.ns) :=
 FnAt.mk (xs := ["_law_deed"]) G 14 21 rfl rfl rfl rfl rfl (fun ws pm code doc h => by
  obtain ⟨w0, rfl⟩ := len1 h
  rfl) rfl (b__law_is_deed G hz  ) hspec
noncomputable def T__law_told_1 (ns : List Int) (ad : String → Addr) : STX :=
 (xTry "e" csX (xSeq (xRet (xCall (sp_changed ns) (lCons (eName "_law_tree") (lCons (eName "_law_deeds") lNil))))
 (xP sNil)) (fun e c => (xElse c "NoPath" (sSeq (sRet (eBin opMulS (eVal (.str (Str.ofString "NoPath"))) (eCall spInt (lCons (eCall (spIsX e (.ref (ad "RoadError")) (subX c "RoadError")) (lCons (eName "e") (lCons (eVal (.ref (ad "RoadError"))) lNil))) lNil))))
 sNil) (xElse c "NoFile" (sSeq (sRet (eBin opMulS (eVal (.str (Str.ofString "NoFile"))) (eCall spInt (lCons (eCall (spIsX e (.ref (ad "RoadError")) (subX c "RoadError")) (lCons (eName "e") (lCons (eVal (.ref (ad "RoadError"))) lNil))) lNil))))
 sNil) (xElse c "InTheWay" (sSeq (sRet (eBin opMulS (eVal (.str (Str.ofString "InTheWay"))) (eCall spInt (lCons (eCall (spIsX e (.ref (ad "RoadError")) (subX c "RoadError")) (lCons (eName "e") (lCons (eVal (.ref (ad "RoadError"))) lNil))) lNil))))
 sNil) sNil)))))
noncomputable def T__law_told (ns : List Int) (ad : String → Addr) : STX := (xSeq (T__law_told_1 ns ad) (xP sNil))
theorem b__law_told {C : Cx} (G : Gl C Hd.vw) (hz : C.held = none)  {ad : String → Addr} (Tb : XTab C csX ksX ad) (h_changed : FnAtX C 3 "changed" (sp_changed C.ns)) : HSX C (scopeAt Hd.vw 22) 4 (bodyAt Hd.vw 22) (T__law_told C.ns ad) :=
 (HSX.cons (HSX1.tryN G hz Tb (HSX.cons (HSX1.ret (HEX.callAt G h_changed (by decide) rfl rfl (HL.cons (HE.name rfl rfl) (HL.cons (HE.name rfl rfl) HL.nil rfl) rfl) rfl))
 (HSX.plain HS.nil)) rfl (fun c hc => (HHs.pick (by decide) rfl rfl (fun e o vs hez hof hcls hd h2 => (HS.cons (HS1.ret (HE.bin ok_mulS HE.str (HE.intC (G.hold hez hof hd h2) rfl (HL.cons (HE.isK G Tb hc hez hof hcls hd h2 (by decide) rfl rfl rfl rfl rfl) HL.nil rfl) rfl)))
 HS.nil)) (fun f0 => (HHs.pick (by decide) rfl rfl (fun e o vs hez hof hcls hd h2 => (HS.cons (HS1.ret (HE.bin ok_mulS HE.str (HE.intC (G.hold hez hof hd h2) rfl (HL.cons (HE.isK G Tb hc hez hof hcls hd h2 (by decide) rfl rfl rfl rfl rfl) HL.nil rfl) rfl)))
 HS.nil)) (fun f1 => (HHs.pick (by decide) rfl rfl (fun e o vs hez hof hcls hd h2 => (HS.cons (HS1.ret (HE.bin ok_mulS HE.str (HE.intC (G.hold hez hof hd h2) rfl (HL.cons (HE.isK G Tb hc hez hof hcls hd h2 (by decide) rfl rfl rfl rfl rfl) HL.nil rfl) rfl)))
 HS.nil)) (fun f2 => (False.elim (by revert f2 f1 f0 hc c; decide))))))))))
 (HSX.plain HS.nil))
theorem f__law_told {C : Cx} (G : Gl C Hd.vw) (hz : C.held = none)  {ad : String → Addr} (Tb : XTab C csX ksX ad) (h_changed : FnAtX C 3 "changed" (sp_changed C.ns)) (hspec : ∀ vs σ Q X, sp__law_told C.ns vs σ Q X → vs.length = 2 ∧ T__law_told C.ns ad (bindM ["_law_tree", "_law_deeds"] vs none') σ (fin Q) (fun c _ σ' => X c σ')) : FnAtX C 4 "_law_told" (sp__law_told C.ns) :=
 FnAtX.mk (xs := ["_law_tree", "_law_deeds"]) G 15 22 rfl rfl rfl rfl rfl (fun ws pm code doc h => by
  obtain ⟨w0, w1, rfl⟩ := len2 h
  rfl) rfl (b__law_told G hz  Tb h_changed) hspec
noncomputable def T__law_trees_1 (ns : List Int) : ST :=
 (sSet "_law_shift" (eCall (sp__law_cell_at ns) (lCons (eName "_law_script") (lCons (eVal (.int 0)) lNil))))
noncomputable def T__law_trees_2 (ns : List Int) : ST :=
 (sSet "_law_old" eDict0)
noncomputable def T__law_trees_3 (ns : List Int) : ST :=
 (sFor (.name "_law_k") (iRange (lCons (eBin opMod (eCall (sp__law_cell_at ns) (lCons (eName "_law_script") (lCons (eVal (.int 1)) lNil))) (eVal (.int 8))) lNil)) (sSeq (sSet "_law_old" (eCall (sp__law_grown ns) (lCons (eName "_law_old") (lCons (eCall (sp__law_cell_at ns) (lCons (eName "_law_script") (lCons (eBin opAdd (eVal (.int 3)) (eName "_law_k")) lNil))) (lCons (eName "_law_shift") lNil)))))
 sNil))
noncomputable def T__law_trees_4 (ns : List Int) : ST :=
 (sFor (.name "_law_j") (iRange (lCons (eBin (opItem ns) (eList (lCons (eVal (.int 0)) (lCons (eVal (.int 60)) (lCons (eVal (.int 0)) (lCons (eVal (.int 0)) (lCons (eVal (.int 170)) (lCons (eVal (.int 0)) (lCons (eVal (.int 0)) (lCons (eVal (.int 0)) (lCons (eVal (.int 0)) (lCons (eVal (.int 60)) (lCons (eVal (.int 0)) (lCons (eVal (.int 0)) (lCons (eVal (.int 0)) (lCons (eVal (.int 0)) (lCons (eVal (.int 0)) (lCons (eVal (.int 0)) lNil))))))))))))))))) (eBin opMod (eBin opDiv (eCall (sp__law_cell_at ns) (lCons (eName "_law_script") (lCons (eVal (.int 1)) lNil))) (eVal (.int 8))) (eVal (.int 16)))) lNil)) (sSeq (sIf (tBool (eBin opNotInD (eBin opAdd (eVal (.str (Str.ofString "tops"))) (eCall spStr (lCons (eName "_law_j") lNil))) (eName "_law_old"))) (sSeq (sSetItem setD (eCall (sp__law_line_by ns) (lCons (eBin opMod (eName "_law_j") (eVal (.int 3))) (lCons (eName "_law_shift") lNil))) (eName "_law_old") (eBin opAdd (eBin opAdd (eVal (.str (Str.ofString "tops"))) (eCall spStr (lCons (eName "_law_j") lNil))) (eVal (.str (Str.ofString "/x")))))
 sNil) sNil)
 sNil))
noncomputable def T__law_trees_5 (ns : List Int) : ST :=
 (sSet "_law_new" (eCall spDictC (lCons (eName "_law_old") lNil)))
noncomputable def T__law_trees_6 (ns : List Int) : ST :=
 (sIf (tBool (eBin opEq0 (eBin opMod (eCall (sp__law_cell_at ns) (lCons (eName "_law_script") (lCons (eVal (.int 2)) lNil))) (eVal (.int 5))) (eVal (.int 1)))) (sSeq (sSet "_law_new" eDict0)
 sNil) sNil)
noncomputable def T__law_trees_7 (ns : List Int) : ST :=
 (sFor (.name "_law_k") (iRange (lCons (eBin opMod (eBin opDiv (eCall (sp__law_cell_at ns) (lCons (eName "_law_script") (lCons (eVal (.int 2)) lNil))) (eVal (.int 5))) (eVal (.int 7))) lNil)) (sSeq (sSet "_law_new" (eCall (sp__law_grown ns) (lCons (eName "_law_new") (lCons (eCall (sp__law_cell_at ns) (lCons (eName "_law_script") (lCons (eBin opAdd (eVal (.int 11)) (eName "_law_k")) lNil))) (lCons (eName "_law_shift") lNil)))))
 sNil))
noncomputable def T__law_trees_8 (ns : List Int) : ST :=
 (sRet (eTup (lCons (eName "_law_old") (lCons (eName "_law_new") lNil))))
noncomputable def T__law_trees (ns : List Int) : ST := (sSeq (T__law_trees_1 ns) (sSeq (T__law_trees_2 ns) (sSeq (T__law_trees_3 ns) (sSeq (T__law_trees_4 ns) (sSeq (T__law_trees_5 ns) (sSeq (T__law_trees_6 ns) (sSeq (T__law_trees_7 ns) (sSeq (T__law_trees_8 ns) sNil))))))))
theorem b__law_trees {C : Cx} (G : Gl C Hd.vw) (hz : C.held = none)  (h__law_cell_at : FnAt C 0 "_law_cell_at" (sp__law_cell_at C.ns)) (h__law_grown : FnAt C 3 "_law_grown" (sp__law_grown C.ns)) (h__law_line_by : FnAt C 0 "_law_line_by" (sp__law_line_by C.ns)) : HS C (scopeAt Hd.vw 23) 4 (bodyAt Hd.vw 23) (T__law_trees C.ns) :=
 (HS.cons (HS1.set (.inl rfl) (HE.callAt G h__law_cell_at (by decide) rfl rfl (HL.cons (HE.name rfl rfl) (HL.cons HE.int HL.nil rfl) rfl) rfl) (fun _ _ => rfl))
 (HS.cons (HS1.set (.inl rfl) HE.dict0 (fun _ _ => rfl))
 (HS.cons (HS1.for (HT.name rfl) (HI.rng G hz rfl (HL.cons (HE.bin ok_mod (HE.callAt G h__law_cell_at (by decide) rfl rfl (HL.cons (HE.name rfl rfl) (HL.cons HE.int HL.nil rfl) rfl) rfl) HE.int) HL.nil rfl) rfl) (HS.cons (HS1.set (.inl rfl) (HE.callAt G h__law_grown (by decide) rfl rfl (HL.cons (HE.name rfl rfl) (HL.cons (HE.callAt G h__law_cell_at (by decide) rfl rfl (HL.cons (HE.name rfl rfl) (HL.cons (HE.bin ok_add HE.int (HE.name rfl rfl)) HL.nil rfl) rfl) rfl) (HL.cons (HE.name rfl rfl) HL.nil rfl) rfl) rfl) rfl) (fun _ _ => rfl))
 HS.nil) (fun _ _ => rfl))
 (HS.cons (HS1.for (HT.name rfl) (HI.rng G hz rfl (HL.cons (HE.item G (HE.list (HL.cons HE.int (HL.cons HE.int (HL.cons HE.int (HL.cons HE.int (HL.cons HE.int (HL.cons HE.int (HL.cons HE.int (HL.cons HE.int (HL.cons HE.int (HL.cons HE.int (HL.cons HE.int (HL.cons HE.int (HL.cons HE.int (HL.cons HE.int (HL.cons HE.int (HL.cons HE.int HL.nil rfl) rfl) rfl) rfl) rfl) rfl) rfl) rfl) rfl) rfl) rfl) rfl) rfl) rfl) rfl) rfl)) (HE.bin ok_mod (HE.bin ok_div (HE.callAt G h__law_cell_at (by decide) rfl rfl (HL.cons (HE.name rfl rfl) (HL.cons HE.int HL.nil rfl) rfl) rfl) HE.int) HE.int) rfl) HL.nil rfl) rfl) (HS.cons (HS1.ite (HB.cmp (ok_notInD G.ok) (HE.bin ok_add HE.str (HE.strC G rfl (HL.cons (HE.name rfl rfl) HL.nil rfl) rfl)) (HE.name rfl rfl) rfl) (HS.cons (HS1.setItem ok_setD (HE.callAt G h__law_line_by (by decide) rfl rfl (HL.cons (HE.bin ok_mod (HE.name rfl rfl) HE.int) (HL.cons (HE.name rfl rfl) HL.nil rfl) rfl) rfl) (HE.name rfl rfl) (HE.bin ok_add (HE.bin ok_add HE.str (HE.strC G rfl (HL.cons (HE.name rfl rfl) HL.nil rfl) rfl)) HE.str) (fun _ _ => rfl))
 HS.nil) HS.nil)
 HS.nil) (fun _ _ => rfl))
 (HS.cons (HS1.set (.inl rfl) (HE.dictC G rfl (HL.cons (HE.name rfl rfl) HL.nil rfl) rfl) (fun _ _ => rfl))
 (HS.cons (HS1.ite (HB.cmp ok_eq0 (HE.bin ok_mod (HE.callAt G h__law_cell_at (by decide) rfl rfl (HL.cons (HE.name rfl rfl) (HL.cons HE.int HL.nil rfl) rfl) rfl) HE.int) HE.int rfl) (HS.cons (HS1.set (.inl rfl) HE.dict0 (fun _ _ => rfl))
 HS.nil) HS.nil)
 (HS.cons (HS1.for (HT.name rfl) (HI.rng G hz rfl (HL.cons (HE.bin ok_mod (HE.bin ok_div (HE.callAt G h__law_cell_at (by decide) rfl rfl (HL.cons (HE.name rfl rfl) (HL.cons HE.int HL.nil rfl) rfl) rfl) HE.int) HE.int) HL.nil rfl) rfl) (HS.cons (HS1.set (.inl rfl) (HE.callAt G h__law_grown (by decide) rfl rfl (HL.cons (HE.name rfl rfl) (HL.cons (HE.callAt G h__law_cell_at (by decide) rfl rfl (HL.cons (HE.name rfl rfl) (HL.cons (HE.bin ok_add HE.int (HE.name rfl rfl)) HL.nil rfl) rfl) rfl) (HL.cons (HE.name rfl rfl) HL.nil rfl) rfl) rfl) rfl) (fun _ _ => rfl))
 HS.nil) (fun _ _ => rfl))
 (HS.cons (HS1.ret (HE.tup (HL.cons (HE.name rfl rfl) (HL.cons (HE.name rfl rfl) HL.nil rfl) rfl)))
 HS.nil))))))))
theorem f__law_trees {C : Cx} (G : Gl C Hd.vw) (hz : C.held = none)  (h__law_cell_at : FnAt C 0 "_law_cell_at" (sp__law_cell_at C.ns)) (h__law_grown : FnAt C 3 "_law_grown" (sp__law_grown C.ns)) (h__law_line_by : FnAt C 0 "_law_line_by" (sp__law_line_by C.ns)) (hspec : ∀ vs σ Q, sp__law_trees C.ns vs σ Q → vs.length = 1 ∧ T__law_trees C.ns (bindM ["_law_script"] vs none') σ (fin Q)) : FnAt C 4 "_law_trees" (sp__law_trees C.ns) :=
 FnAt.mk (xs := ["_law_script"]) G 16 23 rfl rfl rfl rfl rfl (fun ws pm code doc h => by
  obtain ⟨w0, rfl⟩ := len1 h
  rfl) rfl (b__law_trees G hz  h__law_cell_at h__law_grown h__law_line_by) hspec
noncomputable def T__law_odd_deed_1 (ns : List Int) : ST :=
 (sSet "_law_paths" (eBin opAdd (eCall spSorted (lCons (eName "_law_new") lNil)) (eList (lCons (eVal (.str (Str.ofString "b/b"))) lNil))))
noncomputable def T__law_odd_deed_2 (ns : List Int) : ST :=
 (sSet "_law_near" (eBin (opItem ns) (eName "_law_paths") (eBin opMod (eBin opDiv (eName "_law_cell") (eVal (.int 6))) (eCall (spLen ns) (lCons (eName "_law_paths") lNil)))))
noncomputable def T__law_odd_deed_3 (ns : List Int) : ST :=
 (sSet "_law_some" (eList (lCons (eTup (lCons (eVal (.str (Str.ofString "cut"))) (lCons (eVal (.str (Str.ofString "a/../b"))) lNil))) (lCons (eTup (lCons (eVal (.str (Str.ofString "put"))) (lCons (eVal (.str (Str.ofString ""))) (lCons (eVal (.str (Str.ofString "x"))) lNil)))) (lCons (eTup (lCons (eVal (.str (Str.ofString "cut"))) (lCons (eVal (.str (Str.ofString "gone/gone/gone/gone/gone/gone/gone/gone"))) lNil))) (lCons (eTup (lCons (eVal (.str (Str.ofString "put"))) (lCons (eVal (.str (Str.ofString "a b"))) (lCons (eVal (.str (Str.ofString ""))) lNil)))) lNil))))))
noncomputable def T__law_odd_deed_4 (ns : List Int) : ST :=
 (sRet (eBin (opItem ns) (eBin opAdd (eName "_law_some") (eList (lCons (eTup (lCons (eVal (.str (Str.ofString "put"))) (lCons (eBin opAdd (eName "_law_near") (eVal (.str (Str.ofString "/q")))) (lCons (eVal (.str (Str.ofString "x"))) lNil)))) (lCons (eTup (lCons (eVal (.str (Str.ofString "put"))) (lCons (eBin (opItem ns) (eMeth tyStr spSplit (eName "_law_near") (lCons (eVal (.str (Str.ofString "/"))) lNil)) (eVal (.int 0))) (lCons (eVal (.str (Str.ofString "y"))) lNil)))) lNil)))) (eBin opMod (eName "_law_cell") (eVal (.int 6)))))
noncomputable def T__law_odd_deed (ns : List Int) : ST := (sSeq (T__law_odd_deed_1 ns) (sSeq (T__law_odd_deed_2 ns) (sSeq (T__law_odd_deed_3 ns) (sSeq (T__law_odd_deed_4 ns) sNil))))
theorem b__law_odd_deed {C : Cx} (G : Gl C Hd.vw) (hz : C.held = none)   : HS C (scopeAt Hd.vw 24) 0 (bodyAt Hd.vw 24) (T__law_odd_deed C.ns) :=
 (HS.cons (HS1.set (.inl rfl) (HE.bin ok_add (HE.sortedC G hz rfl (HL.cons (HE.name rfl rfl) HL.nil rfl) rfl) (HE.list (HL.cons HE.str HL.nil rfl))) (fun _ _ => rfl))
 (HS.cons (HS1.set (.inl rfl) (HE.item G (HE.name rfl rfl) (HE.bin ok_mod (HE.bin ok_div (HE.name rfl rfl) HE.int) (HE.len G rfl (HL.cons (HE.name rfl rfl) HL.nil rfl) rfl)) rfl) (fun _ _ => rfl))
 (HS.cons (HS1.set (.inl rfl) (HE.list (HL.cons (HE.tup (HL.cons HE.str (HL.cons HE.str HL.nil rfl) rfl)) (HL.cons (HE.tup (HL.cons HE.str (HL.cons HE.str (HL.cons HE.str HL.nil rfl) rfl) rfl)) (HL.cons (HE.tup (HL.cons HE.str (HL.cons HE.str HL.nil rfl) rfl)) (HL.cons (HE.tup (HL.cons HE.str (HL.cons HE.str (HL.cons HE.str HL.nil rfl) rfl) rfl)) HL.nil rfl) rfl) rfl) rfl)) (fun _ _ => rfl))
 (HS.cons (HS1.ret (HE.item G (HE.bin ok_add (HE.name rfl rfl) (HE.list (HL.cons (HE.tup (HL.cons HE.str (HL.cons (HE.bin ok_add (HE.name rfl rfl) HE.str) (HL.cons HE.str HL.nil rfl) rfl) rfl)) (HL.cons (HE.tup (HL.cons HE.str (HL.cons (HE.item G (HE.split (HE.name rfl rfl) (HL.cons HE.str HL.nil rfl) rfl (fun _ => rfl) rfl (by decide)) HE.int rfl) (HL.cons HE.str HL.nil rfl) rfl) rfl)) HL.nil rfl) rfl))) (HE.bin ok_mod (HE.name rfl rfl) HE.int) rfl))
 HS.nil))))
theorem f__law_odd_deed {C : Cx} (G : Gl C Hd.vw) (hz : C.held = none)   (hspec : ∀ vs σ Q, sp__law_odd_deed C.ns vs σ Q → vs.length = 2 ∧ T__law_odd_deed C.ns (bindM ["_law_cell", "_law_new"] vs none') σ (fin Q)) : FnAt C 0 "_law_odd_deed" (sp__law_odd_deed C.ns) :=
 FnAt.mk (xs := ["_law_cell", "_law_new"]) G 17 24 rfl rfl rfl rfl rfl (fun ws pm code doc h => by
  obtain ⟨w0, w1, rfl⟩ := len2 h
  rfl) rfl (b__law_odd_deed G hz  ) hspec
noncomputable def T_law_1 (ns : List Int) : STX :=
 (xP (sSetT (.tup ["_law_old", "_law_new"]) (eCall (sp__law_trees ns) (lCons (eName "_law_script") lNil))))
noncomputable def T_law_2 (ns : List Int) : STX :=
 (xP (sSet "_law_kept" (eTup (lCons (eCall spDictC (lCons (eName "_law_old") lNil)) (lCons (eCall spDictC (lCons (eName "_law_new") lNil)) lNil)))))
noncomputable def T_law_3 (ns : List Int) : STX :=
 (xP (sSet "_law_due" (eComp ["_law_new"] (.name "_law_path") (iOf ns (eCall spSorted (lCons (eName "_law_old") lNil))) (tBool (eBin opNotInD (eName "_law_path") (eName "_law_new"))) (eTup (lCons (eVal (.str (Str.ofString "cut"))) (lCons (eName "_law_path") lNil))))))
noncomputable def T_law_4 (ns : List Int) : STX :=
 (xP (sSet "_law_due" (eBin opAdd (eName "_law_due") (eComp ["_law_old", "_law_new"] (.name "_law_path") (iOf ns (eCall spSorted (lCons (eName "_law_new") lNil))) (tOr (tBool (eBin opNotInD (eName "_law_path") (eName "_law_old"))) (tOr (tBool (eBin opNe0 (eBin opItemD (eName "_law_old") (eName "_law_path")) (eBin opItemD (eName "_law_new") (eName "_law_path")))) tF)) (eTup (lCons (eVal (.str (Str.ofString "put"))) (lCons (eName "_law_path") (lCons (eBin opItemD (eName "_law_new") (eName "_law_path")) lNil))))))))
noncomputable def T_law_5 (ns : List Int) : STX :=
 (xP (sSet "_law_found" (eCall (sp_between ns) (lCons (eName "_law_old") (lCons (eName "_law_new") lNil)))))
noncomputable def T_law_6 (ns : List Int) : STX :=
 (xP (sIf (tOr (tNot (tBool (eCall spIsi (lCons (eName "_law_found") (lCons (eVal (.ty "list")) lNil))))) (tOr (tBool (eBin opGt (eCall (spLen ns) (lCons (eComp [] (.name "_law_deed") (iOf ns (eName "_law_found")) (tNot (tBool (eCall (sp__law_is_deed ns) (lCons (eName "_law_deed") lNil)))) (eName "_law_deed")) lNil)) (eVal (.int 0)))) (tOr (tBool (eBin opNe (eName "_law_found") (eName "_law_due"))) tF))) (sSeq (sRet (eVal (.bool false)))
 sNil) sNil))
noncomputable def T_law_7 (ns : List Int) : STX :=
 (xP (sSet "_law_handed" (eCall spListD (lCons (eName "_law_found") lNil))))
noncomputable def T_law_8 (ns : List Int) : STX :=
 (xSet "_law_made" (xCall (sp_changed ns) (lCons (eName "_law_old") (lCons (eName "_law_handed") lNil))))
noncomputable def T_law_9 (ns : List Int) : STX :=
 (xSet "_law_same" (xCall (sp_changed ns) (lCons (eName "_law_new") (lCons (eList lNil) lNil))))
noncomputable def T_law_10 (ns : List Int) : STX :=
 (xP (sIf (tOr (tNot (tBool (eCall spIsi (lCons (eName "_law_made") (lCons (eVal (.ty "dict")) lNil))))) (tOr (tBool (eBin opNe (eName "_law_made") (eName "_law_new"))) (tOr (tNot (tBool (eCall spIsi (lCons (eName "_law_same") (lCons (eVal (.ty "dict")) lNil))))) (tOr (tBool (eBin opNe (eName "_law_same") (eName "_law_new"))) (tOr (tBool (eBin opNe (eName "_law_handed") (eName "_law_due"))) tF))))) (sSeq (sRet (eVal (.bool false)))
 sNil) sNil))
noncomputable def T_law_11 (ns : List Int) : STX :=
 (xP (sSetItem setD (eVal (.str (Str.ofString "y"))) (eName "_law_same") (eVal (.str (Str.ofString "x")))))
noncomputable def T_law_12 (ns : List Int) : STX :=
 (xP (sExpr (eMeth tyList spClear (eName "_law_found") lNil)))
noncomputable def T_law_13 (ns : List Int) : STX :=
 (xP (sIf (tOr (tBool (eBin opNe (eTup (lCons (eName "_law_old") (lCons (eName "_law_new") lNil))) (eName "_law_kept"))) (tOr (tBool (eBin opNe (eCall (sp__law_word_of ns) (lCons (eName "_law_old") (lCons (eName "_law_due") lNil))) (eName "_law_new"))) (tOr (tBool (eBin opNe (eCall (sp_between ns) (lCons (eName "_law_old") (lCons (eName "_law_new") lNil))) (eName "_law_due"))) tF))) (sSeq (sRet (eVal (.bool false)))
 sNil) sNil))
noncomputable def T_law_14 (ns : List Int) : STX :=
 (xP (sSet "_law_at" (eBin opMod (eBin opDiv (eCall (sp__law_cell_at ns) (lCons (eName "_law_script") (lCons (eVal (.int 18)) lNil))) (eVal (.int 6))) (eBin opAdd (eCall (spLen ns) (lCons (eName "_law_due") lNil)) (eVal (.int 1))))))
noncomputable def T_law_15 (ns : List Int) : STX :=
 (xP (sSet "_law_to" (eBin opAdd (eName "_law_at") (eBin opMod (eBin opDiv (eCall (sp__law_cell_at ns) (lCons (eName "_law_script") (lCons (eVal (.int 19)) lNil))) (eVal (.int 6))) (eBin opSub (eBin opAdd (eCall (spLen ns) (lCons (eName "_law_due") lNil)) (eVal (.int 1))) (eName "_law_at"))))))
noncomputable def T_law_16 (ns : List Int) : STX :=
 (xP (sSet "_law_ones" (eBin opAdd (eBin opAdd (eCut ns (eName "_law_due") pNone (pSome (eName "_law_at"))) (eList (lCons (eCall (sp__law_odd_deed ns) (lCons (eBin opAdd (eCall (sp__law_cell_at ns) (lCons (eName "_law_script") (lCons (eVal (.int 18)) lNil))) (eBin opDiv (eCall (sp__law_cell_at ns) (lCons (eName "_law_script") (lCons (eVal (.int 20)) lNil))) (eVal (.int 6)))) (lCons (eName "_law_new") lNil))) lNil))) (eCut ns (eName "_law_due") (pSome (eName "_law_at")) (pSome (eName "_law_to"))))))
noncomputable def T_law_17 (ns : List Int) : STX :=
 (xP (sSet "_law_row" (eBin opAdd (eBin opAdd (eName "_law_ones") (eList (lCons (eCall (sp__law_odd_deed ns) (lCons (eBin opAdd (eCall (sp__law_cell_at ns) (lCons (eName "_law_script") (lCons (eVal (.int 19)) lNil))) (eCall (sp__law_cell_at ns) (lCons (eName "_law_script") (lCons (eVal (.int 20)) lNil)))) (lCons (eName "_law_new") lNil))) lNil))) (eCut ns (eName "_law_due") (pSome (eName "_law_to")) pNone))))
noncomputable def T_law_18 (ns : List Int) : STX :=
 (xP (sSet "_law_handed" (eCall spListD (lCons (eName "_law_row") lNil))))
noncomputable def T_law_19 (ns : List Int) : STX :=
 (xSet "_law_word" (xCall (sp__law_told ns) (lCons (eName "_law_old") (lCons (eName "_law_handed") lNil))))
noncomputable def T_law_20 (ns : List Int) : ST :=
 (sRet (eAnd (eBin opEqD (eName "_law_word") (eCall (sp__law_word_of ns) (lCons (eName "_law_old") (lCons (eName "_law_row") lNil)))) (eAnd (eBin opEqD (eName "_law_handed") (eName "_law_row")) (eBin opEqD (eTup (lCons (eName "_law_old") (lCons (eName "_law_new") lNil))) (eName "_law_kept")))))
noncomputable def T_law (ns : List Int) : STX := (xSeq (T_law_1 ns) (xSeq (T_law_2 ns) (xSeq (T_law_3 ns) (xSeq (T_law_4 ns) (xSeq (T_law_5 ns) (xSeq (T_law_6 ns) (xSeq (T_law_7 ns) (xSeq (T_law_8 ns) (xSeq (T_law_9 ns) (xSeq (T_law_10 ns) (xSeq (T_law_11 ns) (xSeq (T_law_12 ns) (xSeq (T_law_13 ns) (xSeq (T_law_14 ns) (xSeq (T_law_15 ns) (xSeq (T_law_16 ns) (xSeq (T_law_17 ns) (xSeq (T_law_18 ns) (xSeq (T_law_19 ns) (xP (sSeq (T_law_20 ns) sNil)))))))))))))))))))))
theorem b_law {C : Cx} (G : Gl C Hd.vw) (hz : C.held = none)  (h__law_trees : FnAt C 4 "_law_trees" (sp__law_trees C.ns)) (h_between : FnAt C 0 "between" (sp_between C.ns)) (h__law_is_deed : FnAt C 0 "_law_is_deed" (sp__law_is_deed C.ns)) (h_changed : FnAtX C 3 "changed" (sp_changed C.ns)) (h__law_word_of : FnAt C 1 "_law_word_of" (sp__law_word_of C.ns)) (h__law_cell_at : FnAt C 0 "_law_cell_at" (sp__law_cell_at C.ns)) (h__law_odd_deed : FnAt C 0 "_law_odd_deed" (sp__law_odd_deed C.ns)) (h__law_told : FnAtX C 4 "_law_told" (sp__law_told C.ns)) : HSX C (scopeAt Hd.vw 25) 5 (bodyAt Hd.vw 25) (T_law C.ns) :=
 (HSX.cons (HSX1.plain (HS1.setT (HT.tupC G.ok (l := [("_law_old", _), ("_law_new", _)]) (by decide)) (HE.callAt G h__law_trees (by decide) rfl rfl (HL.cons (HE.name rfl rfl) HL.nil rfl) rfl) (fun _ _ => rfl) (fun _ _ => rfl)))
 (HSX.cons (HSX1.plain (HS1.set (.inl rfl) (HE.tup (HL.cons (HE.dictC G rfl (HL.cons (HE.cell rfl rfl) HL.nil rfl) rfl) (HL.cons (HE.dictC G rfl (HL.cons (HE.cell rfl rfl) HL.nil rfl) rfl) HL.nil rfl) rfl)) (fun _ _ => rfl)))
 (HSX.cons (HSX1.plain (HS1.setComp (CompOk.of rfl) (HI.of G.ok hz (HE.sortedC G hz rfl (HL.cons (HE.cell rfl rfl) HL.nil rfl) rfl)) (HT.name rfl) (HTs.one (HB.cmp (ok_notInD G.ok) (HE.name rfl rfl) (HE.cell rfl rfl) rfl)) (HE.tup (HL.cons HE.str (HL.cons (HE.name rfl rfl) HL.nil rfl) rfl)) (fun _ _ => rfl) rfl (swaps_local rfl rfl rfl)))
 (HSX.cons (HSX1.plain (HS1.set (.inl rfl) (HE.bin ok_add (HE.name rfl rfl) (HE.comp (CompOk.of rfl) (HI.of G.ok hz (HE.sortedC G hz rfl (HL.cons (HE.cell rfl rfl) HL.nil rfl) rfl)) (HT.name rfl) (HTs.one (HB.boolOp (HBs.or (HB.cmp (ok_notInD G.ok) (HE.name rfl rfl) (HE.cell rfl rfl) rfl) (HBs.or (HB.cmp ok_ne0 (HE.itemD (HE.cell rfl rfl) (HE.name rfl rfl) rfl) (HE.itemD (HE.cell rfl rfl) (HE.name rfl rfl) rfl) rfl) HBs.orNil)))) (HE.tup (HL.cons HE.str (HL.cons (HE.name rfl rfl) (HL.cons (HE.itemD (HE.cell rfl rfl) (HE.name rfl rfl) rfl) HL.nil rfl) rfl) rfl)) (fun _ _ => rfl))) (fun _ _ => rfl)))
 (HSX.cons (HSX1.plain (HS1.set (.inl rfl) (HE.callAt G h_between (by decide) rfl rfl (HL.cons (HE.cell rfl rfl) (HL.cons (HE.cell rfl rfl) HL.nil rfl) rfl) rfl) (fun _ _ => rfl)))
 (HSX.cons (HSX1.plain (HS1.ite (HB.boolOp (HBs.or (HB.not (HB.val (HE.isi G rfl (HL.cons (HE.name rfl rfl) (HL.cons (HE.gList G rfl) HL.nil rfl) rfl) rfl) (fun _ _ => rfl))) (HBs.or (HB.cmp ok_gt (HE.len G rfl (HL.cons (HE.comp (CompOk.of rfl) (HI.of G.ok hz (HE.name rfl rfl)) (HT.name rfl) (HTs.one (HB.not (HB.val (HE.callAt G h__law_is_deed (by decide) rfl rfl (HL.cons (HE.name rfl rfl) HL.nil rfl) rfl) (fun _ _ => rfl)))) (HE.name rfl rfl) (fun _ _ => rfl)) HL.nil rfl) rfl) HE.int rfl) (HBs.or (HB.cmp (ok_neD G.ok) (HE.name rfl rfl) (HE.name rfl rfl) rfl) HBs.orNil)))) (HS.cons (HS1.ret HE.bool)
 HS.nil) HS.nil))
 (HSX.cons (HSX1.plain (HS1.set (.inl rfl) (HE.listC G hz rfl (HL.cons (HE.name rfl rfl) HL.nil rfl) rfl) (fun _ _ => rfl)))
 (HSX.cons (HSX1.set (.inl rfl) (HEX.callAt G h_changed (by decide) rfl rfl (HL.cons (HE.cell rfl rfl) (HL.cons (HE.name rfl rfl) HL.nil rfl) rfl) rfl) (fun _ _ => rfl))
 (HSX.cons (HSX1.set (.inl rfl) (HEX.callAt G h_changed (by decide) rfl rfl (HL.cons (HE.cell rfl rfl) (HL.cons (HE.list HL.nil) HL.nil rfl) rfl) rfl) (fun _ _ => rfl))
 (HSX.cons (HSX1.plain (HS1.ite (HB.boolOp (HBs.or (HB.not (HB.val (HE.isi G rfl (HL.cons (HE.name rfl rfl) (HL.cons (HE.gDict G rfl) HL.nil rfl) rfl) rfl) (fun _ _ => rfl))) (HBs.or (HB.cmp (ok_neD G.ok) (HE.name rfl rfl) (HE.cell rfl rfl) rfl) (HBs.or (HB.not (HB.val (HE.isi G rfl (HL.cons (HE.name rfl rfl) (HL.cons (HE.gDict G rfl) HL.nil rfl) rfl) rfl) (fun _ _ => rfl))) (HBs.or (HB.cmp (ok_neD G.ok) (HE.name rfl rfl) (HE.cell rfl rfl) rfl) (HBs.or (HB.cmp (ok_neD G.ok) (HE.name rfl rfl) (HE.name rfl rfl) rfl) HBs.orNil)))))) (HS.cons (HS1.ret HE.bool)
 HS.nil) HS.nil))
 (HSX.cons (HSX1.plain (HS1.setItem ok_setD HE.str (HE.name rfl rfl) HE.str (fun _ _ => rfl)))
 (HSX.cons (HSX1.plain (HS1.expr (HE.clear (HE.name rfl rfl) HL.nil rfl (fun _ => rfl) rfl (by decide)) (fun _ _ => rfl)))
 (HSX.cons (HSX1.plain (HS1.ite (HB.boolOp (HBs.or (HB.cmp (ok_neD G.ok) (HE.tup (HL.cons (HE.cell rfl rfl) (HL.cons (HE.cell rfl rfl) HL.nil rfl) rfl)) (HE.name rfl rfl) rfl) (HBs.or (HB.cmp (ok_neD G.ok) (HE.callAt G h__law_word_of (by decide) rfl rfl (HL.cons (HE.cell rfl rfl) (HL.cons (HE.name rfl rfl) HL.nil rfl) rfl) rfl) (HE.cell rfl rfl) rfl) (HBs.or (HB.cmp (ok_neD G.ok) (HE.callAt G h_between (by decide) rfl rfl (HL.cons (HE.cell rfl rfl) (HL.cons (HE.cell rfl rfl) HL.nil rfl) rfl) rfl) (HE.name rfl rfl) rfl) HBs.orNil)))) (HS.cons (HS1.ret HE.bool)
 HS.nil) HS.nil))
 (HSX.cons (HSX1.plain (HS1.set (.inl rfl) (HE.bin ok_mod (HE.bin ok_div (HE.callAt G h__law_cell_at (by decide) rfl rfl (HL.cons (HE.name rfl rfl) (HL.cons HE.int HL.nil rfl) rfl) rfl) HE.int) (HE.bin ok_add (HE.len G rfl (HL.cons (HE.name rfl rfl) HL.nil rfl) rfl) HE.int)) (fun _ _ => rfl)))
 (HSX.cons (HSX1.plain (HS1.set (.inl rfl) (HE.bin ok_add (HE.name rfl rfl) (HE.bin ok_mod (HE.bin ok_div (HE.callAt G h__law_cell_at (by decide) rfl rfl (HL.cons (HE.name rfl rfl) (HL.cons HE.int HL.nil rfl) rfl) rfl) HE.int) (HE.bin ok_sub (HE.bin ok_add (HE.len G rfl (HL.cons (HE.name rfl rfl) HL.nil rfl) rfl) HE.int) (HE.name rfl rfl)))) (fun _ _ => rfl)))
 (HSX.cons (HSX1.plain (HS1.set (.inl rfl) (HE.bin ok_add (HE.bin ok_add (HE.cut G.ok (HE.name rfl rfl) HP.none (HP.some (HE.name rfl rfl))) (HE.list (HL.cons (HE.callAt G h__law_odd_deed (by decide) rfl rfl (HL.cons (HE.bin ok_add (HE.callAt G h__law_cell_at (by decide) rfl rfl (HL.cons (HE.name rfl rfl) (HL.cons HE.int HL.nil rfl) rfl) rfl) (HE.bin ok_div (HE.callAt G h__law_cell_at (by decide) rfl rfl (HL.cons (HE.name rfl rfl) (HL.cons HE.int HL.nil rfl) rfl) rfl) HE.int)) (HL.cons (HE.cell rfl rfl) HL.nil rfl) rfl) rfl) HL.nil rfl))) (HE.cut G.ok (HE.name rfl rfl) (HP.some (HE.name rfl rfl)) (HP.some (HE.name rfl rfl)))) (fun _ _ => rfl)))
 (HSX.cons (HSX1.plain (HS1.set (.inl rfl) (HE.bin ok_add (HE.bin ok_add (HE.name rfl rfl) (HE.list (HL.cons (HE.callAt G h__law_odd_deed (by decide) rfl rfl (HL.cons (HE.bin ok_add (HE.callAt G h__law_cell_at (by decide) rfl rfl (HL.cons (HE.name rfl rfl) (HL.cons HE.int HL.nil rfl) rfl) rfl) (HE.callAt G h__law_cell_at (by decide) rfl rfl (HL.cons (HE.name rfl rfl) (HL.cons HE.int HL.nil rfl) rfl) rfl)) (HL.cons (HE.cell rfl rfl) HL.nil rfl) rfl) rfl) HL.nil rfl))) (HE.cut G.ok (HE.name rfl rfl) (HP.some (HE.name rfl rfl)) HP.none)) (fun _ _ => rfl)))
 (HSX.cons (HSX1.plain (HS1.set (.inl rfl) (HE.listC G hz rfl (HL.cons (HE.name rfl rfl) HL.nil rfl) rfl) (fun _ _ => rfl)))
 (HSX.cons (HSX1.set (.inl rfl) (HEX.callAt G h__law_told (by decide) rfl rfl (HL.cons (HE.cell rfl rfl) (HL.cons (HE.name rfl rfl) HL.nil rfl) rfl) rfl) (fun _ _ => rfl))
 (HSX.plain (HS.cons (HS1.ret (HE.boolOp (HVs.and (HE.cmp (ok_eqD G.ok) (HE.name rfl rfl) (HE.callAt G h__law_word_of (by decide) rfl rfl (HL.cons (HE.cell rfl rfl) (HL.cons (HE.name rfl rfl) HL.nil rfl) rfl) rfl) rfl) (HVs.and (HE.cmp (ok_eqD G.ok) (HE.name rfl rfl) (HE.name rfl rfl) rfl) (HVs.one (HE.cmp (ok_eqD G.ok) (HE.tup (HL.cons (HE.cell rfl rfl) (HL.cons (HE.cell rfl rfl) HL.nil rfl) rfl)) (HE.name rfl rfl) rfl))))))
 HS.nil)))))))))))))))))))))
theorem f_law {C : Cx} (G : Gl C Hd.vw) (hz : C.held = none)  (h__law_trees : FnAt C 4 "_law_trees" (sp__law_trees C.ns)) (h_between : FnAt C 0 "between" (sp_between C.ns)) (h__law_is_deed : FnAt C 0 "_law_is_deed" (sp__law_is_deed C.ns)) (h_changed : FnAtX C 3 "changed" (sp_changed C.ns)) (h__law_word_of : FnAt C 1 "_law_word_of" (sp__law_word_of C.ns)) (h__law_cell_at : FnAt C 0 "_law_cell_at" (sp__law_cell_at C.ns)) (h__law_odd_deed : FnAt C 0 "_law_odd_deed" (sp__law_odd_deed C.ns)) (h__law_told : FnAtX C 4 "_law_told" (sp__law_told C.ns)) (hspec : ∀ vs σ Q X, sp_law C.ns vs σ Q X → vs.length = 1 ∧ T_law C.ns (bindM ["_law_script"] vs none') σ (fin Q) (fun c _ σ' => X c σ')) : FnAtX C 5 "law" (sp_law C.ns) :=
 FnAtX.mk (xs := ["_law_script"]) G 18 25 rfl rfl rfl rfl rfl (fun ws pm code doc h => by
  obtain ⟨w0, rfl⟩ := len1 h
  rfl) rfl (b_law G hz  h__law_trees h_between h__law_is_deed h_changed h__law_word_of h__law_cell_at h__law_odd_deed h__law_told) hspec
end Mine
end
noncomputable section
set_option maxRecDepth 10000
namespace Mine
open PySem PySem.W PyProof.Rows PySem.Calls
section
variable {ns : List Int} {σ : View} {Q : V → View → Prop}
@[simp] theorem sp_cell {k : Int} : sp__law_cell_at ns [.script, .int k] σ Q = (0 ≤ k ∧ Q (.int (cell ns k)) σ) := propext ⟨fun ⟨_, e, h, q⟩ => by cases e; exact ⟨h, q⟩, fun h => ⟨_, rfl, h.1, h.2⟩⟩
@[simp] theorem sp_sign {k : Int} : sp__law_sign_by ns [.int k] σ Q = Q (.str (signBy k)) σ := propext ⟨fun ⟨_, e, q⟩ => by cases e; exact q, fun h => ⟨_, rfl, h⟩⟩
@[simp] theorem sp_isp {x : Str} : sp_is_part ns [.str x] σ Q = (x.length ≤ 1000 ∧ Q (.bool (okPart x)) σ) := propext ⟨fun ⟨_, e, h, q⟩ => by cases e; exact ⟨h, q⟩, fun h => ⟨_, rfl, h.1, h.2⟩⟩
@[simp] theorem sp_path {x : Str} : sp_is_path ns [.str x] σ Q = (x.length ≤ 1000 ∧ ∀ σ', Grow σ σ' → Q (.bool (okPath x)) σ') := propext ⟨fun ⟨_, e, h, q⟩ => by cases e; exact ⟨h, q⟩, fun h => ⟨_, rfl, h.1, h.2⟩⟩
@[simp] theorem sp_ben {x y : Str} : sp_is_beneath ns [.str x, .str y] σ Q = (y.length ≤ 1000 ∧ Q (.bool (Txt.startswith x (y ++ Str.ofString "/"))) σ) := propext ⟨fun ⟨_, _, e, h, q⟩ => by cases e; exact ⟨h, q⟩, fun h => ⟨_, _, rfl, h.1, h.2⟩⟩
@[simp] theorem sp_name {c n : Int} : sp__law_name_by ns [.int c, .int n] σ Q = (∀ (x : Str) σ', Grow σ σ' → okPart x = true → Q (.str x) σ') := propext ⟨fun ⟨_, _, e, q⟩ => by cases e; exact q, fun h => ⟨_, _, rfl, h⟩⟩
@[simp] theorem sp_pathby {c n : Int} : sp__law_path_by ns [.int c, .int n] σ Q = (∀ (x : Str) σ', Grow σ σ' → ok7 x → x.length ≤ 200 → Q (.str x) σ') := propext ⟨fun ⟨_, _, e, q⟩ => by cases e; exact q, fun h => ⟨_, _, rfl, h⟩⟩
@[simp] theorem sp_line {c n : Int} : sp__law_line_by ns [.int c, .int n] σ Q = (∀ (x : Str) σ', Grow σ σ' → Q (.str x) σ') := propext ⟨fun ⟨_, _, e, q⟩ => by cases e; exact q, fun h => ⟨_, _, rfl, h⟩⟩
end
theorem s_cell (ns : List Int) : ∀ vs σ Q, sp__law_cell_at ns vs σ Q → vs.length = 2 ∧ T__law_cell_at ns (bindM ["_law_script", "_law_k"] vs none') σ (fin Q) := by
 rintro vs σ Q ⟨k, rfl, hk, q⟩
 refine ⟨rfl, ?_⟩
 simp [T__law_cell_at, T__law_cell_at_1, T__law_cell_at_2, seq_eq]
 split
 ·rename_i h; exact cell_item hk h q
 ·rename_i h; rw [cell_out hk h] at q; exact q
theorem item_mod {x : Str} {k m : Int} {ns : List Int} {σ : View} {Q : V → View → Prop} (hm : (x.length : Int) = m) (h0 : 0 < m) (hz : x.length < 16777217) (q : ∀ y : Str, y.length = 1 → Q (.str y) σ) : opItem ns (.str x) (.int (k % m)) σ Q := by
 have a1 := Int.emod_nonneg k (b := m) (by exact Int.ne_of_gt h0)
 have a2 := Int.emod_lt_of_pos k h0
 generalize k % m = r at a1 a2 ⊢
 have hr : r.toNat < (cl x).length := by rw [← cl_len]; omega
 exact item_str hz a1 (List.getElem?_eq_getElem hr) (q _ rfl)
theorem s_sign (ns : List Int) : ∀ vs σ Q, sp__law_sign_by ns vs σ Q → vs.length = 1 ∧ T__law_sign_by ns (bindM ["_law_k"] vs none') σ (fin Q) := by
 rintro vs σ Q ⟨k, rfl, q⟩
 refine ⟨rfl, ?_⟩
 have h0 : 0 ≤ k % 65 := Int.emod_nonneg _ (by decide)
 have h1 : k % 65 < 65 := Int.emod_lt_of_pos _ (by decide)
 have hl : (cl ALS).length = 65 := by decide +kernel
 simp [T__law_sign_by, T__law_sign_by_1, seq_eq]
 refine item_str (by decide +kernel) h0 (c := (cl ALS).getD (k % 65).toNat 0) ?_ q
 show (cl ALS)[(k % 65).toNat]? = _
 rw [List.getD_eq_getElem?_getD]
 cases e : (cl ALS)[(k % 65).toNat]? with
 | none => rw [List.getElem?_eq_none_iff, hl] at e; omega
 | some n => rfl
theorem signs_get {x : Str} {i : Nat} {v : V} (h : (signs x)[i]? = some v) : ∃ c, (cl x)[i]? = some c ∧ v = .str ⟨#[c]⟩ := by
 unfold signs at h
 rw [List.getElem?_map] at h
 obtain ⟨c, h1, rfl⟩ := Option.map_eq_some_iff.mp h
 exact ⟨c, h1, rfl⟩
theorem signs_len (x : Str) : (signs x).length = (cl x).length := by simp [signs]
theorem all_take_succ {f : Nat → Bool} {l : List Nat} {i : Nat} {c : Nat} (h : (l.take i).all f = true) (hc : l[i]? = some c) (hf : f c = true) : (l.take (i + 1)).all f = true := by
 rw [List.take_add_one, hc, List.all_append, h]; simp [hf]
theorem s_isp (ns : List Int) : ∀ vs σ Q, sp_is_part ns vs σ Q → vs.length = 1 ∧ T_is_part ns (bindM ["text"] vs none') σ (fin Q) := by
 rintro vs σ Q ⟨x, rfl, hx, q⟩
 refine ⟨rfl, ?_⟩
 have loop : (x ≠ Str.ofString "." ∧ x ≠ Str.ofString ".." ∧ 1 ≤ x.length ∧ x.length ≤ 12) → T_is_part_2 ns (put none' "text" (.str x)) σ (kont (sSeq (T_is_part_3 ns) sNil) (fin Q)) := by
  intro hg
  simp [T_is_part_2]
  refine forL_inv (fun i m σ' => σ' = σ ∧ ((cl x).take i).all (fun c => Txt.contains ALS ⟨#[c]⟩) = true) (fun u m σ' => σ' = σ ∧ u = .bool false ∧ okPart x = false) (fun _ _ _ _ => trivial) _ ?_ ?_ ?_ _ _ ⟨rfl, by simp⟩
  ·rintro i v m σ' Q' hv ⟨rfl, h⟩ n1 n2 n3
   obtain ⟨c, hc, rfl⟩ := signs_get hv
   refine ⟨_, rfl, ?_⟩
   simp [seq_eq]
   split
   ·rename_i e; exact n1 _ _ ⟨rfl, all_take_succ h hc e⟩
   ·rename_i e
    refine n3 _ _ _ ⟨rfl, rfl, ?_⟩
    unfold okPart
    rw [Bool.and_eq_false_iff]
    right
    rw [List.all_eq_false]
    exact ⟨c, List.mem_of_getElem? hc, by simpa [ALS] using e⟩
  ·rintro m σ' ⟨rfl, h⟩
   rw [signs_len, List.take_length] at h
   have : okPart x = true := by unfold okPart; rw [Bool.and_eq_true]; exact ⟨decide_eq_true hg, h⟩
   rw [this] at q
   simpa [seq_eq, T_is_part_3] using q
  ·rintro u m σ' ⟨rfl, rfl, h⟩
   rw [h] at q
   simpa using q
 have bad : ¬ (x ≠ Str.ofString "." ∧ x ≠ Str.ofString ".." ∧ 1 ≤ x.length ∧ x.length ≤ 12) → okPart x = false := fun h => by
  unfold okPart; rw [decide_eq_false h]; rfl
 unfold T_is_part
 rw [seq_eq]
 simp [T_is_part_1, seq_eq]
 by_cases h1 : x = Str.ofString "."
 ·rw [bad (by simp [h1])] at q; simpa [h1] using q
 by_cases h2 : x = Str.ofString ".."
 ·rw [bad (by simp [h2])] at q; simpa [h1, h2] using q
 simp [h1, h2]
 refine ⟨by exact Nat.le_trans hx (by decide), ?_⟩
 by_cases h3 : 1 ≤ x.length
 ·by_cases h4 : x.length ≤ 12
  ·have h3' : (1 : Int) ≤ x.length := by exact Int.ofNat_lt.mpr h3
   have h4' : (x.length : Int) ≤ 12 := by exact Int.ofNat_le.mpr h4
   simp [h3', h4']
   exact loop ⟨h1, h2, h3, h4⟩
  ·have h3' : (1 : Int) ≤ x.length := by exact Int.ofNat_lt.mpr h3
   have h4' : ¬ (x.length : Int) ≤ 12 := by omega
   rw [bad (by exact fun hg => lin [(x.length)] [(1, (.a (.n 12) (.n 1)), (.v 0)), (1, (.v 0), (.n 12))] rfl (Nat.lt_of_not_le h4) (((hg).2).2).2)] at q
   simpa [h3', h4', seq_eq] using q
 ·have h3' : ¬ (1 : Int) ≤ x.length := by omega
  rw [bad (by exact fun hg => lin [(x.length)] [(1, (.a (.v 0) (.n 1)), (.n 1)), (1, (.n 1), (.v 0))] rfl (Nat.lt_of_not_le h3) (((hg).2).2).1)] at q
  simpa [h3', seq_eq] using q
theorem part_len {x p : Str} (hp : p ∈ Txt.split x (Str.ofString "/")) : p.length ≤ x.length := by
 have h0 := PyProof.Rows.split_pos x (Str.ofString "/")
 have h := PyProof.Rows.split_weight x (Str.ofString "/") (by rw [sl_len]; exact Nat.le_refl _)
 have : ∀ (l : List Str), p ∈ l → p.length ≤ (l.map (·.length)).sum := by
  intro l
  induction l with
  | nil => intro h; simp at h
  | cons y r ih =>
   intro h
   rcases List.mem_cons.mp h with rfl | h
   ·simp
   ·have := ih h; simp; exact Nat.le_trans this (Nat.le_add_left _ _)
 have := this _ hp
 omega
theorem s_path (ns : List Int) : ∀ vs σ Q, sp_is_path ns vs σ Q → vs.length = 1 ∧ T_is_path ns (bindM ["text"] vs none') σ (fin Q) := by
 rintro vs σ Q ⟨x, rfl, hx, q⟩
 refine ⟨rfl, ?_⟩
 unfold T_is_path
 rw [seq_eq]
 simp [T_is_path_1, sl_len]
 refine ⟨by exact Nat.le_trans hx (by decide), fun a ha => ?_⟩
 replace q := q _ (Grow.refl.upd (o := .list ((Txt.split x (Str.ofString "/")).map .str)) ha)
 have ha' := upd_same σ a (.list ((Txt.split x (Str.ofString "/")).map .str))
 generalize (upd σ a (.list ((Txt.split x (Str.ofString "/")).map .str))) = σ₁ at q ha' ⊢
 show sSeq _ _ _ _ _
 rw [seq_eq]
 simp [T_is_path_2, len_list ha', seq_eq]
 split
 ·rename_i h
  have : okPath x = false := by unfold okPath; rw [decide_eq_false (by omega)]; rfl
  rw [this] at q
  exact q
 ·rename_i h
  simp [T_is_path_3, iter_list ha']
  refine forL_inv (fun i m σ' => σ' = σ₁ ∧ ((Txt.split x (Str.ofString "/")).take i).all okPart = true) (fun u m σ' => σ' = σ₁ ∧ u = .bool false ∧ okPath x = false) (fun i m σ' h => by rw [h.1]; exact ha') _ ?_ ?_ ?_ _ _ ⟨rfl, by simp⟩
  ·rintro i v m σ' Q' hv ⟨rfl, h⟩ n1 n2 n3
   rw [List.getElem?_map] at hv
   obtain ⟨pt, hp, rfl⟩ := Option.map_eq_some_iff.mp hv
   have hl := part_len (List.mem_of_getElem? hp)
   refine ⟨_, rfl, ?_⟩
   simp [seq_eq]
   refine ⟨by exact Nat.le_trans hl hx, ?_⟩
   split
   ·rename_i e
    refine n1 _ _ ⟨rfl, ?_⟩
    rw [List.take_add_one, hp, List.all_append, h]; simp [e]
   ·rename_i e
    refine n3 _ _ _ ⟨rfl, rfl, ?_⟩
    unfold okPath
    rw [Bool.and_eq_false_iff]
    right
    rw [List.all_eq_false]
    exact ⟨pt, List.mem_of_getElem? hp, e⟩
  ·rintro m σ' ⟨rfl, h'⟩
   rw [List.length_map, List.take_length] at h'
   have : okPath x = true := by unfold okPath; rw [h', decide_eq_true (by omega)]; rfl
   rw [this] at q
   simpa [seq_eq, T_is_path_4] using q
  ·rintro u m σ' ⟨rfl, rfl, h⟩
   rw [h] at q
   simpa using q
noncomputable def One (x : Str) : Prop := ∃ c ∈ cl ALS, x = ⟨#[c]⟩
noncomputable def Inn (x : Str) : Prop := ∀ c ∈ cl x, c ∈ cl ALS
theorem als_len : (cl ALS).length = 65 := by decide +kernel
theorem sign_one (k : Int) : One (signBy k) := by
 have h0 : 0 ≤ k % 65 := Int.emod_nonneg _ (by decide)
 have h1 : k % 65 < 65 := Int.emod_lt_of_pos _ (by decide)
 refine ⟨(cl ALS).getD (k % 65).toNat 0, ?_, rfl⟩
 rw [List.getD_eq_getElem?_getD, List.getElem?_eq_getElem (by rw [als_len]; omega)]
 exact List.getElem_mem _
theorem len_append (x y : Str) : (x ++ y).length = x.length + y.length := by rw [cl_len, cl_append, List.length_append, ← cl_len, ← cl_len]
theorem inn_append {x y : Str} (hx : Inn x) (hy : Inn y) : Inn (x ++ y) := fun c hc => by
 rw [cl_append] at hc
 rcases List.mem_append.mp hc with h | h
 ·exact hx c h
 ·exact hy c h
theorem inn_one {x : Str} (h : One x) : Inn x := by
 obtain ⟨c, hc, rfl⟩ := h
 intro d hd
 have : d = c := by simpa [cl] using hd
 rw [this]; exact hc
theorem one_len {x : Str} (h : One x) : x.length = 1 := by obtain ⟨c, _, rfl⟩ := h; rfl
theorem e_len : (Str.ofString "").length = 0 := by decide +kernel
theorem join_ones : ∀ (l : List Str), (∀ y ∈ l, One y) → Inn (Str.join (Str.ofString "") l) ∧ (Str.join (Str.ofString "") l).length = l.length
 | [], _ => ⟨fun c hc => by simp [Str.join, Str.empty] at hc, by simp [Str.join, Str.length, Str.empty]⟩
 | [x], h => ⟨inn_one (h x (.head _)), by simp [Str.join, one_len (h x (.head _))]⟩
 | x :: y :: r, h => by
  obtain ⟨i1, i2⟩ := join_ones (y :: r) fun z hz => h z (.tail _ hz)
  have e : Str.join (Str.ofString "") (x :: y :: r) = x ++ Str.ofString "" ++ Str.join (Str.ofString "") (y :: r) := rfl
  have e0 : Inn (Str.ofString "") := by
   have : cl (Str.ofString "") = [] := by decide +kernel
   intro c hc; rw [this] at hc; simp at hc
  rw [e]
  refine ⟨inn_append (inn_append (inn_one (h x (.head _))) e0) i1, ?_⟩
  rw [len_append, len_append, i2, e_len, one_len (h x (.head _))]; simp; exact Nat.add_comm _ _
theorem sum_ones : ∀ (l : List Str), (∀ y ∈ l, One y) → (l.map (·.length)).sum = l.length
 | [], _ => rfl
 | y :: r, h => by simp [sum_ones r fun z hz => h z (.tail _ hz), one_len (h y (.head _))]; exact Nat.add_comm _ _
theorem okPart_of {x : Str} (hi : Inn x) (h1 : 1 ≤ x.length) (h2 : x.length ≤ 12) (h3 : x ≠ Str.ofString ".") (h4 : x ≠ Str.ofString "..") : okPart x = true := by
 unfold okPart
 rw [Bool.and_eq_true]
 refine ⟨decide_eq_true ⟨h3, h4, h1, h2⟩, ?_⟩
 rw [List.all_eq_true]
 intro c hc
 show (!(Builtin.Str.occurrences ALS ⟨#[c]⟩ 0 ALS.length 1).isEmpty) = true
 rw [StrLaws.found_one]
 exact decide_eq_true (hi c hc)
theorem strs_all {P : Str → Prop} : ∀ (ys : List V), (∀ (i : Nat) y, ys[i]? = some y → ∃ x, P x ∧ y = .str x) → ∃ xs : List Str, ys = xs.map .str ∧ ∀ x ∈ xs, P x
 | [], _ => ⟨[], rfl, by simp⟩
 | y :: r, h => by
  obtain ⟨x, hx, rfl⟩ := h 0 y rfl
  obtain ⟨xs, rfl, hxs⟩ := strs_all r fun i z e => h (i + 1) z (by simpa using e)
  exact ⟨x :: xs, rfl, by intro z hz; rcases List.mem_cons.mp hz with rfl | hz; exact hx; exact hxs z hz⟩
theorem cut_both {α : Type} (l : List α) {a b : Int} (h0 : 0 ≤ a) (h1 : a ≤ b) (h2 : b ≤ l.length) : pyCut l (some a) (some b) = (l.drop a.toNat).take (b - a).toNat := by
 unfold pyCut clip
 simp only [Option.elim]
 obtain ⟨m, rfl⟩ := Int.eq_ofNat_of_zero_le h0
 obtain ⟨k, rfl⟩ := Int.eq_ofNat_of_zero_le (Int.le_trans h0 h1)
 have h1' : m ≤ k := Int.ofNat_le.mp h1
 have h2' : k ≤ l.length := Int.ofNat_le.mp h2
 have e : ((k : Int) - (m : Int)).toNat = k - m := by rw [← Int.ofNat_sub h1']; rfl
 rw [clip_nat h0, clip_nat (Int.natCast_nonneg _), Int.toNat_natCast, Int.toNat_natCast, Nat.min_eq_left h2', Nat.min_eq_left (Nat.le_trans h1' h2'), e]
theorem cut_map {α β : Type} (f : α → β) (l : List α) (lo hi : Option Int) : pyCut (l.map f) lo hi = (pyCut l lo hi).map f := by
 unfold pyCut; rw [List.length_map, List.map_take, List.map_drop]
theorem cut_sub {α : Type} {l : List α} {lo hi : Option Int} {x : α} (h : x ∈ pyCut l lo hi) : x ∈ l := List.mem_of_mem_drop (List.mem_of_mem_take h)
theorem cut_join {ns : List Int} {σ : View} {a : Addr} {xs : List Str} {lo hi : Option Int} {Q : V → View → Prop} (ha : σ a = some (.list (xs.map .str))) (hx : ∀ x ∈ xs, One x) (hl : xs.length ≤ 1000)
  (q : ∀ (x : Str) σ', Grow σ σ' → Inn x → x.length = (pyCut xs lo hi).length → Q (.str x) σ') : opCut ns lo hi (.ref a) σ fun v σ' => spJoin [.str (Str.ofString ""), v] σ' Q := by
 refine cut_list ha fun b hb => ?_
 rw [cut_map]
 have h1 : ∀ x ∈ pyCut xs lo hi, One x := fun x h => hx x (cut_sub h)
 have h2 := cut_len xs lo hi
 refine join_list (ys := pyCut xs lo hi) (upd_same _ _ _) (by rw [e_len, sum_ones _ h1]; omega) ?_
 exact q _ _ (Grow.refl.upd hb) (join_ones _ h1).1 (join_ones _ h1).2
theorem name_len {A sz : Int} {p r : Nat} (h0 : 0 ≤ A) (h1 : A < sz) (h2 : sz ≤ 12) (hp : p ≤ A.toNat) (hr : r ≤ (sz - 1 - A).toNat) : p + 1 + r ≤ 12 := by omega
theorem name_len3 {r : Int} {n k : Nat} (h0 : 0 ≤ r) (h1 : r < 12) (hk : k = 12) (hn : n = min (1 + r).toNat k) : 1 ≤ n ∧ n ≤ 12 := by omega
theorem s_name (ns : List Int) : ∀ vs σ Q, sp__law_name_by ns vs σ Q → vs.length = 2 ∧ T__law_name_by ns (bindM ["_law_k", "_law_shift"] vs none') σ (fin Q) := by
 rintro vs σ Q ⟨kk, sh, rfl, q⟩
 refine ⟨rfl, ?_⟩
 unfold T__law_name_by
 rw [seq_eq]
 simp [T__law_name_by_1]
 have rest : ∀ (m : Loc) (sz : Int), 1 ≤ sz → sz ≤ 12 → m "_law_k" = some (.int kk) → m "_law_shift" = some (.int sh) → m "_law_size" = some (.int sz) →
   sSeq (T__law_name_by_3 ns) (sSeq (T__law_name_by_4 ns) (sSeq (T__law_name_by_5 ns) (sSeq (T__law_name_by_6 ns) (sSeq (T__law_name_by_7 ns) (sSeq (T__law_name_by_8 ns) (sSeq (T__law_name_by_9 ns) (sSeq (T__law_name_by_10 ns) sNil))))))) m σ (fin Q) := by
  intro m sz z1 z2 hk hs hz
  rw [seq_eq]
  simp [T__law_name_by_3, hs]
  generalize sh / 5 % 4 = wy
  rw [seq_eq]
  simp [T__law_name_by_4]
  refine compL_all (fun σ' => σ' = σ) (fun _ y => ∃ x, One x ∧ y = .str x) (fun _ _ => trivial) _ [] 0 _ _ (by simp [range_len]) ?_ rfl ?_
  ·rintro i v hv σ' Q' rfl nx
   obtain ⟨hi, rfl⟩ := range_get hv
   refine ⟨_, rfl, ?_⟩
   simp [hk, hs]
   refine ⟨.inl (by unfold Short; decide), ⟨.inr (by unfold Short; split <;> decide), ?_⟩⟩
   exact nx _ _ rfl ⟨_, sign_one _, rfl⟩
  ·rintro ys σ' rfl hl hys a ha
   obtain ⟨xs, rfl, hx⟩ := strs_all ys fun i y e => by simpa using hys i y e
   rw [List.length_map, range_len] at hl
   rw [List.nil_append]
   have xa := upd_same σ' a (.list (xs.map .str))
   have g0 : Grow σ' (upd σ' a (.list (xs.map .str))) := Grow.refl.upd ha
   generalize (upd σ' a (.list (xs.map .str))) = σ₁ at xa g0 ⊢
   rw [seq_eq]
   have c1 := Int.emod_nonneg (sh / 20) (b := sz) (by exact Int.ne_of_gt z1)
   have c2 := Int.emod_lt_of_pos (sh / 20) (b := sz) (by exact z1)
   simp [T__law_name_by_5, hs, hz]
   refine ⟨by exact z1, .inr (by unfold Short; split <;> decide), ?_⟩
   obtain ⟨at', hat, d1, d2⟩ : ∃ at', sh / 20 % sz * (if wy = 1 then 1 else 0) = at' ∧ 0 ≤ at' ∧ at' < sz := by
    refine ⟨_, rfl, ?_, ?_⟩
    ·split <;> omega
    ·split <;> omega
   rw [hat]
   rw [seq_eq]
   simp [T__law_name_by_6, hs, hk]
   intro b hb
   have hab : a ≠ b := by rintro rfl; rw [xa] at hb; cases hb
   have xa2 : upd σ₁ b (.list [.int 1, .int 26]) a = some (.list (xs.map .str)) := by rw [upd_ne hab]; exact xa
   have g1 := g0.upd (o := .list [.int 1, .int 26]) hb
   have xb := upd_same σ₁ b (.list [.int 1, .int 26])
   generalize (upd σ₁ b (.list [.int 1, .int 26])) = σ₂ at xa2 g1 xb ⊢
   have done : ∀ (m : Loc) (σ : View) (x : Str), Grow σ' σ → m "_law_name" = some (.str x) → Inn x → 1 ≤ x.length → x.length ≤ 12 → sSeq (T__law_name_by_9 ns) (sSeq (T__law_name_by_10 ns) sNil) m σ (fin Q) := by
    intro m σ x g hm hi l1 l2
    rw [seq_eq]
    simp [T__law_name_by_9, T__law_name_by_10, seq_eq, hm]
    have e0 : okPart (Str.ofString "0x") = true := by decide +kernel
    by_cases n1 : x = Str.ofString "."
    ·simpa [n1] using q _ _ g e0
    by_cases n2 : x = Str.ofString ".."
    ·simpa [n1, n2] using q _ _ g e0
    simpa [n1, n2] using q _ _ g (okPart_of hi l1 l2 n1 n2)
   have go : ∀ told, One told → sSeq (T__law_name_by_7 ns) (sSeq (T__law_name_by_8 ns) (sSeq (T__law_name_by_9 ns) (sSeq (T__law_name_by_10 ns) sNil)))
     (put (put (put (put m "_law_way" (.int wy)) "_law_rest" (.ref a)) "_law_at" (.int at')) "_law_told_here" (.str told)) σ₂ (fin Q) := by
    intro told ht
    rw [seq_eq]
    simp [T__law_name_by_7]
    refine cut_join xa2 hx (by exact Nat.le_trans (Nat.le_of_eq hl) (by decide)) fun x1 σ₃ g3 i1 l1 => ?_
    rw [cut_take _ d1, List.length_take] at l1
    replace l1 : x1.length ≤ at'.toNat := by rw [l1]; exact Nat.min_le_left ..
    simp [hz]
    have tl := one_len ht
    refine ⟨by rw [tl]; exact Nat.le_trans (name_len d1 d2 z2 l1 (Nat.zero_le _)) (by decide), ?_⟩
    refine cut_join (g3 _ _ xa2) hx (by exact Nat.le_trans (Nat.le_of_eq hl) (by decide)) fun x2 σ₄ g4 i2 l2 => ?_
    rw [cut_both _ d1 (by omega) (by omega), List.length_take, List.length_drop] at l2
    replace l2 : x2.length ≤ (sz - 1 - at').toNat := by rw [l2]; exact Nat.min_le_left ..
    have tl2 := len_append x1 told
    have k2 := name_len d1 d2 z2 l1 l2
    rw [tl] at tl2
    simp
    refine ⟨by rw [tl2]; exact Nat.le_trans k2 (by decide), ?_⟩
    have tl3 := len_append (x1 ++ told) x2
    have g5 := (g1.trans g3).trans g4
    have xa4 := g4 _ _ (g3 _ _ xa2)
    rw [seq_eq]
    simp [T__law_name_by_8, seq_eq]
    split
    ·simp [hs, hk]
     refine cut_join xa4 hx (by exact Nat.le_trans (Nat.le_of_eq hl) (by decide)) fun x3 σ₅ g6 i3 l3 => ?_
     have f1 := Int.emod_nonneg (sh / 65 + kk) (b := 12) (by decide)
     have f2 := Int.emod_lt_of_pos (sh / 65 + kk) (b := 12) (by decide)
     rw [cut_take _ (Int.add_nonneg (by decide) f1), List.length_take] at l3
     have l3' := name_len3 f1 f2 hl l3
     refine done _ _ x3 (g5.trans g6) (by simp) i3 l3'.1 l3'.2
    ·rw [tl2] at tl3
     exact done _ _ (x1 ++ told ++ x2) g5 (by simp) (inn_append (inn_append i1 (inn_one ht)) i2) (by rw [tl3]; exact Nat.le_trans (Nat.le_add_left 1 x1.length) (Nat.le_add_right ..)) (by rw [tl3]; exact k2)
   by_cases w3 : wy = 3
   ·simp [w3]
    refine item_list (v := .int 26) xb (by decide) rfl ?_
    simp
    refine ⟨.inr (by unfold Short; decide), ?_⟩
    have := go _ (sign_one (sh + kk * 26))
    simpa [w3] using this
   ·simp [w3]
    refine item_list (v := .int 1) xb (by decide) rfl ?_
    simp
    refine ⟨.inr (by unfold Short; decide), ?_⟩
    have := go _ (sign_one (sh + kk))
    simpa [w3] using this
 rw [seq_eq]
 simp [T__law_name_by_2]
 have b1 := Int.emod_nonneg (sh / 195) (b := 12) (by decide)
 have b2 := Int.emod_lt_of_pos (sh / 195) (b := 12) (by decide)
 split
 ·simp [seq_eq]
  generalize sh / 195 % 12 = r at b1 b2 ⊢
  exact rest _ (1 + r) (by omega) (by omega) (by simp) (by simp) (by simp)
 ·exact rest _ 1 (by exact by decide) (by exact by decide) (by simp) (by simp) (by simp)
theorem als_free : 47 ∉ cl ALS := by decide +kernel
theorem part_fr {x : Str} (h : okPart x = true) : Fr x := by
 unfold okPart at h
 rw [Bool.and_eq_true, List.all_eq_true] at h
 intro hc
 have := h.2 47 hc
 change (!(Builtin.Str.occurrences ALS ⟨#[47]⟩ 0 ALS.length 1).isEmpty) = true at this
 rw [StrLaws.found_one] at this
 exact als_free (of_decide_eq_true this)
theorem part_le {x : Str} (h : okPart x = true) : x.length ≤ 12 := by
 unfold okPart at h
 rw [Bool.and_eq_true] at h
 exact (of_decide_eq_true h.1).2.2.2
theorem okPath_join {xs : List Str} (h : ∀ x ∈ xs, okPart x = true) (h0 : xs ≠ []) (h8 : xs.length ≤ 8) : okPath (Str.join (Str.ofString "/") xs) = true := by
 unfold okPath
 rw [split_join (fun x hx => part_fr (h x hx)) h0, Bool.and_eq_true, List.all_eq_true]
 exact ⟨decide_eq_true h8, h⟩
theorem sum_le {n : Nat} : ∀ (l : List Str), (∀ y ∈ l, y.length ≤ n) → (l.map (·.length)).sum ≤ l.length * n
 | [], _ => by simp
 | y :: r, h => by
  have h1 := h y (.head _)
  have h2 := sum_le r fun z hz => h z (.tail _ hz)
  simp [Nat.add_mul]; exact Nat.le_of_not_lt fun hg => lin [(y.length), n, ((List.map (fun x => x.length) r).sum), (r.length * n)] [(1, (.v 0), (.v 1)), (1, (.v 2), (.v 3)), (1, (.a (.a (.v 3) (.v 1)) (.n 1)), (.a (.v 0) (.v 2)))] rfl h1 h2 hg
theorem comp_names {ns : List Int} {n : Nat} {m : Loc} {σ : View} {T : ET} {R : List V → View → Prop} (hn : n ≤ 8)
  (step : ∀ (j : Nat) σ' (Q' : V → View → Prop), j < n → Grow σ σ' → (∀ (x : Str) σ'', Grow σ' σ'' → okPart x = true → Q' (.str x) σ'') → T (put m "_law_j" (.int j)) σ' Q')
  (h : ∀ (xs : List Str) σ', Grow σ σ' → xs.length = n → (∀ x ∈ xs, okPart x = true) → R (xs.map .str) σ') :
  compL (Tgt.name "_law_j") (fun _ => True) tT T m (rangeL 0 n) [] σ R := by
 refine compL_all (Grow σ) (fun _ y => ∃ x, okPart x = true ∧ y = .str x) (fun _ _ => trivial) _ [] 0 _ _ (by simp [range_len]; exact Nat.le_trans hn (by decide)) ?_ Grow.refl ?_
 ·rintro i v hv σ' Q' g nx
  obtain ⟨hi, rfl⟩ := range_get hv
  refine ⟨_, rfl, ?_⟩
  rw [Int.zero_add]
  exact step i σ' Q' hi g fun x σ'' g' hx => nx _ _ (g.trans g') ⟨x, hx, rfl⟩
 ·rintro ys σ' g hl hys
  obtain ⟨xs, rfl, hx⟩ := strs_all ys fun i y e => by simpa using hys i y e
  rw [List.length_map, range_len] at hl
  exact h xs σ' g hl hx
theorem s_pathby (ns : List Int) : ∀ vs σ Q, sp__law_path_by ns vs σ Q → vs.length = 2 ∧ T__law_path_by ns (bindM ["_law_cell", "_law_shift"] vs none') σ (fin Q) := by
 rintro vs σ Q ⟨c, sh, rfl, q⟩
 refine ⟨rfl, ?_⟩
 unfold T__law_path_by
 have jn : ∀ (σ' : View) (a : Addr) (xs : List Str), Grow σ σ' → σ' a = some (.list (xs.map .str)) → xs ≠ [] → xs.length ≤ 7 → (∀ x ∈ xs, okPart x = true) → spJoin [.str (Str.ofString "/"), .ref a] σ' Q := by
  intro σ' a xs g ha h0 h7 hx
  have hs := sum_le xs fun y hy => part_le (hx y hy)
  have hj := join_len_le xs
  unfold joinLen at hj
  refine join_list ha (by rw [sl_len]; omega) ?_
  exact q _ _ g ⟨okPath_join hx h0 (by exact Nat.le_succ_of_le h7), by rw [split_join (fun x h => part_fr (hx x h)) h0]; exact h7⟩ (by omega)
 have tail : ∀ (m : Loc) (σ' : View) (a : Addr) (xs : List Str), Grow σ σ' → m "_law_cell" = some (.int c) → m "_law_shift" = some (.int sh) → m "_law_parts" = some (.ref a) → σ' a = some (.list (xs.map .str)) → xs ≠ [] → xs.length ≤ 3 → (∀ x ∈ xs, okPart x = true) →
   sSeq (T__law_path_by_3 ns) (sSeq (T__law_path_by_4 ns) (sSeq (T__law_path_by_5 ns) (sSeq (T__law_path_by_6 ns) sNil))) m σ' (fin Q) := by
  intro m σ' a xs g hc hs hp ha h0 h3 hx
  rw [seq_eq]
  simp [T__law_path_by_3, hs]
  split
  ·rw [seq_eq]
   have f1 := Int.emod_nonneg (sh / 7) (b := 4) (by decide)
   have f2 := Int.emod_lt_of_pos (sh / 7) (b := 4) (by decide)
   simp [T__law_path_by_4, hs]
   refine ⟨⟨by omega, by omega⟩, ?_⟩
   refine comp_names (ns := ns) (by omega) ?_ ?_
   ·intro j σ₁ Q' hj g1 nx
    simp [hs]
    intro x σ₂ g2 hx2
    exact nx x σ₂ g2 hx2
   ·intro ys σ₁ g1 hyl hy b hb
    simp [hp]
    have hab : a ≠ b := by rintro rfl; rw [g1 _ _ ha] at hb; cases hb
    refine add_list (upd_same _ _ _) (by rw [upd_ne hab]; exact g1 _ _ ha) (by simp; omega) fun d hd => ?_
    rw [← List.map_append]
    have hall : ∀ x ∈ ys ++ xs, okPart x = true := fun x h => (List.mem_append.mp h).elim (hy x) (hx x)
    have gd := ((g.trans g1).upd (o := .list (ys.map .str)) hb).upd (o := .list ((ys ++ xs).map .str)) hd
    have xd := upd_same (upd σ₁ b (.list (ys.map .str))) d (.list ((ys ++ xs).map .str))
    generalize (upd (upd σ₁ b (.list (ys.map .str))) d (.list ((ys ++ xs).map .str))) = σ₂ at gd xd ⊢
    have hne : ys ++ xs ≠ [] := by simp [h0]
    have hlen : (ys ++ xs).length ≤ 7 := by simp; omega
    generalize ys ++ xs = zs at hall xd hne hlen ⊢
    show sSeq _ _ _ _ _
    rw [seq_eq]
    simp [T__law_path_by_5, hc]
    split
    ·rw [seq_eq]
     simp [len_list xd, hc]
     have hpos : 0 < zs.length := List.length_pos_iff.mpr hne
     have k1 := Int.emod_nonneg (c / 13) (b := (zs.length : Int)) (by omega)
     refine ⟨by exact hpos, cut_list xd fun e he => ?_⟩
     rw [cut_take _ (by exact Int.add_nonneg (by decide) k1), ← List.map_take]
     exact jn _ e _ (gd.upd he) (upd_same _ _ _) (by intro e; have := congrArg List.length e; rw [List.length_take, List.length_nil] at this; omega) (by rw [List.length_take]; omega) (fun x h => hall x (List.mem_of_mem_take h))
    ·rw [seq_eq]
     simp [T__law_path_by_6]
     exact jn σ₂ d zs gd xd hne hlen hall
  ·rw [seq_eq]
   simp [hp]
   exact jn σ' a xs g ha h0 (by exact Nat.le_trans h3 (by decide)) hx
 rw [seq_eq]
 simp [T__law_path_by_1]
 intro a ha
 have m1 := Int.emod_nonneg c (b := 5) (by decide)
 have m2 := Int.emod_lt_of_pos c (b := 5) (by decide)
 have mid : ∀ (dp : Int) (σ' : View), 1 ≤ dp → dp ≤ 3 → Grow σ σ' → sSeq (T__law_path_by_2 ns) (sSeq (T__law_path_by_3 ns) (sSeq (T__law_path_by_4 ns) (sSeq (T__law_path_by_5 ns) (sSeq (T__law_path_by_6 ns) sNil)))) (put (put (put none' "_law_cell" (.int c)) "_law_shift" (.int sh)) "_law_depth" (.int dp)) σ' (fin Q) := by
  intro dp σ' d1 d2 g
  rw [seq_eq]
  simp [T__law_path_by_2]
  refine ⟨⟨by exact Int.le_trans (by decide) d1, by exact Int.lt_of_le_of_lt d2 (by decide)⟩, ?_⟩
  refine comp_names (ns := ns) (by omega) ?_ ?_
  ·intro j σ₁ Q' hj g1 nx
   simp
   intro b hb
   have hj3 : j = 0 ∨ j = 1 ∨ j = 2 := by omega
   rcases hj3 with rfl | rfl | rfl
   ·refine item_list (v := .int 1) (upd_same _ _ _) (by decide) rfl ?_
    simp
    intro x σ₂ g2 hx
    exact nx x σ₂ ((Grow.refl.upd hb).trans g2) hx
   ·refine item_list (v := .int 3) (upd_same _ _ _) (by decide) rfl ?_
    simp
    intro x σ₂ g2 hx
    exact nx x σ₂ ((Grow.refl.upd hb).trans g2) hx
   ·refine item_list (v := .int 9) (upd_same _ _ _) (by decide) rfl ?_
    simp
    intro x σ₂ g2 hx
    exact nx x σ₂ ((Grow.refl.upd hb).trans g2) hx
  ·intro xs σ₁ g1 hl hx b hb
   exact tail _ _ b xs ((g.trans g1).upd hb) (by simp) (by simp) (by simp) (upd_same _ _ _) (by rintro rfl; simp at hl; omega) (by omega) hx
 generalize c % 5 = r at m1 m2 ⊢
 have hr : r = 0 ∨ r = 1 ∨ r = 2 ∨ r = 3 ∨ r = 4 := by omega
 rcases hr with rfl | rfl | rfl | rfl | rfl
 ·exact item_list (v := .int 1) (upd_same _ _ _) (by decide) rfl (mid 1 _ (by decide) (by decide) (Grow.refl.upd ha))
 ·exact item_list (v := .int 1) (upd_same _ _ _) (by decide) rfl (mid 1 _ (by decide) (by decide) (Grow.refl.upd ha))
 ·exact item_list (v := .int 2) (upd_same _ _ _) (by decide) rfl (mid 2 _ (by decide) (by decide) (Grow.refl.upd ha))
 ·exact item_list (v := .int 2) (upd_same _ _ _) (by decide) rfl (mid 2 _ (by decide) (by decide) (Grow.refl.upd ha))
 ·exact item_list (v := .int 3) (upd_same _ _ _) (by decide) rfl (mid 3 _ (by decide) (by decide) (Grow.refl.upd ha))
theorem sum_e : ∀ (l : List Str), (∀ y ∈ l, y.length = 1) → (l.map (·.length)).sum = l.length
 | [], _ => rfl
 | y :: r, h => by simp [sum_e r fun z hz => h z (.tail _ hz), h y (.head _)]; exact Nat.add_comm _ _
theorem line_go {ns : List Int} {σ : View} {m : Loc} {n kk sh : Int} {Q : V → View → Prop} (n1 : 0 ≤ n) (n2 : n ≤ 700) (hk : m "_law_k" = some (.int kk)) (hs : m "_law_shift" = some (.int sh))
  (ho : m "_law_some" = some (.str (Str.ofString " !\"#$&'()*+,-./0123456789:;<=>?@ABCDEFGHIJKLMNOPQRSTUVWXYZ[\\]^_`" ++ Str.ofString "abcdefghijklmnopqrstuvwxyz{|}~\n\t"))) (q : ∀ (x : Str) σ', Grow σ σ' → Q (.str x) σ') :
  compL (Tgt.name "_law_j") (fun _ => True) tT (eBin (opItem ns) (eName "_law_some") (eBin opMod (eBin opAdd (eBin opAdd (eName "_law_shift") (eBin opMul (eVal (.int 5)) (eName "_law_k"))) (eName "_law_j")) (eVal (.int 96))))
    (only ["_law_some", "_law_shift", "_law_k"] m) (rangeL 0 n.toNat) [] σ fun ys σ'' => newL ys σ'' fun v σ₁ => spJoin [.str (Str.ofString ""), v] σ₁ Q := by
 refine compL_all (fun s => s = σ) (fun _ y => ∃ x : Str, x.length = 1 ∧ y = .str x) (fun _ _ => trivial) _ [] 0 _ _ (by simp [range_len]; exact Int.le_trans n2 (by decide)) ?_ rfl ?_
 ·rintro i v hv s Q' rfl nx
  obtain ⟨hi, rfl⟩ := range_get hv
  refine ⟨_, rfl, ?_⟩
  simp [ho, hs, hk]
  refine ⟨.inl (by unfold Short; decide), ?_⟩
  exact item_mod (by decide +kernel) (by decide) (by decide +kernel) fun y hy => nx _ _ rfl ⟨y, hy, rfl⟩
 ·rintro ys s rfl hl hys b hb
  obtain ⟨xs, rfl, hx⟩ := strs_all ys fun i y e => by simpa using hys i y e
  rw [List.length_map, range_len] at hl
  rw [List.nil_append]
  refine join_list (ys := xs) (upd_same _ _ _) (by rw [e_len, sum_e xs hx]; omega) ?_
  exact q _ _ (Grow.refl.upd hb)
theorem s_line (ns : List Int) : ∀ vs σ Q, sp__law_line_by ns vs σ Q → vs.length = 2 ∧ T__law_line_by ns (bindM ["_law_k", "_law_shift"] vs none') σ (fin Q) := by
 rintro vs σ Q ⟨kk, sh, rfl, q⟩
 refine ⟨rfl, ?_⟩
 unfold T__law_line_by
 rw [seq_eq]
 simp [T__law_line_by_1]
 rw [seq_eq]
 simp [T__law_line_by_2]
 refine ⟨by decide +kernel, ?_⟩
 have m1 := Int.emod_nonneg kk (b := 4) (by decide)
 have m2 := Int.emod_lt_of_pos kk (b := 4) (by decide)
 have b1 := Int.emod_nonneg sh (b := 60) (by decide)
 have b2 := Int.emod_lt_of_pos sh (b := 60) (by decide)
 have b3 := Int.emod_nonneg (sh / 240) (b := 600) (by decide)
 have b4 := Int.emod_lt_of_pos (sh / 240) (b := 600) (by decide)
 rw [seq_eq]
 simp [T__law_line_by_3]
 split
 ·rw [seq_eq]
  simp
  refine ⟨⟨by exact Int.le_trans (by decide) m1, by exact Int.le_trans m2 (by decide)⟩, ?_⟩
  exact line_go (kk := kk) (sh := sh) m1 (by omega) (by simp) (by simp) (by simp) q
 ·have last : ∀ (m : Loc) (n : Int), 0 ≤ n → n ≤ 700 → m "_law_size" = some (.int n) → m "_law_k" = some (.int kk) → m "_law_shift" = some (.int sh) →
    m "_law_some" = some (.str (Str.ofString " !\"#$&'()*+,-./0123456789:;<=>?@ABCDEFGHIJKLMNOPQRSTUVWXYZ[\\]^_`" ++ Str.ofString "abcdefghijklmnopqrstuvwxyz{|}~\n\t")) → sSeq (T__law_line_by_6 ns) sNil m σ (fin Q) := by
   intro m n l1 l2 hz hk hs ho
   rw [seq_eq]
   simp [T__law_line_by_6, hz]
   refine ⟨⟨by exact Int.le_trans (by decide) l1, by exact Int.lt_of_le_of_lt l2 (by decide)⟩, ?_⟩
   exact line_go l1 l2 hk hs ho q
  rw [seq_eq]
  simp [T__law_line_by_4]
  rw [seq_eq]
  simp [T__law_line_by_5]
  split
  ·rw [seq_eq]
   simp
   exact last _ (3 + sh / 240 % 600) (by exact Int.add_nonneg (by decide) b3) (by omega) (by simp) (by simp) (by simp) (by simp)
  ·exact last _ (3 + sh % 60) (by exact Int.add_nonneg (by decide) b1) (by omega) (by simp) (by simp) (by simp) (by simp)
end Mine
end
noncomputable section
set_option maxRecDepth 10000
namespace Mine
open PySem PySem.W PyProof.Rows PySem.Calls
theorem Grow.over {σ σ' : View} {b : Addr} {o : AObj} (g : Grow σ σ') (hb : σ b = Option.none) : Grow σ (Mine.upd σ' b o) := fun c o' e => by
 rw [upd_ne (by rintro rfl; rw [hb] at e; cases e)]; exact g c o' e
section
variable {ns : List Int} {σ : View} {Q : V → View → Prop}
theorem sp_free {a : Addr} {x : Str} {kvs : List (Str × V)} {ep : Nat} (h : σ a = some (.dict kvs ep)) (hk : ∀ q ∈ kvs, q.1.length ≤ 300) (hx : x.length ≤ 1000) (q : Q (.bool (isFree (keysOf kvs) x)) σ) : sp__law_is_free ns [.ref a, .str x] σ Q := ⟨a, kvs, ep, x, rfl, h, hk, hx, q⟩
end
theorem key_at {kvs : List (Str × V)} {i : Nat} {v : V} (h : (kvs.map fun q => V.str q.1)[i]? = some v) : ∃ y, (keysOf kvs)[i]? = some y ∧ v = .str y := by
 rw [List.getElem?_map] at h
 obtain ⟨q, hq, rfl⟩ := Option.map_eq_some_iff.mp h
 exact ⟨q.1, by unfold keysOf; rw [List.getElem?_map, hq]; rfl, rfl⟩
theorem key_len {kvs : List (Str × V)} (hk : ∀ q ∈ kvs, q.1.length ≤ 300) {i : Nat} {y : Str} (hy : (keysOf kvs)[i]? = some y) : y.length ≤ 300 := by
 have := List.mem_of_getElem? hy
 obtain ⟨p, hp, rfl⟩ := List.mem_map.mp this
 exact hk p hp
theorem not_free {ks : List Str} {x y : Str} (hy : y ∈ ks) (e : clr x y = false) : isFree ks x = false := by
 unfold isFree
 rw [List.all_eq_false]
 exact ⟨y, hy, by rw [e]; simp⟩
theorem s_free (ns : List Int) : ∀ vs σ Q, sp__law_is_free ns vs σ Q → vs.length = 2 ∧ T__law_is_free ns (bindM ["_law_tree", "_law_path"] vs none') σ (fin Q) := by
 rintro vs σ Q ⟨a, kvs, ep, x, rfl, ha, hk, hx, q⟩
 refine ⟨rfl, ?_⟩
 unfold T__law_is_free
 rw [seq_eq]
 simp [T__law_is_free_1, iter_dict ha]
 refine forL_inv (fun i m σ' => σ' = σ ∧ m "_law_path" = some (.str x) ∧ ((keysOf kvs).take i).all (fun y => clr x y) = true) (fun u m σ' => σ' = σ ∧ u = .bool false ∧ isFree (keysOf kvs) x = false)
  (fun i m σ' h => by rw [h.1]; exact ha) _ ?_ ?_ ?_ _ _ ⟨rfl, by simp, by simp⟩
 ·rintro i v m σ' Q' hv ⟨rfl, hm, h⟩ n1 n2 n3
  obtain ⟨y, hy, rfl⟩ := key_at hv
  have hyl := key_len hk hy
  refine ⟨_, rfl, ?_⟩
  simp [seq_eq, hm]
  refine ⟨by rw [sl_len]; exact Nat.lt_of_le_of_lt hx (by decide), ?_⟩
  split
  ·rename_i e
   exact n3 _ _ _ ⟨rfl, rfl, not_free (List.mem_of_getElem? hy) (by unfold clr; rw [e]; rfl)⟩
  ·rename_i e
   refine ⟨by rw [sl_len]; exact Nat.lt_of_le_of_lt hyl (by decide), ?_⟩
   split
   ·rename_i e2
    exact n3 _ _ _ ⟨rfl, rfl, not_free (List.mem_of_getElem? hy) (by unfold clr; rw [e2, Bool.or_true]; rfl)⟩
   ·rename_i e2
    refine n1 _ _ ⟨rfl, by simp [hm], ?_⟩
    rw [List.take_add_one, hy, List.all_append, h]
    simp [clr, e, e2]
 ·rintro m σ' ⟨rfl, hm, h⟩
  rw [List.length_map] at h
  have : (keysOf kvs).take kvs.length = keysOf kvs := List.take_of_length_le (by simp [keysOf])
  rw [this] at h
  have e : isFree (keysOf kvs) x = true := h
  rw [e] at q
  simpa [seq_eq, T__law_is_free_2] using q
 ·rintro u m σ' ⟨rfl, rfl, h⟩
  rw [h] at q
  simpa using q
theorem s_ben (ns : List Int) : ∀ vs σ Q, sp_is_beneath ns vs σ Q → vs.length = 2 ∧ T_is_beneath ns (bindM ["path", "upper"] vs none') σ (fin Q) := by
 rintro vs σ Q ⟨x, y, rfl, hy, q⟩
 refine ⟨rfl, ?_⟩
 unfold T_is_beneath
 rw [seq_eq]
 simp [T_is_beneath_1]
 exact ⟨by rw [sl_len]; exact Nat.lt_of_le_of_lt hy (by decide), q⟩
theorem cut_put : Str.ofString "put" ≠ Str.ofString "cut" := by decide
theorem deed1 (ns : List Int) {d : Deed} {σ : View} {Q : V → View → Prop} (q : Q (.str d.x) σ) : opItem ns (deedV d) (.int 1) σ Q := by
 obtain ⟨cu, x, l⟩ := d
 cases cu
 ·exact ⟨by show 3 < 16777217; decide, 1, _, rfl, rfl, q⟩
 ·exact ⟨by show 2 < 16777217; decide, 1, _, rfl, rfl, q⟩
theorem deed0 (ns : List Int) {d : Deed} {σ : View} {Q : V → View → Prop} (q : Q (.str (if d.cu = true then Str.ofString "cut" else Str.ofString "put")) σ) : opItem ns (deedV d) (.int 0) σ Q := by
 obtain ⟨cu, x, l⟩ := d
 cases cu
 ·exact ⟨by show 3 < 16777217; decide, 0, _, rfl, rfl, q⟩
 ·exact ⟨by show 2 < 16777217; decide, 0, _, rfl, rfl, q⟩
theorem deed2 (ns : List Int) {d : Deed} (h : d.cu = false) {σ : View} {Q : V → View → Prop} (q : Q (.str d.l) σ) : opItem ns (deedV d) (.int 2) σ Q := by
 obtain ⟨cu, x, l⟩ := d
 subst h
 exact ⟨by show 3 < 16777217; decide, 2, _, rfl, rfl, q⟩
section
variable {kvs : List (Str × V)} {d : Deed}
theorem out_path (h : okPath d.x = false) : outc kvs d = .inl "NoPath" := by unfold outc; rw [if_pos h]
theorem out_cut (h : okPath d.x = true) (hc : d.cu = true) (hi : d.x ∈ keysOf kvs) : outc kvs d = .inr (vout kvs d.x) := by unfold outc; rw [if_neg (by rw [h]; decide), if_pos hc, if_pos hi]
theorem out_nofile (h : okPath d.x = true) (hc : d.cu = true) (hi : d.x ∉ keysOf kvs) : outc kvs d = .inl "NoFile" := by unfold outc; rw [if_neg (by rw [h]; decide), if_pos hc, if_neg hi]
theorem out_put (h : okPath d.x = true) (hc : d.cu = false) (hi : isFree (keysOf kvs) d.x = true) : outc kvs d = .inr (vstored kvs d.x (.str d.l)) := by unfold outc; rw [if_neg (by rw [h]; decide), if_neg (by rw [hc]; decide), if_pos hi]
theorem out_way (h : okPath d.x = true) (hc : d.cu = false) (hi : isFree (keysOf kvs) d.x = false) : outc kvs d = .inl "InTheWay" := by unfold outc; rw [if_neg (by rw [h]; decide), if_neg (by rw [hc]; decide), if_neg (by rw [hi]; decide)]
end
theorem s_done (ns : List Int) : ∀ vs σ Q X, sp_done ns vs σ Q X → vs.length = 2 ∧ T_done ns (bindM ["tree", "deed"] vs none') σ (fin Q) (fun c _ σ' => X c σ') := by
 rintro vs σ Q X ⟨a, kvs, ep, d, rfl, ha, ht, hx, q⟩
 refine ⟨rfl, ?_⟩
 have len := ht.len
 unfold T_done
 rw [xseq_eq]
 simp [T_done_1]
 refine deed1 ns ?_
 rw [xseq_eq]
 simp [T_done_2]
 refine ⟨by exact Nat.le_trans hx (by decide), ?_⟩
 intro σ₁ g1
 cases hk : okPath d.x with
 | false =>
  rw [out_path hk] at q
  simp [xseq_eq]
  exact q σ₁ g1
 | true =>
  simp
  rw [xseq_eq]
  simp [T_done_3]
  have ha1 := g1 _ _ ha
  refine dictc_dict ha1 fun b eb hb => ?_
  have hbn := g1.none hb
  have xb := upd_same σ₁ b (.dict kvs eb)
  have g2 : Grow σ (upd σ₁ b (.dict kvs eb)) := g1.upd hb
  have ha2 : upd σ₁ b (.dict kvs eb) a = some (.dict kvs ep) := by rw [upd_ne (by rintro rfl; rw [ha1] at hb; cases hb)]; exact ha1
  generalize (upd σ₁ b (.dict kvs eb)) = σ₂ at xb g2 ha2 ⊢
  show xSeq _ _ _ _ _ _
  rw [xseq_eq]
  simp [T_done_4]
  refine deed0 ns ?_
  cases hcu : d.cu with
  | true =>
   simp
   rw [xseq_eq]
   simp
   refine notin_dict xb ?_
   rw [vget_isSome]
   by_cases hin : d.x ∈ keysOf kvs
   ·have hin' : d.x ∈ kvs.map (·.1) := hin
    rw [out_cut hk hcu hin] at q
    simp only [decide_eq_true hin', Bool.not_true]
    simp [seq_eq, tyDict_ref xb]
    obtain ⟨v, hv, _⟩ := vget_mem hin'
    refine pop_dict xb hv fun ep' => ?_
    exact q b ep' _ (g2.over hbn) hbn (upd_same _ _ _)
   ·have hin' : d.x ∉ kvs.map (·.1) := hin
    rw [out_nofile hk hcu hin] at q
    simp only [decide_eq_false hin', Bool.not_false]
    simp [xseq_eq]
    exact q σ₂ g2
  | false =>
   simp [cut_put]
   rw [xseq_eq]
   simp [T_done_5, iter_dict ha2]
   have hlen := ht.key
   refine xforL_inv (fun i m σ' => σ' = σ₂ ∧ m "path" = some (.str d.x) ∧ m "fresh" = some (.ref b) ∧ m "deed" = some (deedV d) ∧ ((keysOf kvs).take i).all (fun y => clr d.x y) = true)
    (fun i m σ' h => by rw [h.1]; exact ha2) _ ?_ ?_ _ _ ⟨rfl, by simp, by simp, by simp, by simp⟩
   ·rintro i v m σ' Q' hv ⟨rfl, hm, hf, hd, h⟩ n1
    obtain ⟨y, hy, rfl⟩ := key_at hv
    have hyl := key_len hlen hy
    refine ⟨_, rfl, ?_⟩
    have bad : clr d.x y = false → X "InTheWay" σ' := fun e => by
     rw [out_way hk hcu (not_free (List.mem_of_getElem? hy) e)] at q
     exact q σ' g2
    simp [xseq_eq, hm]
    refine ⟨by exact Nat.le_trans hyl (by decide), ?_⟩
    split
    ·rename_i e
     exact bad (by unfold clr; rw [e, Bool.or_true]; rfl)
    ·rename_i e
     refine ⟨by exact Nat.le_trans hx (by decide), ?_⟩
     split
     ·rename_i e2
      exact bad (by unfold clr; rw [e2]; rfl)
     ·rename_i e2
      refine n1 _ _ ⟨rfl, by simp [hm], by simp [hf], by simp [hd], ?_⟩
      rw [List.take_add_one, hy, List.all_append, h]
      simp [clr, e, e2]
   ·rintro m σ' ⟨rfl, hm, hf, hd, h⟩
    rw [List.length_map] at h
    have : (keysOf kvs).take kvs.length = keysOf kvs := List.take_of_length_le (by simp [keysOf])
    rw [this] at h
    rw [out_put hk hcu h] at q
    rw [xkont_next, xP_eq, seq_eq]
    simp [T_done_6, hd, hf, hm]
    refine deed2 ns hcu ?_
    refine set_dict xb (by exact Nat.lt_of_le_of_lt len (by decide)) fun ep' => ?_
    rw [seq_eq]
    simp [T_done_7, hf]
    exact q b ep' _ (g2.over hbn) hbn (upd_same _ _ _)
theorem Tk.out {n : Nat} {kvs k2 : List (Str × V)} {d : Deed} (h : Tk n kvs) (hd : d.x.length ≤ 300) (e : outc kvs d = .inr k2) : Tk (n + 1) k2 := by
 unfold outc at e
 split at e
 ·cases e
 ·split at e
  ·split at e
   ·cases e
    have := vout_len kvs d.x
    exact ⟨by have := h.len; omega, fun q hq => h.key q (vout_mem hq)⟩
   ·cases e
  ·split at e
   ·cases e
    have := vstored_len kvs d.x (.str d.l)
    exact ⟨by have := h.len; omega, fun q hq => (vstored_mem hq).elim (fun e => by rw [e]; exact hd) (h.key q)⟩
   ·cases e
theorem outs_l {kvs : List (Str × V)} {d : Deed} {r : List Deed} {c : String} (h : outc kvs d = .inl c) : outs kvs (d :: r) = .inl c := by simp only [outs, h]
theorem outs_r {kvs k2 : List (Str × V)} {d : Deed} {r : List Deed} (h : outc kvs d = .inr k2) : outs kvs (d :: r) = outs k2 r := by simp only [outs, h]
theorem changed_loop {ns : List Int} {L : Addr} {all : List V} {σ0 : View} {Q : V → View → Prop} {X : String → View → Prop} (hL : σ0 L = some (.list all)) :
  ∀ (ds : List Deed) (kvs : List (Str × V)) (b : Addr) (eb n : Nat) (m : Loc) (σ' : View), σ0 b = Option.none → Grow σ0 σ' → σ' b = some (.dict kvs eb) → Tk n kvs → n + ds.length ≤ 1000 → (∀ d ∈ ds, d.x.length ≤ 300) → m "fresh" = some (.ref b) → Ends (outs kvs ds) σ0 Q X →
   xforL (.name "deed") (fun σ'' => σ'' L = some (.list all)) (xSeq (xSet "fresh" (xCall (sp_done ns) (lCons (eName "fresh") (lCons (eName "deed") lNil)))) (xP sNil)) (ds.map deedV) m σ' (xkont (xP (sSeq (T_changed_3 ns) sNil)) (fin Q) fun c _ σ' => X c σ') fun c _ σ' => X c σ' := by
 intro ds
 induction ds with
 | nil =>
  intro kvs b eb n m σ' hb g hb' ht hn hd hm q
  simp only [List.map_nil, xforL]
  refine ⟨g _ _ hL, ?_⟩
  rw [xkont_next, xP_eq, seq_eq]
  simp [T_changed_3, hm]
  exact q b eb σ' g hb hb'
 | cons d r ih =>
  intro kvs b eb n m σ' hb g hb' ht hn hd hm q
  simp only [List.map_cons, xforL]
  refine ⟨g _ _ hL, _, rfl, ?_⟩
  rw [xseq_eq]
  simp [hm]
  simp at hn
  have hx := hd d (.head _)
  refine ⟨b, kvs, eb, d, rfl, hb', ⟨by have := ht.len; omega, ht.key⟩, hx, ?_⟩
  cases ho : outc kvs d with
  | inl c =>
   rw [outs_l ho] at q
   exact fun σ2 g2 => q σ2 (g.trans g2)
  | inr k2 =>
   rw [outs_r ho] at q
   intro b2 ep2 σ2 g2 hb2 hb2'
   exact ih k2 b2 ep2 (n + 1) _ σ2 (g.none hb2) (g.trans g2) hb2' (ht.out hx ho) (by exact Nat.le_of_not_lt fun hg => lin [n, (r.length)] [(1, (.a (.v 0) (.a (.v 1) (.n 1))), (.n 1000)), (1, (.a (.n 1000) (.n 1)), (.a (.a (.v 0) (.n 1)) (.v 1)))] rfl hn hg) (fun d' h' => hd d' (.tail _ h')) (by simp) q
theorem s_changed (ns : List Int) : ∀ vs σ Q X, sp_changed ns vs σ Q X → vs.length = 2 ∧ T_changed ns (bindM ["tree", "deeds"] vs none') σ (fin Q) (fun c _ σ' => X c σ') := by
 rintro vs σ Q X ⟨a, L, kvs, ep, ds, n, rfl, ha, hL, ht, hn, hd, q⟩
 refine ⟨rfl, ?_⟩
 unfold T_changed
 rw [xseq_eq]
 simp [T_changed_1]
 refine dictc_dict ha fun b eb hb => ?_
 have xb := upd_same σ b (.dict kvs eb)
 have g2 : Grow σ (upd σ b (.dict kvs eb)) := Grow.refl.upd hb
 have hL2 := g2 _ _ hL
 generalize (upd σ b (.dict kvs eb)) = σ₂ at xb g2 hL2 ⊢
 show xSeq _ _ _ _ _ _
 rw [xseq_eq]
 simp [T_changed_2, iter_list hL2]
 exact changed_loop hL ds kvs b eb n _ σ₂ hb g2 xb ht hn hd (by simp) q
theorem out_cs {kvs : List (Str × V)} {d : Deed} {c : String} (h : outc kvs d = .inl c) : c = "NoPath" ∨ c = "NoFile" ∨ c = "InTheWay" := by
 unfold outc at h
 split at h
 ·cases h; exact .inl rfl
 ·split at h
  ·split at h
   ·cases h
   ·cases h; exact .inr (.inl rfl)
  ·split at h
   ·cases h
   ·cases h; exact .inr (.inr rfl)
theorem outs_cs : ∀ {ds : List Deed} {kvs : List (Str × V)} {c : String}, outs kvs ds = .inl c → c = "NoPath" ∨ c = "NoFile" ∨ c = "InTheWay"
 | [], _, _, h => by cases h
 | d :: r, kvs, c, h => by
  cases ho : outc kvs d with
  | inl c' => rw [outs_l ho] at h; cases h; exact out_cs ho
  | inr k2 => rw [outs_r ho] at h; exact outs_cs h
theorem s_told (ns : List Int) (ad : String → Addr) : ∀ vs σ Q X, sp__law_told ns vs σ Q X → vs.length = 2 ∧ T__law_told ns ad (bindM ["_law_tree", "_law_deeds"] vs none') σ (fin Q) (fun c _ σ' => X c σ') := by
 rintro vs σ Q X ⟨a, L, kvs, ep, ds, n, rfl, ha, hL, ht, hn, hd, q⟩
 refine ⟨rfl, ?_⟩
 unfold T__law_told
 rw [xseq_eq]
 simp [T__law_told_1, xseq_eq]
 refine ⟨a, L, kvs, ep, ds, n, rfl, ha, hL, ht, hn, hd, ?_⟩
 cases ho : outs kvs ds with
 | inr k2 =>
  rw [ho] at q
  intro b ep' σ' g hb hd
  exact q b ep' σ' g hb hd
 | inl c =>
  rw [ho] at q
  intro σ' g
  refine ⟨?_, fun e he => ?_⟩
  ·rcases outs_cs ho with rfl | rfl | rfl <;> decide
  ·have q' := q σ' g
   rcases outs_cs ho with rfl | rfl | rfl
   ·simp [xElse, subX, seq_eq]
    refine ⟨by unfold MulOk; decide +kernel, ?_⟩
    rw [show Txt.mul (Str.ofString "NoPath") 1 = Str.ofString "NoPath" from by decide +kernel]
    exact q'
   ·simp [xElse, subX, seq_eq]
    refine ⟨by unfold MulOk; decide +kernel, ?_⟩
    rw [show Txt.mul (Str.ofString "NoFile") 1 = Str.ofString "NoFile" from by decide +kernel]
    exact q'
   ·simp [xElse, subX, seq_eq]
    refine ⟨by unfold MulOk; decide +kernel, ?_⟩
    rw [show Txt.mul (Str.ofString "InTheWay") 1 = Str.ofString "InTheWay" from by decide +kernel]
    exact q'
end Mine
end
noncomputable section
set_option maxRecDepth 10000
namespace Mine
open PySem PySem.W PyProof.Rows PySem.Calls
theorem Tr.key3 {n : Nat} {kvs : List (Str × V)} (h : Tr n kvs) : ∀ q ∈ kvs, q.1.length ≤ 300 := fun q hq => Nat.le_trans (h.key q hq) (by decide)
theorem Tr.mono {n n' : Nat} {kvs : List (Str × V)} (h : Tr n kvs) (hn : n ≤ n') : Tr n' kvs := { h with len := Nat.le_trans h.len hn }
theorem Tr.put {n : Nat} {kvs : List (Str × V)} (h : Tr n kvs) {x y : Str} (hx : x.length ≤ 200) (ho : ok7 x) : Tr (n + 1) (vstored kvs x (.str y)) :=
 ⟨Nat.le_trans (vstored_len kvs x _) (Nat.succ_le_succ h.len), fun q hq => (vstored_mem hq).elim (fun e => by rw [e]; exact hx) (h.key q), fun q hq => (vstored_mem hq).elim (fun e => by rw [e]; exact ho) (h.ok q), fun q hq => (vstored_mem hq).elim (fun e => by rw [e]; exact ⟨y, rfl⟩) (h.val q), vstored_nodup h.nodup⟩
theorem Tr.cut {n : Nat} {kvs : List (Str × V)} (h : Tr n kvs) (x : Str) : Tr n (vout kvs x) :=
 ⟨Nat.le_trans (vout_len kvs x) h.len, fun q hq => h.key q (vout_mem hq), fun q hq => h.ok q (vout_mem hq), fun q hq => h.val q (vout_mem hq), vout_nodup h.nodup⟩
theorem s_grown (ns : List Int) : ∀ vs σ Q, sp__law_grown ns vs σ Q → vs.length = 3 ∧ T__law_grown ns (bindM ["_law_tree", "_law_cell", "_law_shift"] vs none') σ (fin Q) := by
 rintro vs σ Q ⟨a, kvs, ep, c, sh, n, rfl, ha, ht, hn, q⟩
 refine ⟨rfl, ?_⟩
 have len := ht.len
 unfold T__law_grown
 rw [seq_eq]
 simp [T__law_grown_1]
 refine dictc_dict ha fun b eb hb => ?_
 have xb := upd_same σ b (.dict kvs eb)
 have g0 : Grow σ (upd σ b (.dict kvs eb)) := Grow.refl.upd hb
 generalize (upd σ b (.dict kvs eb)) = σ₁ at xb g0 ⊢
 rw [seq_eq]
 simp [T__law_grown_2]
 intro x σ₂ g1 hx hxl
 have xb2 := g1 _ _ xb
 have g2 := g0.trans g1
 have fin1 : ∀ (m : Loc) (σ₃ : View) kvs' ep', Grow σ σ₃ → m "_law_made" = some (.ref b) → σ₃ b = some (.dict kvs' ep') → Tr (n + 1) kvs' → Grew kvs kvs' → sSeq (T__law_grown_4 ns) sNil m σ₃ (fin Q) := by
  intro m σ₃ kvs' ep' g3 hm hd ht' hg
  rw [seq_eq]
  simp [T__law_grown_4, hm]
  exact q b kvs' ep' σ₃ g3 hb hd ht' hg
 rw [seq_eq]
 simp [T__law_grown_3]
 have free : sSeq (sIf (tBool (eCall (sp__law_is_free ns) (lCons (eName "_law_made") (lCons (eName "_law_path") lNil)))) (sSeq (sSetItem setD (eCall (sp__law_line_by ns) (lCons (eBin opDiv (eName "_law_cell") (eVal (.int 405))) (lCons (eName "_law_shift") lNil))) (eName "_law_made") (eName "_law_path"))
    sNil) sNil) sNil (put (put (put (put (put none' "_law_tree" (.ref a)) "_law_cell" (.int c)) "_law_shift" (.int sh)) "_law_made" (.ref b)) "_law_path" (.str x)) σ₂ (kont (sSeq (T__law_grown_4 ns) sNil) (fin Q)) := by
  rw [seq_eq]
  simp
  refine sp_free xb2 ht.key3 (by exact Nat.le_trans hxl (by decide)) ?_
  simp [seq_eq]
  split
  ·rename_i hf
   try simp
   intro y σ₄ g4
   refine set_dict (g4 _ _ xb2) (by exact Nat.lt_of_le_of_lt (Nat.le_trans len hn) (by decide)) fun ep' => ?_
   exact fin1 _ _ _ _ ((g2.trans g4).over hb) (by simp) (upd_same _ _ _) (ht.put hxl hx) (.inr (.inr ⟨x, y, hf, rfl⟩))
  ·exact fin1 _ _ _ _ g2 (by simp) xb2 (ht.mono (Nat.le_succ _)) (.inl rfl)
 refine in_dict xb2 ?_
 simp
 split
 ·rename_i hin
  split
  ·rw [seq_eq]
   simp [tyDict_ref xb2]
   obtain ⟨v, hv⟩ := Option.isSome_iff_exists.mp hin
   refine pop_dict xb2 hv fun ep' => ?_
   exact fin1 _ _ _ _ (g2.over hb) (by simp) (upd_same _ _ _) ((ht.cut x).mono (Nat.le_succ _)) (.inr (.inl ⟨x, rfl⟩))
  ·exact free
 ·exact free
noncomputable def WB (ns : List Int) : ST := (sSeq (sIf (tBool (eBin opInL (eBin (opItem ns) (eName "_law_deed") (eVal (.int 1))) (eList (lCons (eVal (.str (Str.ofString ""))) (lCons (eVal (.str (Str.ofString "a/../b"))) (lCons (eVal (.str (Str.ofString "a b"))) lNil)))))) (sSeq (sRet (eVal (.str (Str.ofString "NoPath"))))
 sNil) sNil)
 (sSeq (sIf (tAnd (tBool (eBin opEq0 (eBin (opItem ns) (eName "_law_deed") (eVal (.int 0))) (eVal (.str (Str.ofString "cut"))))) (tAnd (tBool (eBin opNotInD (eBin (opItem ns) (eName "_law_deed") (eVal (.int 1))) (eName "_law_made"))) tT)) (sSeq (sRet (eVal (.str (Str.ofString "NoFile"))))
 sNil) sNil)
 (sSeq (sIf (tBool (eBin opEq0 (eBin (opItem ns) (eName "_law_deed") (eVal (.int 0))) (eVal (.str (Str.ofString "cut"))))) (sSeq (sExpr (eMeth tyDict spPop (eName "_law_made") (lCons (eBin (opItem ns) (eName "_law_deed") (eVal (.int 1))) lNil)))
 sNil) (sSeq (sIf (tNot (tBool (eCall (sp__law_is_free ns) (lCons (eName "_law_made") (lCons (eBin (opItem ns) (eName "_law_deed") (eVal (.int 1))) lNil))))) (sSeq (sRet (eVal (.str (Str.ofString "InTheWay"))))
 sNil) (sSeq (sSetItem setD (eBin (opItem ns) (eName "_law_deed") (eVal (.int 2))) (eName "_law_made") (eBin (opItem ns) (eName "_law_deed") (eVal (.int 1))))
 sNil))
 sNil))
 sNil)))
theorem anyEq_str (x : Str) : ∀ l : List Str, anyEq (.str x) (l.map .str) = some (decide (x ∈ l))
 | [] => by simp [anyEq]
 | y :: r => by
  simp only [List.map_cons, anyEq, anyEq_str x r, veq0]
  by_cases h : y = x
  ·simp [h]
  ·simp [h, Ne.symm h, show ¬ x = y from fun e => h e.symm]
theorem word_loop {ns : List Int} {L : Addr} {all : List V} {σ0 : View} {b : Addr} {Q : V → View → Prop} (hL : σ0 L = some (.list all)) (hb : σ0 b = Option.none) :
  ∀ (ds : List Deed) (kvs : List (Str × V)) (eb n : Nat) (m : Loc) (σ' : View), Grow σ0 σ' → σ' b = some (.dict kvs eb) → Tk n kvs → n + ds.length ≤ 1000 → (∀ d ∈ ds, okD d) → m "_law_made" = some (.ref b) → Ends (outs kvs ds) σ0 Q (fun c σ' => Q (.str (Str.ofString c)) σ') →
   forL (.name "_law_deed") (fun σ'' => σ'' L = some (.list all)) (WB ns) (ds.map deedV) m σ' (kont (sSeq (T__law_word_of_3 ns) sNil) (fin Q)) := by
 intro ds
 induction ds with
 | nil =>
  intro kvs eb n m σ' g hb' ht hn hd hm q
  simp only [List.map_nil, forL]
  refine ⟨g _ _ hL, ?_⟩
  rw [kont_next, seq_eq]
  simp [T__law_word_of_3, hm]
  exact q b eb σ' g hb hb'
 | cons d r ih =>
  intro kvs eb n m σ' g hb' ht hn hd hm q
  simp only [List.map_cons, forL]
  refine ⟨g _ _ hL, _, rfl, ?_⟩
  simp at hn
  have len := ht.len
  obtain ⟨hx, hok⟩ := hd d (.head _)
  unfold WB
  rw [seq_eq]
  simp
  refine deed1 ns ?_
  try simp
  intro La hLa
  refine ⟨badL.map .str, _, upd_same _ _ _, anyEq_str d.x badL, ?_⟩
  have g1 := g.upd (o := (.list [.str (Str.ofString ""), .str (Str.ofString "a/../b"), .str (Str.ofString "a b")])) hLa
  have hb1 : upd σ' La (.list [.str (Str.ofString ""), .str (Str.ofString "a/../b"), .str (Str.ofString "a b")]) b = some (.dict kvs eb) := by rw [upd_ne (by rintro rfl; rw [hb'] at hLa; cases hLa)]; exact hb'
  generalize (upd σ' La (.list [.str (Str.ofString ""), .str (Str.ofString "a/../b"), .str (Str.ofString "a b")])) = σ₁ at g1 hb1 ⊢
  by_cases hbad : d.x ∈ badL
  ·rw [decide_eq_true hbad] at hok
   rw [outs_l (out_path (d := d) hok)] at q
   simp [hbad, seq_eq]
   exact q σ₁ g1
  ·rw [decide_eq_false hbad] at hok
   have hok' : okPath d.x = true := hok
   simp [hbad]
   rw [seq_eq]
   simp
   have go : ∀ k2 e2 σ₂ m₂, outc kvs d = .inr k2 → Grow σ0 σ₂ → σ₂ b = some (.dict k2 e2) → m₂ "_law_made" = some (.ref b) → forL (.name "_law_deed") (fun σ'' => σ'' L = some (.list all)) (WB ns) (r.map deedV) m₂ σ₂ (kont (sSeq (T__law_word_of_3 ns) sNil) (fin Q)) := by
    intro k2 e2 σ₂ m₂ ho g2 hb2 hm2
    rw [outs_r ho] at q
    exact ih k2 e2 (n + 1) m₂ σ₂ g2 hb2 (ht.out hx ho) (by exact Nat.le_of_not_lt fun hg => lin [n, (r.length)] [(1, (.a (.v 0) (.a (.v 1) (.n 1))), (.n 1000)), (1, (.a (.n 1000) (.n 1)), (.a (.a (.v 0) (.n 1)) (.v 1)))] rfl hn hg) (fun d' h' => hd d' (.tail _ h')) hm2 q
   refine deed0 ns ?_
   cases hcu : d.cu with
   | true =>
    simp
    refine deed1 ns ?_
    simp [hm]
    refine notin_dict hb1 ?_
    rw [vget_isSome]
    by_cases hin : d.x ∈ keysOf kvs
    ·have hin' : d.x ∈ kvs.map (·.1) := hin
     simp only [decide_eq_true hin', Bool.not_true]
     simp
     rw [seq_eq]
     simp
     refine deed0 ns ?_
     simp [hcu]
     rw [seq_eq]
     simp [hm, tyDict_ref hb1]
     refine deed1 ns ?_
     obtain ⟨v, hv, _⟩ := vget_mem hin'
     refine pop_dict hb1 hv fun ep' => ?_
     exact go _ _ _ _ (out_cut hok' hcu hin) (g1.over hb) (upd_same _ _ _) (by simp [hm])
    ·have hin' : d.x ∉ kvs.map (·.1) := hin
     rw [outs_l (out_nofile hok' hcu hin)] at q
     simp only [decide_eq_false hin', Bool.not_false]
     simp [seq_eq]
     exact q σ₁ g1
   | false =>
    simp [cut_put]
    rw [seq_eq]
    simp
    refine deed0 ns ?_
    simp [hcu, cut_put]
    rw [seq_eq]
    simp [hm]
    refine deed1 ns ?_
    refine sp_free hb1 ht.key (by exact Nat.le_trans hx (by decide)) ?_
    cases hfr : isFree (keysOf kvs) d.x with
    | false =>
     rw [outs_l (out_way hok' hcu hfr)] at q
     simp [seq_eq]
     exact q σ₁ g1
    | true =>
     simp [seq_eq]
     refine deed2 ns hcu ?_
     simp [hm]
     refine deed1 ns ?_
     refine set_dict hb1 (by exact Nat.lt_of_not_le fun hg => lin [n, (r.length), (kvs.length)] [(1, (.a (.v 0) (.a (.v 1) (.n 1))), (.n 1000)), (1, (.v 2), (.v 0)), (1, (.n 16777216), (.v 2))] rfl hn len hg) fun ep' => ?_
     exact go _ _ _ _ (out_put hok' hcu hfr) (g1.over hb) (upd_same _ _ _) (by simp [hm])
theorem s_word (ns : List Int) : ∀ vs σ Q, sp__law_word_of ns vs σ Q → vs.length = 2 ∧ T__law_word_of ns (bindM ["_law_tree", "_law_deeds"] vs none') σ (fin Q) := by
 rintro vs σ Q ⟨a, L, kvs, ep, ds, n, rfl, ha, hL, ht, hn, hd, q⟩
 refine ⟨rfl, ?_⟩
 unfold T__law_word_of
 rw [seq_eq]
 simp [T__law_word_of_1]
 refine dictc_dict ha fun b eb hb => ?_
 have xb := upd_same σ b (.dict kvs eb)
 have g2 : Grow σ (upd σ b (.dict kvs eb)) := Grow.refl.upd hb
 have hL2 := g2 _ _ hL
 generalize (upd σ b (.dict kvs eb)) = σ₂ at xb g2 hL2 ⊢
 rw [seq_eq]
 simp [T__law_word_of_2, iter_list hL2]
 exact word_loop hL hb ds kvs eb n _ σ₂ g2 xb ht hn hd (by simp) q
end Mine
end
noncomputable section
set_option maxRecDepth 10000
namespace Mine
open PySem PySem.W PyProof.Rows PySem.Calls
theorem vget_cons (k : Str) (v : V) (r : List (Str × V)) (x : Str) : vget ((k, v) :: r) x = if k = x then some v else vget r x := by
 unfold vget
 rw [List.find?_cons]
 by_cases h : k = x
 ·simp [h]
 ·simp [h]
theorem vget_none {kvs : List (Str × V)} {x : Str} (h : x ∉ keysOf kvs) : vget kvs x = Option.none := by
 have := vget_isSome kvs x
 have h' : x ∉ kvs.map (·.1) := h
 rw [decide_eq_false h'] at this
 exact Option.not_isSome_iff_eq_none.mp (by rw [this]; decide)
theorem vget_out (x : Str) : ∀ (kvs : List (Str × V)) (y : Str), vget (vout kvs x) y = if y = x then Option.none else vget kvs y
 | [], y => by simp [vout, vget]
 | (k, v) :: r, y => by
  have ih := vget_out x r y
  unfold vout at ih ⊢
  rw [List.filter_cons]
  by_cases h : k = x
  ·subst h
   simp only [ne_eq, not_true, decide_false]
   rw [vget_cons]
   by_cases hy : y = k
   ·subst hy; simpa using ih
   ·have hy' : ¬ k = y := fun e => hy e.symm
    simpa [hy, hy'] using ih
  ·simp only [ne_eq, h, not_false_iff, decide_true, if_true]
   rw [vget_cons, vget_cons, ih]
   by_cases hk : k = y
   ·subst hk; simp [h]
   ·simp [hk]
theorem vget_app (kvs : List (Str × V)) (k : Str) (v : V) (y : Str) : vget (kvs ++ [(k, v)]) y = match vget kvs y with | some w => some w | Option.none => if k = y then some v else Option.none := by
 induction kvs with
 | nil => rw [List.nil_append, vget_cons]; rfl
 | cons q r ih =>
  obtain ⟨k', v'⟩ := q
  rw [List.cons_append, vget_cons, vget_cons, ih]
  by_cases h : k' = y
  ·simp [h]
  ·simp [h]
theorem vget_map (k : Str) (v : V) (y : Str) : ∀ kvs : List (Str × V), vget (kvs.map fun kv => if kv.1 = k then (kv.1, v) else kv) y = if y = k ∧ y ∈ keysOf kvs then some v else vget kvs y
 | [] => by simp [keysOf, vget]
 | (k', v') :: r => by
  have ih := vget_map k v y r
  have e : keysOf ((k', v') :: r) = k' :: keysOf r := rfl
  rw [List.map_cons, e]
  by_cases hk : k' = k
  ·subst hk
   simp only [if_true]
   rw [vget_cons, vget_cons, ih]
   by_cases hy : k' = y
   ·subst hy; simp
   ·have hy' : ¬ y = k' := fun e => hy e.symm
    simp [hy, hy']
  ·simp only [hk, if_false]
   rw [vget_cons, vget_cons, ih]
   by_cases hy : k' = y
   ·subst hy; simp [hk]
   ·have hy' : ¬ y = k' := fun e => hy e.symm
    simp [hy, hy']
theorem vget_put (kvs : List (Str × V)) (k : Str) (v : V) (y : Str) : vget (vstored kvs k v) y = if y = k then some v else vget kvs y := by
 unfold vstored
 split
 ·rename_i h
  have hk : k ∈ keysOf kvs := by
   obtain ⟨q, h1, h2⟩ := List.any_eq_true.mp h
   exact List.mem_map.mpr ⟨q, h1, by simpa using h2⟩
  rw [vget_map]
  by_cases hy : y = k
  ·subst hy; simp [hk]
  ·simp [hy]
 ·rename_i h
  have hk : k ∉ keysOf kvs := fun hm => h (by
   obtain ⟨q, h1, h2⟩ := List.mem_map.mp hm
   exact List.any_eq_true.mpr ⟨q, h1, by simpa using h2⟩)
  rw [vget_app]
  by_cases hy : y = k
  ·subst hy; rw [vget_none hk]
  ·have hy' : ¬ k = y := fun e => hy e.symm
   simp only [hy', hy, if_false]
   cases vget kvs y <;> rfl
theorem gS_get {n : Nat} {kvs : List (Str × V)} (h : Tr n kvs) {x : Str} (hx : x ∈ keysOf kvs) : vget kvs x = some (.str (gS kvs x)) := by
 obtain ⟨v, hv, hm⟩ := vget_mem hx
 obtain ⟨y, hy⟩ := h.val _ hm
 have hy' : v = .str y := hy
 subst hy'
 unfold gS
 rw [hv]
theorem deed_strs (d : Deed) : ∃ xs : List Str, deedV d = .tup (xs.map .str) ∧ 2 ≤ xs.length ∧ xs.length ≤ 3 := by
 obtain ⟨cu, x, l⟩ := d
 cases cu
 ·exact ⟨[Str.ofString "put", x, l], rfl, by simp, by simp⟩
 ·exact ⟨[Str.ofString "cut", x], rfl, by simp, by simp⟩
theorem s_isdeed (ns : List Int) : ∀ vs σ Q, sp__law_is_deed ns vs σ Q → vs.length = 1 ∧ T__law_is_deed ns (bindM ["_law_deed"] vs none') σ (fin Q) := by
 rintro vs σ Q ⟨d, rfl, q⟩
 refine ⟨rfl, ?_⟩
 obtain ⟨xs, e, h2, h3⟩ := deed_strs d
 rw [e]
 unfold T__law_is_deed
 rw [seq_eq]
 simp [T__law_is_deed_1]
 refine ⟨by exact Nat.le_trans h3 (by decide), ?_⟩
 rw [if_neg (by omega)]
 refine ⟨by exact Nat.le_trans h3 (by decide), ?_⟩
 rw [if_neg (by omega)]
 rw [seq_eq]
 simp [T__law_is_deed_2]
 refine compL_filter (fun s => s = σ) (fun _ _ => trivial) (fun _ => Option.none) _ _ _ _ (by simp; exact Nat.le_trans h3 (by decide)) ?_ rfl ?_
 ·rintro v hv s Q₁ Q₂ rfl n1 n2
  obtain ⟨x, hx, rfl⟩ := List.mem_map.mp hv
  refine ⟨_, rfl, ?_⟩
  simp
  exact n2 _ rfl rfl
 ·rintro s rfl
  have e0 : [] ++ (xs.map V.str).filterMap (fun _ => (Option.none : Option V)) = [] := by simp
  rw [e0]
  intro L hL
  rw [len_list (upd_same _ _ _)]
  simp
  exact q _ (Grow.refl.upd hL)
noncomputable def fcut (kb : List (Str × V)) : V → Option V
 | .str x => if x ∈ keysOf kb then Option.none else some (deedV ⟨true, x, Str.ofString ""⟩)
 | _ => Option.none
noncomputable def fput (ka kb : List (Str × V)) : V → Option V
 | .str x => if newer ka kb x = true then some (deedV ⟨false, x, gS kb x⟩) else Option.none
 | _ => Option.none
theorem cuts_eq (ka kb : List (Str × V)) : ((srt (keysOf ka)).map V.str).filterMap (fcut kb) = (cutsL ka kb).map deedV := by
 unfold cutsL
 rw [List.map_filterMap, List.filterMap_map]
 congr 1
 funext x
 show fcut kb (.str x) = _
 by_cases h : x ∈ keysOf kb <;> simp [fcut, h]
theorem puts_eq (ka kb : List (Str × V)) (l : List Str) : (l.map V.str).filterMap (fput ka kb) = (l.filterMap fun x => if newer ka kb x = true then some (⟨false, x, gS kb x⟩ : Deed) else Option.none).map deedV := by
 rw [List.map_filterMap, List.filterMap_map]
 congr 1
 funext x
 show fput ka kb (.str x) = _
 by_cases h : newer ka kb x = true <;> simp [fput, h]
section
variable {ns : List Int} {σ : View} {a b : Addr} {ka kb : List (Str × V)} {e1 e2 n1 n2 : Nat} {m : Loc} {p o nw : String}
theorem comp_cuts {inv : View → Prop} {Q : List V → View → Prop} (hp : nw ≠ p) (hi : inv σ) (hm : m nw = some (.ref b)) (hb : σ b = some (.dict kb e2)) (hl : ka.length ≤ 1000) (q : Q ((cutsL ka kb).map deedV) σ) :
  compL (.name p) inv (tBool (eBin opNotInD (eName p) (eName nw))) (eTup (lCons (eVal (.str (Str.ofString "cut"))) (lCons (eName p) lNil))) m ((srt (keysOf ka)).map .str) [] σ Q := by
 refine compL_filter (fun s => s = σ) (fun s h => by rw [h]; exact hi) (fcut kb) _ _ _ _ (by rw [List.length_map, srt_len]; simp [keysOf]; exact Nat.le_trans hl (by decide)) ?_ rfl ?_
 ·rintro v hv s Q₁ Q₂ rfl n1 n2
  obtain ⟨x, hx, rfl⟩ := List.mem_map.mp hv
  refine ⟨_, rfl, ?_⟩
  have hm' : put m p (.str x) nw = some (.ref b) := by rw [put_ne hp]; exact hm
  simp [hp, hm]
  refine notin_dict hb ?_
  rw [vget_isSome]
  by_cases hin : x ∈ keysOf kb
  ·have hin' : x ∈ kb.map (·.1) := hin
   simp only [decide_eq_true hin', Bool.not_true]
   simp
   exact n2 _ rfl (by unfold fcut; exact if_pos hin)
  ·have hin' : x ∉ kb.map (·.1) := hin
   simp only [decide_eq_false hin', Bool.not_false]
   simp
   exact n1 _ _ rfl (by unfold fcut; exact if_neg hin)
 ·rintro s rfl
  rw [List.nil_append, cuts_eq]
  exact q
theorem put_test {x : Str} {Q : Bool → View → Prop} (ta : Tr n1 ka) (tb : Tr n2 kb) (ha : σ a = some (.dict ka e1)) (hb : σ b = some (.dict kb e2)) (hx : x ∈ keysOf kb) (h1 : m p = some (.str x)) (h2 : m o = some (.ref a)) (h3 : m nw = some (.ref b)) (q : Q (newer ka kb x) σ) :
  tOr (tBool (eBin opNotInD (eName p) (eName o))) (tOr (tBool (eBin opNe0 (eBin opItemD (eName o) (eName p)) (eBin opItemD (eName nw) (eName p)))) tF) m σ Q := by
 simp [h1, h2, h3]
 refine notin_dict ha ?_
 rw [vget_isSome]
 by_cases hin : x ∈ keysOf ka
 ·have hin' : x ∈ ka.map (·.1) := hin
  simp only [decide_eq_true hin', Bool.not_true]
  simp
  refine item_dict ha (gS_get ta hin) ?_
  refine item_dict hb (gS_get tb hx) ?_
  simp
  unfold newer at q
  rw [decide_eq_true hin] at q
  by_cases he : gS ka x = gS kb x
  ·simpa [he] using q
  ·simpa [he] using q
 ·have hin' : x ∉ ka.map (·.1) := hin
  simp only [decide_eq_false hin', Bool.not_false]
  simp
  unfold newer at q
  rw [decide_eq_false hin] at q
  exact q
theorem comp_puts {inv : View → Prop} {Q : List V → View → Prop} (hp : nw ≠ p) (ho : o ≠ p) (hi : inv σ) (ta : Tr n1 ka) (tb : Tr n2 kb) (hma : m o = some (.ref a)) (hm : m nw = some (.ref b)) (ha : σ a = some (.dict ka e1)) (hb : σ b = some (.dict kb e2)) (hl : kb.length ≤ 1000) (q : Q ((putsL ka kb).map deedV) σ) :
  compL (.name p) inv (tOr (tBool (eBin opNotInD (eName p) (eName o))) (tOr (tBool (eBin opNe0 (eBin opItemD (eName o) (eName p)) (eBin opItemD (eName nw) (eName p)))) tF)) (eTup (lCons (eVal (.str (Str.ofString "put"))) (lCons (eName p) (lCons (eBin opItemD (eName nw) (eName p)) lNil)))) m ((srt (keysOf kb)).map .str) [] σ Q := by
 refine compL_filter (fun s => s = σ) (fun s h => by rw [h]; exact hi) (fput ka kb) _ _ _ _ (by rw [List.length_map, srt_len]; simp [keysOf]; exact Nat.le_trans hl (by decide)) ?_ rfl ?_
 ·rintro v hv s Q₁ Q₂ rfl n1 n2
  obtain ⟨x, hx, rfl⟩ := List.mem_map.mp hv
  have hx' : x ∈ keysOf kb := srt_mem.mp hx
  refine ⟨_, rfl, ?_⟩
  have hm' : put m p (.str x) nw = some (.ref b) := by rw [put_ne hp]; exact hm
  have hma' : put m p (.str x) o = some (.ref a) := by rw [put_ne ho]; exact hma
  refine put_test ta tb ha hb hx' (by simp) hma' hm' ?_
  cases hn : newer ka kb x with
  | true =>
   simp [hp, hm]
   refine item_dict hb (gS_get tb hx') ?_
   exact n1 _ _ rfl (by unfold fput; exact if_pos hn)
  | false =>
   simp
   exact n2 _ rfl (by unfold fput; exact if_neg (by rw [hn]; decide))
 ·rintro s rfl
  rw [List.nil_append, puts_eq]
  exact q
end
theorem s_between (ns : List Int) : ∀ vs σ Q, sp_between ns vs σ Q → vs.length = 2 ∧ T_between ns (bindM ["old", "new"] vs none') σ (fin Q) := by
 rintro vs σ Q ⟨a, b, ka, kb, e1, e2, rfl, ha, hb, ta, tb, q⟩
 refine ⟨rfl, ?_⟩
 have la := ta.len
 have lb := tb.len
 unfold T_between
 rw [seq_eq]
 simp [T_between_1]
 refine ⟨ka, ⟨e1, ha⟩, ?_⟩
 intro S1 h1
 have x1 := upd_same σ S1 (.list ((srt (ka.map (·.1))).map .str))
 have g1 := Grow.refl.upd (σ := σ) (o := .list ((srt (ka.map (·.1))).map .str)) h1
 rw [iter_list x1]
 generalize (upd σ S1 (.list ((srt (ka.map (·.1))).map .str))) = σ₁ at x1 g1 ⊢
 refine comp_cuts (ka := ka) (by decide) x1 (by simp) (g1 _ _ hb) (by exact Nat.le_trans la (by decide)) ?_
 intro D hD
 have xD := upd_same σ₁ D (.list ((cutsL ka kb).map deedV))
 have g2 := g1.upd (o := .list ((cutsL ka kb).map deedV)) hD
 have hDn : σ D = Option.none := g1.none hD
 generalize (upd σ₁ D (.list ((cutsL ka kb).map deedV))) = σ₂ at xD g2 ⊢
 rw [seq_eq]
 simp [T_between_2]
 refine ⟨kb, ⟨e2, g2 _ _ hb⟩, ?_⟩
 intro S2 h2
 have hS2n : S2 ≠ D := by rintro rfl; rw [xD] at h2; cases h2
 have x2 := upd_same σ₂ S2 (.list ((srt (kb.map (·.1))).map .str))
 have g3 := g2.upd (o := .list ((srt (kb.map (·.1))).map .str)) h2
 have xD2 : upd σ₂ S2 (.list ((srt (kb.map (·.1))).map .str)) D = some (.list ((cutsL ka kb).map deedV)) := by rw [upd_ne hS2n.symm]; exact xD
 rw [iter_list x2]
 generalize (upd σ₂ S2 (.list ((srt (kb.map (·.1))).map .str))) = σ₃ at x2 g3 xD2 ⊢
 have lcut : (cutsL ka kb).length ≤ 300 := by
  have h := List.length_filterMap_le (fun x => if x ∈ keysOf kb then (Option.none : Option Deed) else some ⟨true, x, Str.ofString ""⟩) (srt (keysOf ka))
  rw [srt_len] at h
  have h' : (cutsL ka kb).length ≤ (keysOf ka).length := h
  simp [keysOf] at h'
  omega
 refine forL_inv (fun i m σ' => Grow σ σ' ∧ m "old" = some (.ref a) ∧ m "new" = some (.ref b) ∧ m "deeds" = some (.ref D) ∧ σ' S2 = some (.list ((srt (kb.map (·.1))).map .str)) ∧
   σ' D = some (.list ((cutsL ka kb).map deedV ++ (((srt (keysOf kb)).map V.str).take i).filterMap (fput ka kb)))) (fun _ _ _ => False)
  (fun i m σ' h => h.2.2.2.2.1) _ ?_ ?_ (fun _ _ _ h => h.elim) _ _ ⟨g3, by simp, by simp, by simp, x2, by simpa using xD2⟩
 ·rintro i v m σ' Q' hv ⟨g, ho, hn, hd, hS, hx⟩ k1 k2 k3
  have hv' := hv
  rw [List.getElem?_map] at hv
  obtain ⟨x, hxi, rfl⟩ := Option.map_eq_some_iff.mp hv
  have hxk : x ∈ keysOf kb := srt_mem.mp (List.mem_of_getElem? hxi)
  refine ⟨_, rfl, ?_⟩
  have nx : (((srt (keysOf kb)).map V.str).take (i + 1)).filterMap (fput ka kb) = (((srt (keysOf kb)).map V.str).take i).filterMap (fput ka kb) ++ (fput ka kb (.str x)).toList := by
   rw [List.take_add_one, List.filterMap_append]
   congr 1
   have : ((srt (keysOf kb)).map V.str)[i]? = some (.str x) := hv'
   rw [this]
   cases hf : fput ka kb (.str x) <;> simp [hf]
  rw [seq_eq]
  refine put_test ta tb (g _ _ ha) (g _ _ hb) hxk (by simp) (by simp [ho]) (by simp [hn]) ?_
  cases hnw : newer ka kb x with
  | true =>
   have hf : fput ka kb (.str x) = some (deedV ⟨false, x, gS kb x⟩) := by unfold fput; exact if_pos hnw
   rw [hf] at nx
   have hl1 := List.length_filterMap_le (fput ka kb) (((srt (keysOf kb)).map V.str).take i)
   have hl2 : (((srt (keysOf kb)).map V.str).take i).length ≤ 300 := by rw [List.length_take, List.length_map, srt_len]; simp [keysOf]; exact Nat.le_of_not_lt fun hg => lin [(kb.length), (min i kb.length)] [(1, (.v 0), (.n 300)), (1, (.v 1), (.v 0)), (1, (.a (.n 300) (.n 1)), (.v 1))] rfl lb (Nat.min_le_right (i) (kb.length)) hg
   simp [seq_eq, hd, hn]
   refine ⟨?_, item_dict (g _ _ hb) (gS_get tb hxk) ?_⟩
   ·simp [tyList, hx]
   refine ⟨_, hx, by simp; exact Nat.lt_of_not_le fun hg => lin [((cutsL ka kb).length), ((List.filterMap (fput ka kb) (List.take i (List.map V.str (srt (keysOf kb))))).length), ((List.take i (List.map V.str (srt (keysOf kb)))).length)] [(1, (.v 0), (.n 300)), (1, (.v 1), (.v 2)), (1, (.v 2), (.n 300)), (1, (.n 16777216), (.a (.v 0) (.v 1)))] rfl lcut hl1 hl2 hg, ?_⟩
   refine k1 _ _ ⟨g.over hDn, by simp [ho], by simp [hn], by simp [hd], by rw [upd_ne hS2n]; exact hS, ?_⟩
   rw [upd_same, nx, ← List.append_assoc]
   rfl
  | false =>
   have hf : fput ka kb (.str x) = Option.none := by unfold fput; exact if_neg (by rw [hnw]; decide)
   rw [hf] at nx
   simp [seq_eq]
   refine k1 _ _ ⟨g, by simp [ho], by simp [hn], by simp [hd], hS, ?_⟩
   rw [nx]
   simpa using hx
 ·rintro m σ' ⟨g, ho, hn, hd, hS, hx⟩
  rw [kont_next, seq_eq]
  simp [T_between_3, hd]
  refine q D σ' g hDn ?_
  rw [hx, List.take_of_length_le (by simp [keysOf]), puts_eq, ← List.map_append]
  rfl
end Mine
end
noncomputable section
set_option maxRecDepth 10000
namespace Mine
open PySem PySem.W PyProof.Rows PySem.Calls
theorem jn_app (c : Nat) : ∀ (xs ys : List (List Nat)), xs ≠ [] → ys ≠ [] → jn c (xs ++ ys) = jn c xs ++ c :: jn c ys
 | [], _, h, _ => absurd rfl h
 | [x], y :: r, _, _ => rfl
 | [x], [], _, h => absurd rfl h
 | x :: x' :: r, ys, _, hy => by
  have ih := jn_app c (x' :: r) ys (by simp) hy
  simp only [List.cons_append] at ih ⊢
  simp only [jn, ih, List.append_assoc, List.cons_append]
theorem join_app {xs ys : List Str} (hx : xs ≠ []) (hy : ys ≠ []) : Str.join (Str.ofString "/") (xs ++ ys) = Str.join (Str.ofString "/") xs ++ Str.ofString "/" ++ Str.join (Str.ofString "/") ys := by
 apply cl_inj
 rw [cl_append, cl_append, sl_eq, cl_join, cl_join, cl_join, List.map_append, jn_app _ _ _ (by simpa using hx) (by simpa using hy)]
 show _ = _ ++ [47] ++ _
 simp
theorem split_ne (x : Str) : Txt.split x (Str.ofString "/") ≠ [] := by
 have := PyProof.Rows.split_pos x (Str.ofString "/")
 intro e; rw [e] at this; simp at this
theorem ok7_join {xs : List Str} (h : ∀ x ∈ xs, okPart x = true) (h0 : xs ≠ []) (h7 : xs.length ≤ 7) : ok7 (Str.join (Str.ofString "/") xs) :=
 ⟨okPath_join h h0 (by exact Nat.le_succ_of_le h7), by rw [split_join (fun x hx => part_fr (h x hx)) h0]; exact h7⟩
theorem tops_len : ∀ j : Nat, j < 170 → (Str.ofString "tops" ++ Str.ofString ((j : Int).repr)).length ≤ 12 := by decide +kernel
theorem x_len : (Str.ofString "/x").length = 2 := by decide +kernel
theorem tops_ok : ∀ j : Nat, j < 170 → okPart (Str.ofString "tops" ++ Str.ofString ((j : Int).repr)) = true := by decide +kernel
theorem x_ok : okPart (Str.ofString "x") = true := by decide +kernel
theorem slx : Str.ofString "/x" = Str.ofString "/" ++ Str.ofString "x" := by decide +kernel
theorem app_assoc (x y z : Str) : x ++ (y ++ z) = x ++ y ++ z := cl_inj (by simp [cl_append])
theorem tops_path (j : Nat) (hj : j < 170) : ok7 (Str.ofString "tops" ++ Str.ofString ((j : Int).repr) ++ Str.ofString "/x") := by
 rw [slx, app_assoc]
 exact ok7_join (xs := [Str.ofString "tops" ++ Str.ofString ((j : Int).repr), Str.ofString "x"]) (by intro z hz; simp at hz; rcases hz with rfl | rfl; exact tops_ok j hj; exact x_ok) (by simp) (by simp)
theorem starts_long {x y : Str} (h : x.length < y.length) : Txt.startswith x y = false := by
 cases e : Txt.startswith x y with
 | false => rfl
 | true =>
  have := ((starts_iff x y).mp e).length_le
  rw [← cl_len, ← cl_len] at this
  exact False.elim (lin [(x.length), (y.length)] [(1, (.a (.v 0) (.n 1)), (.v 1)), (1, (.v 1), (.v 0))] rfl h this)
theorem clr_self (x : Str) : clr x x = true := by
 have h : Txt.startswith x (x ++ Str.ofString "/") = false := starts_long (by rw [len_append, sl_len]; exact Nat.le_refl _)
 unfold clr; rw [h]; rfl
theorem clr_sym (x y : Str) : clr x y = clr y x := by unfold clr; rw [Bool.or_comm]
theorem gS_out {kvs : List (Str × V)} {x p : Str} (h : p ≠ x) : gS (vout kvs x) p = gS kvs p := by unfold gS; rw [vget_out, if_neg h]
theorem gS_put {kvs : List (Str × V)} {x p l : Str} (h : p ≠ x) : gS (vstored kvs x (.str l)) p = gS kvs p := by unfold gS; rw [vget_put, if_neg h]
theorem keys_out {kvs : List (Str × V)} {x p : Str} : p ∈ keysOf (vout kvs x) ↔ p ≠ x ∧ p ∈ keysOf kvs := vout_keys kvs x p
theorem keys_put {kvs : List (Str × V)} {x p l : Str} : p ∈ keysOf (vstored kvs x (.str l)) ↔ p = x ∨ p ∈ keysOf kvs := vstored_keys kvs x _ p
theorem free_clr {ks : List Str} {x q : Str} (h : isFree ks x = true) (hq : q ∈ ks) : clr x q = true := List.all_eq_true.mp h q hq
theorem NF.grew {ka kb k2 : List (Str × V)} (h : NF ka kb) (g : Grew kb k2) : NF ka k2 := by
 rcases g with rfl | ⟨x, rfl⟩ | ⟨x, l, hf, rfl⟩
 ·exact h
 ·intro p hp hn q hq
  obtain ⟨hpx, hp⟩ := keys_out.mp hp
  refine h p hp ?_ q (keys_out.mp hq).2
  unfold newer at hn ⊢
  rwa [gS_out hpx] at hn
 ·intro p hp hn q hq
  by_cases hpx : p = x
  ·subst hpx
   rcases keys_put.mp hq with rfl | hq
   ·exact clr_self _
   ·exact free_clr hf hq
  ·have hp' := (keys_put.mp hp).resolve_left hpx
   rcases keys_put.mp hq with rfl | hq
   ·rw [clr_sym]; exact free_clr hf hp'
   ·refine h p hp' ?_ q hq
    unfold newer at hn ⊢
    rwa [gS_put hpx] at hn
theorem NF.self (ka : List (Str × V)) : NF ka ka := fun p hp hn => by
 unfold newer at hn
 rw [decide_eq_true hp] at hn
 simp at hn
theorem NF.nil (ka : List (Str × V)) : NF ka [] := fun p hp => by simp [keysOf] at hp
structure TS (m : Loc) (σ σ₀ : View) (key : String) (a : Addr) (kvs : List (Str × V)) (sh : Int) (n : Nat) : Prop where
 sc : m "_law_script" = some .script
 sf : m "_law_shift" = some (.int sh)
 at_ : m key = some (.ref a)
 d : ∃ ep, σ a = some (.dict kvs ep)
 fr : σ₀ a = Option.none
 g : Grow σ₀ σ
 t : Tr n kvs
theorem tr3 {ns : List Int} {m : Loc} {σ σ₀ : View} {a : Addr} {sh : Int} {Q : Fl → Loc → View → Prop} (S : TS m σ σ₀ "_law_old" a [] sh 0) (h : ∀ m' σ' b kvs, TS m' σ' σ₀ "_law_old" b kvs sh 8 → Q .next m' σ') : T__law_trees_3 ns m σ Q := by
 have m1 := Int.emod_nonneg (cell ns 1) (b := 8) (by decide)
 have m2 := Int.emod_lt_of_pos (cell ns 1) (b := 8) (by decide)
 simp [T__law_trees_3, S.sc]
 refine ⟨⟨by exact Int.le_trans (by decide) m1, by exact Int.le_trans m2 (by decide)⟩, ?_⟩
 refine forL_inv (fun i m σ => ∃ b kvs, TS m σ σ₀ "_law_old" b kvs sh i) (fun _ _ _ => False) (fun _ _ _ _ => trivial) _ ?_ ?_ (fun _ _ _ h => h.elim) _ _ ⟨a, [], S⟩
 ·rintro i v m σ Q' hv ⟨b, kvs, S⟩ n1 n2 n3
  obtain ⟨hi, rfl⟩ := range_get hv
  refine ⟨_, rfl, ?_⟩
  rw [seq_eq]
  simp [S.sc, S.at_, S.sf]
  refine ⟨by exact Int.natCast_nonneg _, ?_⟩
  obtain ⟨ep, hd⟩ := S.d
  refine ⟨b, kvs, ep, _, sh, i, rfl, hd, S.t, by omega, fun b2 k2 e2 σ2 g hb2 hd2 ht2 hg => ?_⟩
  exact n1 _ _ ⟨b2, k2, by simp [S.sc], by simp [S.sf], by simp, ⟨e2, hd2⟩, S.g.none hb2, S.g.trans g, ht2⟩
 ·rintro m σ ⟨b, kvs, S⟩
  rw [range_len] at S
  exact h m σ b kvs { S with t := S.t.mono (by omega) }
end Mine
end
noncomputable section
set_option maxRecDepth 10000
namespace Mine
open PySem PySem.W PyProof.Rows PySem.Calls
noncomputable def moreL : List Int := [0, 60, 0, 0, 170, 0, 0, 0, 0, 60, 0, 0, 0, 0, 0, 0]
theorem more_get {k : Int} (h0 : 0 ≤ k) (h1 : k < 16) : ∃ n : Int, 0 ≤ n ∧ n ≤ 170 ∧ (moreL.map V.int)[k.toNat]? = some (.int n) := by
 have hl : k.toNat < moreL.length := by show _ < 16; omega
 have : ∀ n ∈ moreL, 0 ≤ n ∧ n ≤ 170 := by decide
 have h := this _ (List.getElem_mem hl)
 exact ⟨moreL[k.toNat], h.1, h.2, by rw [List.getElem?_map, List.getElem?_eq_getElem hl]; rfl⟩
noncomputable def lInts : List Int → LT
 | [] => lNil
 | i :: r => lCons (eVal (.int i)) (lInts r)
theorem lInts_eq (l : List Int) {m : Loc} {σ : View} {R : List V → View → Prop} : lInts l m σ R = R (l.map .int) σ := by
 induction l generalizing R with
 | nil => rfl
 | cons i r ih => simp [lInts, ih]
theorem range_of {ns : List Int} {m : Loc} {σ : View} {Q : Fl → Loc → View → Prop} {l : List Int} {B : ST} (hs : m "_law_script" = some .script) (h : l.length ≤ 1000 ∧ newL (l.map .int) σ fun a σ₁ => opItem ns a (V.int (cell ns 1 / 8 % 16)) σ₁ fun v σ₁ => rangeOf [v] σ₁ fun items inv σ' => forL (Tgt.name "_law_j") inv B items m σ' Q) :
   sFor (.name "_law_j") (iRange (lCons (eBin (opItem ns) (eList (lInts l)) (eBin opMod (eBin opDiv (eCall (sp__law_cell_at ns) (lCons (eName "_law_script") (lCons (eVal (.int 1)) lNil))) (eVal (.int 8))) (eVal (.int 16)))) lNil)) B m σ Q := by
 simp [lInts_eq, hs]
 exact h
theorem t4_eq (ns : List Int) : T__law_trees_4 ns = (sFor (.name "_law_j") (iRange (lCons (eBin (opItem ns) (eList (lInts moreL)) (eBin opMod (eBin opDiv (eCall (sp__law_cell_at ns) (lCons (eName "_law_script") (lCons (eVal (.int 1)) lNil))) (eVal (.int 8))) (eVal (.int 16)))) lNil)) (sSeq (sIf (tBool (eBin opNotInD (eBin opAdd (eVal (.str (Str.ofString "tops"))) (eCall spStr (lCons (eName "_law_j") lNil))) (eName "_law_old"))) (sSeq (sSetItem setD (eCall (sp__law_line_by ns) (lCons (eBin opMod (eName "_law_j") (eVal (.int 3))) (lCons (eName "_law_shift") lNil))) (eName "_law_old") (eBin opAdd (eBin opAdd (eVal (.str (Str.ofString "tops"))) (eCall spStr (lCons (eName "_law_j") lNil))) (eVal (.str (Str.ofString "/x")))))
 sNil) sNil)
 sNil)) := rfl
theorem tr4 {ns : List Int} {m : Loc} {σ σ₀ : View} {a : Addr} {sh : Int} {kvs : List (Str × V)} {Q : Fl → Loc → View → Prop} (S : TS m σ σ₀ "_law_old" a kvs sh 8) (h : ∀ m' σ' kvs, TS m' σ' σ₀ "_law_old" a kvs sh 190 → Q .next m' σ') : T__law_trees_4 ns m σ Q := by
 rw [t4_eq]
 refine range_of S.sc ⟨by decide, ?_⟩
 intro La hLa
 have m1 := Int.emod_nonneg (cell ns 1 / 8) (b := 16) (by decide)
 have m2 := Int.emod_lt_of_pos (cell ns 1 / 8) (b := 16) (by decide)
 generalize cell ns 1 / 8 % 16 = r at m1 m2 ⊢
 obtain ⟨N, hN0, hN, hg⟩ := more_get m1 m2
 refine item_list (v := .int N) (upd_same _ _ _) m1 hg ?_
 simp only [range_1]
 refine ⟨⟨by omega, by omega⟩, ?_⟩
 have S' : ∀ o, TS m (upd σ La o) σ₀ "_law_old" a kvs sh 8 := by
  intro o
  obtain ⟨ep, hd⟩ := S.d
  exact { S with d := ⟨ep, by rw [upd_ne (by rintro rfl; rw [hd] at hLa; cases hLa)]; exact hd⟩, g := S.g.upd hLa }
 refine forL_inv (fun i m σ => ∃ kvs, TS m σ σ₀ "_law_old" a kvs sh (8 + i)) (fun _ _ _ => False) (fun _ _ _ _ => trivial) _ ?_ ?_ (fun _ _ _ h => h.elim) _ _ ⟨kvs, S' _⟩
 ·rintro i v m σ Q' hv ⟨kvs, S⟩ n1 n2 n3
  obtain ⟨hi, rfl⟩ := range_get hv
  have hi' : i < 170 := by omega
  refine ⟨_, rfl, ?_⟩
  have hjl := tops_len i hi'
  have f1 := len_append (Str.ofString "tops") (Str.ofString ((i : Int).repr))
  have f2 := len_append (Str.ofString "tops" ++ Str.ofString ((i : Int).repr)) (Str.ofString "/x")
  have f3 := x_len
  have f4 : i.log2 ≤ i := Nat.log2_le_self i
  obtain ⟨ep, hd⟩ := S.d
  have len := S.t.len
  simp [seq_eq, S.at_]
  refine ⟨by omega, by omega, notin_dict hd ?_⟩
  simp
  split
  ·simp [S.sf, S.at_]
   intro y σ₂ g
   refine ⟨by omega, by omega, by omega, ?_⟩
   refine set_dict (g _ _ hd) (by omega) fun ep2 => ?_
   exact n1 _ _ ⟨_, by simp [S.sc], by simp [S.sf], by simp [S.at_], ⟨ep2, upd_same _ _ _⟩, S.fr, (S.g.trans g).over S.fr, S.t.put (by omega) (tops_path i hi')⟩
  ·exact n1 _ _ ⟨kvs, by simp [S.sc], by simp [S.sf], by simp [S.at_], ⟨ep, hd⟩, S.fr, S.g, S.t.mono (by omega)⟩
 ·rintro m σ ⟨kvs, S⟩
  rw [range_len] at S
  exact h m σ kvs { S with t := S.t.mono (by omega) }
theorem tr7 {ns : List Int} {m : Loc} {σ σ₁ : View} {a b : Addr} {sh : Int} {ka kb : List (Str × V)} {Q : Fl → Loc → View → Prop} (ho : m "_law_old" = some (.ref a)) (S : TS m σ σ₁ "_law_new" b kb sh 190) (hf : NF ka kb)
  (h : ∀ m' σ' b kb, m' "_law_old" = some (.ref a) → TS m' σ' σ₁ "_law_new" b kb sh 200 → NF ka kb → Q .next m' σ') : T__law_trees_7 ns m σ Q := by
 have m1 := Int.emod_nonneg (cell ns 2 / 5) (b := 7) (by decide)
 have m2 := Int.emod_lt_of_pos (cell ns 2 / 5) (b := 7) (by decide)
 simp [T__law_trees_7, S.sc]
 refine ⟨⟨by omega, by omega⟩, ?_⟩
 refine forL_inv (fun i m σ => ∃ b kb, m "_law_old" = some (.ref a) ∧ TS m σ σ₁ "_law_new" b kb sh (190 + i) ∧ NF ka kb) (fun _ _ _ => False) (fun _ _ _ _ => trivial) _ ?_ ?_ (fun _ _ _ h => h.elim) _ _ ⟨b, kb, ho, S, hf⟩
 ·rintro i v m σ Q' hv ⟨b, kb, ho, S, hf⟩ n1 n2 n3
  obtain ⟨hi, rfl⟩ := range_get hv
  refine ⟨_, rfl, ?_⟩
  rw [seq_eq]
  simp [S.sc, S.at_, S.sf]
  refine ⟨by omega, ?_⟩
  obtain ⟨ep, hd⟩ := S.d
  refine ⟨b, kb, ep, _, sh, 190 + i, rfl, hd, S.t, by omega, fun b2 k2 e2 σ2 g hb2 hd2 ht2 hg => ?_⟩
  exact n1 _ _ ⟨b2, k2, by simp [ho], ⟨by simp [S.sc], by simp [S.sf], by simp, ⟨e2, hd2⟩, S.g.none hb2, S.g.trans g, ht2⟩, hf.grew hg⟩
 ·rintro m σ ⟨b, kb, ho, S, hf⟩
  rw [range_len] at S
  exact h m σ b kb ho { S with t := S.t.mono (by omega) } hf
theorem s_trees (ns : List Int) : ∀ vs σ Q, sp__law_trees ns vs σ Q → vs.length = 1 ∧ T__law_trees ns (bindM ["_law_script"] vs none') σ (fin Q) := by
 rintro vs σ Q ⟨z, rfl, rfl, q⟩
 refine ⟨rfl, ?_⟩
 unfold T__law_trees
 rw [seq_eq]
 simp [T__law_trees_1]
 generalize cell ns 0 = sh
 rw [seq_eq]
 simp [T__law_trees_2]
 intro a₀ ea ha
 rw [seq_eq]
 have t0 : ∀ n, Tr n [] := fun n => ⟨Nat.zero_le _, by simp, by simp, by simp, List.nodup_nil⟩
 refine tr3 (sh := sh) (a := a₀) (σ₀ := σ) ⟨by simp, by simp, by simp, ⟨ea, upd_same _ _ _⟩, ha, Grow.refl.upd ha, t0 0⟩ fun m₁ σ₁ a kvs S => ?_
 rw [kont_next, seq_eq]
 refine tr4 S fun m₂ σ₂ ka S2 => ?_
 obtain ⟨ep, hd⟩ := S2.d
 rw [kont_next, seq_eq]
 simp [T__law_trees_5, S2.at_]
 refine dictc_dict hd fun b eb hb => ?_
 have last : ∀ (m : Loc) (σ' : View) (b : Addr) kb, m "_law_old" = some (.ref a) → TS m σ' σ₂ "_law_new" b kb sh 190 → NF ka kb → sSeq (T__law_trees_7 ns) (sSeq (T__law_trees_8 ns) sNil) m σ' (fin Q) := by
  intro m σ' b kb ho S hf
  rw [seq_eq]
  refine tr7 ho S hf fun m' σ'' b' kb' ho' S' hf' => ?_
  rw [kont_next, seq_eq]
  simp [T__law_trees_8, ho', S'.at_]
  obtain ⟨e2, hd2⟩ := S'.d
  exact q a b' ka kb' ep e2 σ'' (S2.g.trans S'.g) (S'.g _ _ hd) hd2 S2.t S'.t hf'
 show sSeq _ _ _ _ _
 rw [seq_eq]
 simp [T__law_trees_6, S2.sc]
 split
 ·rw [seq_eq]
  simp
  intro b2 eb2 hb2
  exact last _ _ b2 [] (by simp [S2.at_]) ⟨by simp [S2.sc], by simp [S2.sf], by simp, ⟨eb2, upd_same _ _ _⟩, (Grow.refl.upd hb).none hb2, (Grow.refl.upd hb).upd hb2, t0 190⟩ (NF.nil ka)
 ·exact last _ _ b ka (by simp [S2.at_]) ⟨by simp [S2.sc], by simp [S2.sf], by simp, ⟨eb, upd_same _ _ _⟩, hb, Grow.refl.upd hb, S2.t⟩ (NF.self ka)
end Mine
end
noncomputable section
set_option maxRecDepth 10000
namespace Mine
open PySem PySem.W PyProof.Rows PySem.Calls
noncomputable def cutD (x : Str) : Deed := ⟨true, x, Str.ofString ""⟩
theorem outs_app : ∀ {l1 l2 : List Deed} {k k' : List (Str × V)}, outs k l1 = .inr k' → outs k (l1 ++ l2) = outs k' l2
 | [], _, _, _, h => by cases h; rfl
 | d :: r, l2, k, k', h => by
  cases ho : outc k d with
  | inl c => rw [outs_l ho] at h; cases h
  | inr k2 => rw [outs_r ho] at h; rw [List.cons_append, outs_r ho]; exact outs_app h
theorem keys_vget {k : List (Str × V)} {x : Str} : x ∈ keysOf k ↔ vget k x ≠ Option.none := by
 constructor
 ·intro h e
  obtain ⟨v, hv, _⟩ := vget_mem h
  rw [hv] at e; cases e
 ·intro h
  exact Classical.byContradiction fun hn => h (vget_none hn)
theorem cuts_run : ∀ (l : List Str) (k : List (Str × V)), (∀ x ∈ l, okPath x = true ∧ x ∈ keysOf k) → l.Nodup → (keysOf k).Nodup → ∃ k', outs k (l.map cutD) = .inr k' ∧ (keysOf k').Nodup ∧ ∀ y, vget k' y = if y ∈ l then Option.none else vget k y
 | [], k, _, _, hn => ⟨k, rfl, hn, fun y => by simp⟩
 | x :: r, k, h, hd, hn => by
  obtain ⟨h1, h2⟩ := h x (.head _)
  rw [List.nodup_cons] at hd
  have ho : outc k (cutD x) = .inr (vout k x) := out_cut h1 rfl h2
  obtain ⟨k', e, n', g⟩ := cuts_run r (vout k x) (fun y hy => ⟨(h y (.tail _ hy)).1, keys_out.mpr ⟨fun e => hd.1 (e ▸ hy), (h y (.tail _ hy)).2⟩⟩) hd.2 (vout_nodup hn)
  refine ⟨k', by rw [List.map_cons, outs_r ho]; exact e, n', fun y => ?_⟩
  rw [g y, vget_out]
  by_cases hy : y = x
  ·subst hy; simp
  ·simp [hy]
theorem puts_run (g : Str → Str) : ∀ (l : List Str) (k : List (Str × V)), (∀ x ∈ l, okPath x = true) → (keysOf k).Nodup → (∀ x ∈ l, ∀ y ∈ keysOf k, clr x y = true) → (∀ x ∈ l, ∀ y ∈ l, clr x y = true) →
  ∃ k', outs k (l.map fun x => ⟨false, x, g x⟩) = .inr k' ∧ (keysOf k').Nodup ∧ ∀ y, vget k' y = if y ∈ l then some (.str (g y)) else vget k y
 | [], k, _, hn, _, _ => ⟨k, rfl, hn, fun y => by simp⟩
 | x :: r, k, h, hn, h1, h2 => by
  have hf : isFree (keysOf k) x = true := List.all_eq_true.mpr fun y hy => h1 x (.head _) y hy
  have ho : outc k ⟨false, x, g x⟩ = .inr (vstored k x (.str (g x))) := out_put (d := ⟨false, x, g x⟩) (h x (.head _)) rfl hf
  obtain ⟨k', e, n', gg⟩ := puts_run g r (vstored k x (.str (g x))) (fun y hy => h y (.tail _ hy)) (vstored_nodup hn)
   (fun z hz y hy => (keys_put.mp hy).elim (fun e => by rw [e]; exact h2 z (.tail _ hz) x (.head _)) (h1 z (.tail _ hz) y)) (fun z hz y hy => h2 z (.tail _ hz) y (.tail _ hy))
  refine ⟨k', by rw [List.map_cons, outs_r ho]; exact e, n', fun y => ?_⟩
  rw [gg y, vget_put]
  by_cases hy : y = x
  ·subst hy; simp
  ·simp [hy]
theorem filterMap_if {α β : Type} (p : α → Bool) (f : α → β) : ∀ l : List α, (l.filterMap fun x => if p x = true then some (f x) else Option.none) = (l.filter p).map f
 | [] => rfl
 | x :: r => by
  rw [List.filterMap_cons, List.filter_cons, filterMap_if p f r]
  cases h : p x <;> simp [h]
theorem cutsL_eq (ka kb : List (Str × V)) : cutsL ka kb = ((srt (keysOf ka)).filter fun x => !decide (x ∈ keysOf kb)).map cutD := by
 rw [← filterMap_if]
 unfold cutsL
 congr 1
 funext x
 by_cases h : x ∈ keysOf kb <;> simp [h, cutD]
theorem putsL_eq (ka kb : List (Str × V)) : putsL ka kb = ((srt (keysOf kb)).filter (newer ka kb)).map fun x => ⟨false, x, gS kb x⟩ := by
 rw [← filterMap_if]; rfl
structure SameD (k1 k2 : List (Str × V)) : Prop where
 len : k1.length = k2.length
 get : ∀ q ∈ k1, vget k2 q.1 = some q.2
theorem vget_of {k : List (Str × V)} (hn : (keysOf k).Nodup) : ∀ {q : Str × V}, q ∈ k → vget k q.1 = some q.2 := by
 induction k with
 | nil => intro q h; cases h
 | cons p r ih =>
  intro q h
  obtain ⟨k', v'⟩ := p
  have e : keysOf ((k', v') :: r) = k' :: keysOf r := rfl
  rw [e, List.nodup_cons] at hn
  rw [vget_cons]
  rcases List.mem_cons.mp h with rfl | h
  ·simp
  ·have : ¬ k' = q.1 := fun e => hn.1 (e ▸ List.mem_map.mpr ⟨q, h, rfl⟩)
   rw [if_neg this]; exact ih hn.2 h
theorem SameD.of {k1 k2 : List (Str × V)} (n1 : (keysOf k1).Nodup) (n2 : (keysOf k2).Nodup) (h : ∀ y, vget k1 y = vget k2 y) : SameD k1 k2 := by
 refine ⟨?_, fun q hq => by rw [← h]; exact vget_of n1 hq⟩
 have p := perm_of_mem n1 n2 fun z => by rw [keys_vget, keys_vget, h]
 have := p.length_eq
 simpa [keysOf] using this
theorem due_ok {n1 n2 : Nat} {ka kb : List (Str × V)} (ta : Tr n1 ka) (tb : Tr n2 kb) (nf : NF ka kb) : ∃ kf, outs ka (dueL ka kb) = .inr kf ∧ SameD kf kb := by
 have okk : ∀ {n : Nat} {k : List (Str × V)}, Tr n k → ∀ x ∈ keysOf k, okPath x = true := fun t x hx => by
  obtain ⟨q, hq, rfl⟩ := List.mem_map.mp hx
  exact (t.ok q hq).1
 have mc : ∀ x, x ∈ (srt (keysOf ka)).filter (fun x => !decide (x ∈ keysOf kb)) ↔ x ∈ keysOf ka ∧ x ∉ keysOf kb := fun x => by
  rw [List.mem_filter, srt_mem]; simp
 have mp : ∀ x, x ∈ (srt (keysOf kb)).filter (newer ka kb) ↔ x ∈ keysOf kb ∧ newer ka kb x = true := fun x => by
  rw [List.mem_filter, srt_mem]
 obtain ⟨k1, e1, d1, g1⟩ := cuts_run _ ka (fun x hx => ⟨okk ta x ((mc x).mp hx).1, ((mc x).mp hx).1⟩) ((srt_nodup ta.nodup).filter _) ta.nodup
 have hk1 : ∀ y ∈ keysOf k1, y ∈ keysOf ka ∧ y ∈ keysOf kb := fun y hy => by
  have := keys_vget.mp hy
  rw [g1 y] at this
  by_cases hc : y ∈ (srt (keysOf ka)).filter fun x => !decide (x ∈ keysOf kb)
  ·rw [if_pos hc] at this; exact absurd rfl this
  ·rw [if_neg hc] at this
   have ha := keys_vget.mpr this
   exact ⟨ha, Classical.byContradiction fun hb => hc ((mc y).mpr ⟨ha, hb⟩)⟩
 obtain ⟨k2, e2, d2, g2⟩ := puts_run (gS kb) _ k1 (fun x hx => okk tb x ((mp x).mp hx).1) d1 (fun x hx y hy => nf x ((mp x).mp hx).1 ((mp x).mp hx).2 y (hk1 y hy).2) (fun x hx y hy => nf x ((mp x).mp hx).1 ((mp x).mp hx).2 y ((mp y).mp hy).1)
 refine ⟨k2, ?_, SameD.of d2 tb.nodup fun y => ?_⟩
 ·unfold dueL
  rw [cutsL_eq, putsL_eq, outs_app e1]
  exact e2
 ·rw [g2 y, g1 y]
  by_cases hp : y ∈ (srt (keysOf kb)).filter (newer ka kb)
  ·rw [if_pos hp, gS_get tb ((mp y).mp hp).1]
  ·rw [if_neg hp]
   by_cases hc : y ∈ (srt (keysOf ka)).filter fun x => !decide (x ∈ keysOf kb)
   ·rw [if_pos hc, vget_none ((mc y).mp hc).2]
   ·rw [if_neg hc]
    by_cases hb : y ∈ keysOf kb
    ·have hn : newer ka kb y = false := by
      cases h : newer ka kb y with
      | false => rfl
      | true => exact absurd ((mp y).mpr ⟨hb, h⟩) hp
     unfold newer at hn
     have h2 : y ∈ keysOf ka ∧ gS ka y = gS kb y := by simpa using hn
     rw [gS_get ta h2.1, gS_get tb hb, h2.2]
    ·have ha : y ∉ keysOf ka := fun ha => hc ((mc y).mpr ⟨ha, hb⟩)
     rw [vget_none ha, vget_none hb]
theorem dictq_two {k2 : List (Str × V)} : ∀ {k1 : List (Str × V)}, (∀ q ∈ k1, vget k2 q.1 = some q.2 ∧ Flat0 q.2) → dictq k2 k1 = some true
 | [], _ => rfl
 | (k, v) :: r, h => by
  obtain ⟨h1, h2⟩ := h _ (.head _)
  unfold dictq
  rw [show vget k2 k = some v from h1]
  dsimp only
  rw [veq0_flat h2, dictq_two fun q hq => h q (.tail _ hq)]
  rfl
theorem dq_same {σ : View} {n : Nat} {a b : Addr} {k1 k2 : List (Str × V)} {e1 e2 m : Nat} (ha : σ a = some (.dict k1 e1)) (hb : σ b = some (.dict k2 e2)) (h : SameD k1 k2) (t : Tr m k2) : dq (n + 1) σ (.ref a) (.ref b) = some true := by
 simp only [dq, ha, hb, h.len, if_true]
 refine dictq_two fun q hq => ⟨h.get q hq, ?_⟩
 have hg := h.get q hq
 have hk : q.1 ∈ keysOf k2 := keys_vget.mpr (by rw [hg]; simp)
 rw [gS_get t hk] at hg
 rw [← Option.some.inj hg]
 trivial
theorem bad_no : ∀ y ∈ badL, okPath y = false := by decide +kernel
theorem okD_of {d : Deed} (h : okPath d.x = true) (hl : d.x.length ≤ 300) : okD d := by
 refine ⟨hl, ?_⟩
 have : d.x ∉ badL := fun hm => by rw [bad_no _ hm] at h; cases h
 rw [h, decide_eq_false this]; rfl
theorem okD_bad {d : Deed} (h : d.x ∈ badL) (hl : d.x.length ≤ 300) : okD d := by
 refine ⟨hl, ?_⟩
 rw [bad_no _ h, decide_eq_true h]; rfl
theorem q_ok : okPart (Str.ofString "q") = true := by decide +kernel
theorem slq : Str.ofString "/q" = Str.ofString "/" ++ Str.ofString "q" := by decide +kernel
theorem near_q {x : Str} (h : ok7 x) : okPath (x ++ Str.ofString "/q") = true := by
 have e : x ++ Str.ofString "/q" = Str.join (Str.ofString "/") (Txt.split x (Str.ofString "/") ++ [Str.ofString "q"]) := by
  rw [join_app (split_ne x) (by simp), StrLaws.join_split, slq, app_assoc]; rfl
 obtain ⟨h1, h2⟩ := h
 have h1' : ∀ y ∈ Txt.split x (Str.ofString "/"), okPart y = true := by
  unfold okPath at h1
  simp at h1
  exact h1.2
 rw [e]
 exact okPath_join (by intro y hy; rcases List.mem_append.mp hy with hy | hy; exact h1' y hy; simp at hy; rw [hy]; exact q_ok) (by simp) (by simp; exact h2)
theorem near_0 {x p : Str} (h : ok7 x) (hp : p ∈ Txt.split x (Str.ofString "/")) : okPath p = true := by
 have h1 := h.1
 unfold okPath at h1
 simp at h1
 exact okPath_join (xs := [p]) (by intro y hy; simp at hy; rw [hy]; exact h1.2 p hp) (by simp) (by simp)
end Mine
end
noncomputable section
set_option maxRecDepth 10000
namespace Mine
open PySem PySem.W PyProof.Rows PySem.Calls
theorem bb_ok : ok7 (Str.ofString "b/b") := by unfold ok7; decide +kernel
theorem q_len : (Str.ofString "/q").length = 2 := by decide +kernel
theorem s_odd (ns : List Int) : ∀ vs σ Q, sp__law_odd_deed ns vs σ Q → vs.length = 2 ∧ T__law_odd_deed ns (bindM ["_law_cell", "_law_new"] vs none') σ (fin Q) := by
 rintro vs σ Q ⟨c, b, kb, ep, rfl, hb, ht, q⟩
 refine ⟨rfl, ?_⟩
 have len := ht.len
 unfold T__law_odd_deed
 rw [seq_eq]
 simp [T__law_odd_deed_1, sorted_dict hb]
 intro S hS
 generalize hs1 : upd σ S _ = σ₁
 have g1 : Grow σ σ₁ := by rw [← hs1]; exact Grow.refl.upd hS
 have x1 : σ₁ S = some (.list ((srt (kb.map (·.1))).map .str)) := by rw [← hs1, upd_same]
 intro L hL
 generalize hs2 : upd σ₁ L _ = σ₂
 have g2 : Grow σ₁ σ₂ := by rw [← hs2]; exact Grow.refl.upd hL
 have x2 : σ₂ L = some (.list [.str (Str.ofString "b/b")]) := by rw [← hs2, upd_same]
 refine add_list (g2 _ _ x1) x2 (by simp [srt_len]; exact Nat.le_trans len (by decide)) fun P hP => ?_
 generalize hs3 : upd σ₂ P _ = σ₃
 have g3 : Grow σ₂ σ₃ := by rw [← hs3]; exact Grow.refl.upd hP
 have x3 : σ₃ P = some (.list ((srt (keysOf kb) ++ [Str.ofString "b/b"]).map .str)) := by rw [← hs3, upd_same, List.map_append]; rfl
 have hps : ∀ p ∈ srt (keysOf kb) ++ [Str.ofString "b/b"], ok7 p ∧ p.length ≤ 200 := fun p hp => by
  rcases List.mem_append.mp hp with hp | hp
  ·obtain ⟨z, hz, rfl⟩ := List.mem_map.mp (srt_mem.mp hp)
   exact ⟨ht.ok z hz, ht.key z hz⟩
  ·simp at hp; rw [hp]; exact ⟨bb_ok, by decide +kernel⟩
 have hpos : 0 < (srt (keysOf kb) ++ [Str.ofString "b/b"]).length := by simp
 have gg := (g1.trans g2).trans g3
 generalize srt (keysOf kb) ++ [Str.ofString "b/b"] = ps at x3 hps hpos
 show sSeq _ _ _ _ _
 rw [seq_eq]
 simp [T__law_odd_deed_2, len_list x3]
 refine ⟨by exact hpos, ?_⟩
 have m1 := Int.emod_nonneg (c / 6) (b := (ps.length : Int)) (by omega)
 have m2 := Int.emod_lt_of_pos (c / 6) (b := (ps.length : Int)) (by exact Int.ofNat_lt.mpr hpos)
 obtain ⟨p, hp⟩ : ∃ p, ps[(c / 6 % ps.length).toNat]? = some p := ⟨_, List.getElem?_eq_getElem (by omega)⟩
 obtain ⟨h7, hl⟩ := hps p (List.mem_of_getElem? hp)
 refine item_list (v := .str p) x3 m1 (by rw [List.getElem?_map, hp]; rfl) ?_
 rw [seq_eq]
 simp [T__law_odd_deed_3]
 intro L2 hL2
 generalize hs4 : upd σ₃ L2 _ = σ₄
 have g4 : Grow σ₃ σ₄ := by rw [← hs4]; exact Grow.refl.upd hL2
 have x4 : σ₄ L2 = some (.list ([(⟨true, Str.ofString "a/../b", Str.ofString ""⟩ : Deed), ⟨false, Str.ofString "", Str.ofString "x"⟩, ⟨true, Str.ofString "gone/gone/gone/gone/gone/gone/gone/gone", Str.ofString ""⟩, ⟨false, Str.ofString "a b", Str.ofString ""⟩].map deedV)) := by rw [← hs4, upd_same]; rfl
 have f1 := len_append p (Str.ofString "/q")
 have f2 := q_len
 have f3 := sl_len
 rw [seq_eq]
 simp [T__law_odd_deed_4]
 refine ⟨by omega, by exact And.intro (Nat.le_antisymm (Nat.le_of_not_lt fun hg => lin [((Str.ofString "/").length)] [(1, (.v 0), (.n 1)), (1, (.a (.n 1) (.n 1)), (.v 0))] rfl (Nat.le_of_eq f3) hg) (Nat.le_of_not_lt fun hg => lin [((Str.ofString "/").length)] [(1, (.n 1), (.v 0)), (1, (.a (.v 0) (.n 1)), (.n 1))] rfl (Nat.le_of_eq (Eq.symm f3)) hg)) (Nat.le_of_not_lt fun hg => lin [(p.length)] [(1, (.v 0), (.n 200)), (1, (.a (.n 1048576) (.n 1)), (.v 0))] rfl hl hg), ?_⟩
 intro L3 hL3
 generalize hs5 : upd σ₄ L3 _ = σ₅
 have g5 : Grow σ₄ σ₅ := by rw [← hs5]; exact Grow.refl.upd hL3
 have x5 : σ₅ L3 = some (.list ((Txt.split p (Str.ofString "/")).map .str)) := by rw [← hs5, upd_same]
 obtain ⟨p0, hp0⟩ : ∃ p0, (Txt.split p (Str.ofString "/"))[0]? = some p0 := ⟨_, List.getElem?_eq_getElem (List.length_pos_iff.mpr (split_ne p))⟩
 have hp0m := List.mem_of_getElem? hp0
 have hp0l := part_len hp0m
 refine item_list (v := .str p0) x5 (by decide) (by rw [List.getElem?_map]; show Option.map _ (Txt.split p (Str.ofString "/"))[0]? = _; rw [hp0]; rfl) ?_
 intro L4 hL4
 generalize hs6 : upd σ₅ L4 _ = σ₆
 have g6 : Grow σ₅ σ₆ := by rw [← hs6]; exact Grow.refl.upd hL4
 have x6 : σ₆ L4 = some (.list ([(⟨false, p ++ Str.ofString "/q", Str.ofString "x"⟩ : Deed), ⟨false, p0, Str.ofString "y"⟩].map deedV)) := by rw [← hs6, upd_same]; rfl
 refine add_list (g6 _ _ (g5 _ _ x4)) x6 (by simp) fun L5 hL5 => ?_
 generalize hs7 : upd σ₆ L5 _ = σ₇
 have g7 : Grow σ₆ σ₇ := by rw [← hs7]; exact Grow.refl.upd hL5
 have x7 : σ₇ L5 = some (.list ([(⟨true, Str.ofString "a/../b", Str.ofString ""⟩ : Deed), ⟨false, Str.ofString "", Str.ofString "x"⟩, ⟨true, Str.ofString "gone/gone/gone/gone/gone/gone/gone/gone", Str.ofString ""⟩, ⟨false, Str.ofString "a b", Str.ofString ""⟩, ⟨false, p ++ Str.ofString "/q", Str.ofString "x"⟩, ⟨false, p0, Str.ofString "y"⟩].map deedV)) := by rw [← hs7, upd_same]; rfl
 have r1 := Int.emod_nonneg c (b := 6) (by decide)
 have r2 := Int.emod_lt_of_pos c (b := 6) (by decide)
 have g := (((gg.trans g4).trans g5).trans g6).trans g7
 generalize hD : [(⟨true, Str.ofString "a/../b", Str.ofString ""⟩ : Deed), ⟨false, Str.ofString "", Str.ofString "x"⟩, ⟨true, Str.ofString "gone/gone/gone/gone/gone/gone/gone/gone", Str.ofString ""⟩, ⟨false, Str.ofString "a b", Str.ofString ""⟩, ⟨false, p ++ Str.ofString "/q", Str.ofString "x"⟩, ⟨false, p0, Str.ofString "y"⟩] = D at x7
 have hall : ∀ d ∈ D, okD d := by
  intro d hd
  rw [← hD] at hd
  simp only [List.mem_cons, List.not_mem_nil, or_false] at hd
  rcases hd with rfl | rfl | rfl | rfl | rfl | rfl
  ·exact okD_bad (by decide) (by decide +kernel)
  ·exact okD_bad (by decide) (by decide +kernel)
  ·exact okD_of (by decide +kernel) (by decide +kernel)
  ·exact okD_bad (by decide) (by decide +kernel)
  ·exact okD_of (near_q h7) (by show (p ++ Str.ofString "/q").length ≤ 300; exact Nat.le_of_not_lt fun hg => lin [(p.length), ((p ++ Str.ofString "/q").length), ((Str.ofString "/q").length)] [(1, (.v 0), (.n 200)), (1, (.v 1), (.a (.v 0) (.v 2))), (1, (.v 2), (.n 2)), (1, (.a (.n 300) (.n 1)), (.v 1))] rfl hl (Nat.le_of_eq f1) (Nat.le_of_eq f2) hg)
  ·exact okD_of (near_0 h7 hp0m) (by show p0.length ≤ 300; exact Nat.le_trans (Nat.le_trans hp0l hl) (by decide))
 have hDl : D.length = 6 := by rw [← hD]; rfl
 obtain ⟨d, hd⟩ : ∃ d, D[(c % 6).toNat]? = some d := ⟨_, List.getElem?_eq_getElem (by omega)⟩
 refine item_list (v := deedV d) x7 r1 (by rw [List.getElem?_map, hd]; rfl) ?_
 exact q d σ₇ g (hall d (List.mem_of_getElem? hd))
end Mine
end
noncomputable section
set_option maxRecDepth 10000
namespace Mine
open PySem PySem.W PyProof.Rows PySem.Calls
theorem deed_flat (d : Deed) : FlatN 3 (deedV d) := by
 obtain ⟨xs, e, _, _⟩ := deed_strs d
 rw [e]
 intro v hv
 obtain ⟨x, _, rfl⟩ := List.mem_map.mp hv
 trivial
theorem deeds_flat (ds : List Deed) : ∀ v ∈ ds.map deedV, FlatN 3 v := fun v hv => by
 obtain ⟨d, _, rfl⟩ := List.mem_map.mp hv
 exact deed_flat d
theorem due_len {ka kb : List (Str × V)} : (dueL ka kb).length ≤ ka.length + kb.length := by
 unfold dueL
 rw [cutsL_eq, putsL_eq, List.length_append, List.length_map, List.length_map]
 have h1 := List.length_filter_le (fun x => !decide (x ∈ keysOf kb)) (srt (keysOf ka))
 have h2 := List.length_filter_le (newer ka kb) (srt (keysOf kb))
 rw [srt_len] at h1 h2
 have e1 : (keysOf ka).length = ka.length := by simp [keysOf]
 have e2 : (keysOf kb).length = kb.length := by simp [keysOf]
 omega
theorem due_okD {n1 n2 : Nat} {ka kb : List (Str × V)} (ta : Tr n1 ka) (tb : Tr n2 kb) : ∀ d ∈ dueL ka kb, okD d := by
 have okk : ∀ {n : Nat} {k : List (Str × V)}, Tr n k → ∀ x ∈ keysOf k, okPath x = true ∧ x.length ≤ 200 := fun t x hx => by
  obtain ⟨q, hq, rfl⟩ := List.mem_map.mp hx
  exact ⟨(t.ok q hq).1, t.key q hq⟩
 intro d hd
 unfold dueL at hd
 rw [cutsL_eq, putsL_eq] at hd
 rcases List.mem_append.mp hd with hd | hd
 ·obtain ⟨x, hx, rfl⟩ := List.mem_map.mp hd
  obtain ⟨h1, h2⟩ := okk ta x (srt_mem.mp (List.mem_filter.mp hx).1)
  exact okD_of h1 (Nat.le_trans h2 (by decide))
 ·obtain ⟨x, hx, rfl⟩ := List.mem_map.mp hd
  obtain ⟨h1, h2⟩ := okk tb x (srt_mem.mp (List.mem_filter.mp hx).1)
  exact okD_of h1 (Nat.le_trans h2 (by decide))
structure GoodK (k : List (Str × V)) : Prop where
 nodup : (k.map (·.1)).Nodup
 flat : ∀ q ∈ k, Flat0 q.2
theorem Tr.good {n : Nat} {k : List (Str × V)} (t : Tr n k) : GoodK k := ⟨t.nodup, fun q hq => by obtain ⟨y, e⟩ := t.val q hq; rw [e]; trivial⟩
theorem GoodK.out {k k2 : List (Str × V)} {d : Deed} (h : GoodK k) (e : outc k d = .inr k2) : GoodK k2 := by
 unfold outc at e
 split at e
 ·cases e
 ·split at e
  ·split at e
   ·cases e; exact ⟨vout_nodup h.nodup, fun q hq => h.flat q (vout_mem hq)⟩
   ·cases e
  ·split at e
   ·cases e; exact ⟨vstored_nodup h.nodup, fun q hq => (vstored_mem hq).elim (fun e => by rw [e]; trivial) (h.flat q)⟩
   ·cases e
theorem GoodK.outs : ∀ {ds : List Deed} {k k2 : List (Str × V)}, GoodK k → Mine.outs k ds = .inr k2 → GoodK k2
 | [], _, _, h, e => by cases e; exact h
 | d :: r, k, k2, h, e => by
  cases ho : outc k d with
  | inl c => rw [outs_l ho] at e; cases e
  | inr k' => rw [outs_r ho] at e; exact (h.out ho).outs e
theorem Tr.tk {n : Nat} {k : List (Str × V)} (t : Tr n k) : Tk n k := ⟨t.len, t.key3⟩
structure LS (m : Loc) (σ : View) (a b a' b' D : Addr) (ka kb : List (Str × V)) : Prop where
 sc : m "_law_script" = some .script
 old : m "_law_old" = some (.ref a)
 new : m "_law_new" = some (.ref b)
 kept : m "_law_kept" = some (.tup [.ref a', .ref b'])
 due : m "_law_due" = some (.ref D)
 ha : ∃ e, σ a = some (.dict ka e)
 hb : ∃ e, σ b = some (.dict kb e)
 ha' : ∃ e, σ a' = some (.dict ka e)
 hb' : ∃ e, σ b' = some (.dict kb e)
 hD : σ D = some (.list ((dueL ka kb).map deedV))
section
variable {m : Loc} {σ σ' : View} {a b a' b' D : Addr} {ka kb : List (Str × V)}
theorem LS.grow (S : LS m σ a b a' b' D ka kb) (g : Grow σ σ') : LS m σ' a b a' b' D ka kb := by
 obtain ⟨e1, h1⟩ := S.ha
 obtain ⟨e2, h2⟩ := S.hb
 obtain ⟨e3, h3⟩ := S.ha'
 obtain ⟨e4, h4⟩ := S.hb'
 exact { S with ha := ⟨e1, g _ _ h1⟩, hb := ⟨e2, g _ _ h2⟩, ha' := ⟨e3, g _ _ h3⟩, hb' := ⟨e4, g _ _ h4⟩, hD := g _ _ S.hD }
theorem LS.set (S : LS m σ a b a' b' D ka kb) {x : String} {v : V} (hx : x ∉ ["_law_script", "_law_old", "_law_new", "_law_kept", "_law_due"]) : LS (put m x v) σ a b a' b' D ka kb := by
 simp only [List.mem_cons, List.not_mem_nil, or_false, not_or] at hx
 obtain ⟨h1, h2, h3, h4, h5⟩ := hx
 exact { S with sc := by rw [put_ne (Ne.symm h1)]; exact S.sc, old := by rw [put_ne (Ne.symm h2)]; exact S.old, new := by rw [put_ne (Ne.symm h3)]; exact S.new, kept := by rw [put_ne (Ne.symm h4)]; exact S.kept, due := by rw [put_ne (Ne.symm h5)]; exact S.due }
theorem LS.both (S : LS m σ a b a' b' D ka kb) {n1 n2 : Nat} (ta : Tr n1 ka) (tb : Tr n2 kb) : dq 4 σ (.tup [.ref a, .ref b]) (.tup [.ref a', .ref b']) = some true := by
 obtain ⟨e1, h1⟩ := S.ha
 obtain ⟨e2, h2⟩ := S.hb
 obtain ⟨e3, h3⟩ := S.ha'
 obtain ⟨e4, h4⟩ := S.hb'
 exact dq_tup (rowq_cons (dq_dict h1 h3 ta.good.nodup ta.good.flat) (rowq_cons (dq_dict h2 h4 tb.good.nodup tb.good.flat) rfl))
end
theorem law_end {ns : List Int} {m : Loc} {σ : View} {a b a' b' D R H : Addr} {ka kb : List (Str × V)} {row : List Deed} {w : V} {Q : V → View → Prop} (S : LS m σ a b a' b' D ka kb) (ta : Tr 190 ka) (tb : Tr 200 kb) (hr : m "_law_row" = some (.ref R)) (hh : m "_law_handed" = some (.ref H)) (hw : m "_law_word" = some w)
  (xR : σ R = some (.list (row.map deedV))) (xH : σ H = some (.list (row.map deedV))) (hl : 190 + row.length ≤ 1000) (hok : ∀ d ∈ row, okD d)
  (hwd : match outs ka row with | .inl c => w = .str (Str.ofString c) | .inr k2 => ∃ x e, w = .ref x ∧ σ x = some (.dict k2 e)) (q : ∀ σ', Q (.bool true) σ') : T_law_20 ns m σ (kont sNil (fin Q)) := by
 simp [T_law_20, S.old, S.new, S.kept, hr, hh, hw]
 obtain ⟨e1, h1⟩ := S.ha
 refine ⟨a, R, ka, e1, row, 190, rfl, h1, xR, ta.tk, hl, hok, ?_⟩
 have fin1 : ∀ σ' u, Grow σ σ' → dq 4 σ' w u = some true → opEqD w u σ' fun v σ' => isB v fun b_1 => if b_1 = true then opEqD (.ref H) (.ref R) σ' fun v σ' => isB v fun b_2 => if b_2 = true then opEqD (.tup [.ref a, .ref b]) (.tup [.ref a', .ref b']) σ' fun v σ' => Q v σ' else Q (.bool false) σ' else Q (.bool false) σ' := by
  intro σ' u g hd
  refine eqD_true hd ?_
  simp
  refine eqD_true (dq_list (g _ _ xH) (g _ _ xR) (deeds_flat row)) ?_
  simp
  exact eqD_true ((S.grow g).both ta tb) (q σ')
 cases ho : outs ka row with
 | inl c =>
  rw [ho] at hwd
  have hw' : w = .str (Str.ofString c) := hwd
  intro σ' g
  exact fin1 σ' _ g (by rw [hw']; simp [dq, veq0])
 | inr k2 =>
  rw [ho] at hwd
  obtain ⟨x, e, hw', hx⟩ := hwd
  intro y ep' σ' g hy hy'
  have gk := ta.good.outs ho
  exact fin1 σ' _ g (by rw [hw']; exact dq_dict (g _ _ hx) hy' gk.nodup gk.flat)
theorem law_c {ns : List Int} {m : Loc} {σ : View} {a b a' b' D : Addr} {ka kb : List (Str × V)} {Q : V → View → Prop} {X : String → View → Prop} (S : LS m σ a b a' b' D ka kb) (ta : Tr 190 ka) (tb : Tr 200 kb) (q : ∀ σ', Q (.bool true) σ') :
  xSeq (T_law_14 ns) (xSeq (T_law_15 ns) (xSeq (T_law_16 ns) (xSeq (T_law_17 ns) (xSeq (T_law_18 ns) (xSeq (T_law_19 ns) (xP (sSeq (T_law_20 ns) sNil))))))) m σ (fin Q) (fun c _ σ' => X c σ') := by
 have la := ta.len
 have lb := tb.len
 have ld := due_len (ka := ka) (kb := kb)
 have hokd := due_okD ta tb
 have xD := S.hD
 rw [xseq_eq]
 simp [T_law_14, S.sc, S.due, len_list S.hD]
 have hlen : ((dueL ka kb).map deedV).length = (dueL ka kb).length := List.length_map ..
 have m1 := Int.emod_nonneg (cell ns 18 / 6) (b := ((dueL ka kb).length : Int) + 1) (by omega)
 have m2 := Int.emod_lt_of_pos (cell ns 18 / 6) (b := ((dueL ka kb).length : Int) + 1) (by omega)
 generalize cell ns 18 / 6 % (((dueL ka kb).length : Int) + 1) = at' at m1 m2 ⊢
 replace S := S.set (x := "_law_at") (v := .int at') (by decide)
 have hat : put m "_law_at" (.int at') "_law_at" = some (.int at') := by simp
 generalize put m "_law_at" (.int at') = m₁ at S hat ⊢
 rw [xseq_eq]
 simp [T_law_15, S.sc, S.due, hat, len_list S.hD]
 refine ⟨by exact m2, ?_⟩
 have n1 := Int.emod_nonneg (cell ns 19 / 6) (b := ((dueL ka kb).length : Int) + 1 - at') (by omega)
 have n2 := Int.emod_lt_of_pos (cell ns 19 / 6) (b := ((dueL ka kb).length : Int) + 1 - at') (by omega)
 generalize cell ns 19 / 6 % (((dueL ka kb).length : Int) + 1 - at') = st at n1 n2 ⊢
 have t1 : at' ≤ at' + st := by omega
 have t2 : at' + st ≤ ((dueL ka kb).length : Int) := by omega
 generalize at' + st = to at t1 t2 ⊢
 replace S := S.set (x := "_law_to") (v := .int to) (by decide)
 have hto : put m₁ "_law_to" (.int to) "_law_to" = some (.int to) := by simp
 replace hat : put m₁ "_law_to" (.int to) "_law_at" = some (.int at') := by simp [hat]
 generalize put m₁ "_law_to" (.int to) = m₂ at S hat hto ⊢
 obtain ⟨A, rfl⟩ := Int.eq_ofNat_of_zero_le m1
 obtain ⟨T, rfl⟩ := Int.eq_ofNat_of_zero_le (Int.le_trans m1 t1)
 have a1 : A ≤ T := Int.ofNat_le.mp t1
 have a2 : T ≤ (dueL ka kb).length := Int.ofNat_le.mp t2
 have a3 : (dueL ka kb).length ≤ 390 := by exact Nat.le_of_not_lt fun hg => lin [(ka.length), (kb.length), ((dueL ka kb).length)] [(1, (.v 0), (.n 190)), (1, (.v 1), (.n 200)), (1, (.v 2), (.a (.v 0) (.v 1))), (1, (.a (.n 390) (.n 1)), (.v 2))] rfl la lb ld hg
 have eTA : ((T : Int) - (A : Int)).toNat = T - A := by rw [← Int.ofNat_sub a1]; rfl
 clear n1 n2 m2 hlen la lb ld
 rw [xseq_eq]
 simp [T_law_16, S.sc, S.due, S.new, hat, hto]
 refine cut_list S.hD fun L1 h1 => ?_
 rw [cut_map, cut_take _ m1, Int.toNat_natCast]
 have x1 := upd_same σ L1 (.list (((dueL ka kb).take A).map deedV))
 have g1 := Grow.refl.upd (σ := σ) (o := .list (((dueL ka kb).take A).map deedV)) h1
 generalize upd σ L1 (.list (((dueL ka kb).take A).map deedV)) = σ₁ at x1 g1 ⊢
 obtain ⟨eb, hb⟩ := S.hb
 refine ⟨_, b, kb, eb, rfl, g1 _ _ hb, tb, fun d1 σ₂ g2 hd1 => ?_⟩
 intro L2 h2
 have x2 := upd_same σ₂ L2 (.list [deedV d1])
 have g3 := Grow.refl.upd (σ := σ₂) (o := .list [deedV d1]) h2
 generalize upd σ₂ L2 (.list [deedV d1]) = σ₃ at x2 g3 ⊢
 have k1 : ((dueL ka kb).take A).length = A := by rw [List.length_take]; exact Nat.le_antisymm (Nat.le_of_not_lt fun hg => lin [A, (min A (dueL ka kb).length)] [(1, (.v 1), (.v 0)), (1, (.a (.v 0) (.n 1)), (.v 1))] rfl (Nat.min_le_left (A) ((dueL ka kb).length)) hg) (Nat.le_of_not_lt fun hg => Or.elim (sub_or (T) (A)) (fun hs0 => Or.elim (min_or (A) ((dueL ka kb).length)) (fun hs1 => lin [A, (min A (dueL ka kb).length)] [(1, (.a (.v 1) (.n 1)), (.v 0)), (1, (.v 0), (.v 1))] rfl hg hs1) (fun hs1 => lin [A, T, ((dueL ka kb).length), (min A (dueL ka kb).length)] [(1, (.v 0), (.v 1)), (1, (.v 1), (.v 2)), (1, (.a (.v 3) (.n 1)), (.v 0)), (1, (.v 2), (.v 3))] rfl a1 a2 hg hs1)) (fun hs0 => Or.elim (min_or (A) ((dueL ka kb).length)) (fun hs1 => lin [A, (min A (dueL ka kb).length)] [(1, (.a (.v 1) (.n 1)), (.v 0)), (1, (.v 0), (.v 1))] rfl hg hs1) (fun hs1 => lin [A, T, ((dueL ka kb).length), (min A (dueL ka kb).length)] [(1, (.v 0), (.v 1)), (1, (.v 1), (.v 2)), (1, (.a (.v 3) (.n 1)), (.v 0)), (1, (.v 2), (.v 3))] rfl a1 a2 hg hs1)))
 refine add_list (g3 _ _ (g2 _ _ x1)) x2 (by rw [List.length_map, k1]; simp; exact Nat.le_of_not_lt fun hg => lin [A, T, ((dueL ka kb).length)] [(1, (.v 0), (.v 1)), (1, (.v 1), (.v 2)), (1, (.v 2), (.n 390)), (1, (.a (.n 16777215) (.n 1)), (.v 0))] rfl a1 a2 a3 hg) fun L3 h3 => ?_
 rw [show ((dueL ka kb).take A).map deedV ++ [deedV d1] = ((dueL ka kb).take A ++ [d1]).map deedV from by simp]
 have x3 := upd_same σ₃ L3 (.list (((dueL ka kb).take A ++ [d1]).map deedV))
 have g4 := Grow.refl.upd (σ := σ₃) (o := .list (((dueL ka kb).take A ++ [d1]).map deedV)) h3
 generalize upd σ₃ L3 (.list (((dueL ka kb).take A ++ [d1]).map deedV)) = σ₄ at x3 g4 ⊢
 replace S := S.grow (((g1.trans g2).trans g3).trans g4)
 refine cut_list S.hD fun L4 h4 => ?_
 rw [cut_map, cut_both _ m1 t1 t2, eTA, Int.toNat_natCast]
 have k2 : (((dueL ka kb).drop A).take (T - A)).length = (T - A) := by rw [List.length_take, List.length_drop]; exact Nat.le_antisymm (Nat.le_of_not_lt fun hg => lin [(T - A), (min (T - A) ((dueL ka kb).length - A))] [(1, (.v 1), (.v 0)), (1, (.a (.v 0) (.n 1)), (.v 1))] rfl (Nat.min_le_left (T - A) ((dueL ka kb).length - A)) hg) (Nat.le_of_not_lt fun hg => Or.elim (sub_or (T) (A)) (fun hs0 => Or.elim (min_or (T - A) ((dueL ka kb).length - A)) (fun hs1 => lin [(T - A), (min (T - A) ((dueL ka kb).length - A))] [(1, (.a (.v 1) (.n 1)), (.v 0)), (1, (.v 0), (.v 1))] rfl hg hs1) (fun hs1 => lin [A, T, ((dueL ka kb).length), (T - A), (min (T - A) ((dueL ka kb).length - A)), ((dueL ka kb).length - A)] [(1, (.v 1), (.v 2)), (1, (.a (.v 3) (.v 0)), (.v 1)), (1, (.v 2), (.a (.v 5) (.v 0))), (1, (.a (.v 4) (.n 1)), (.v 3)), (1, (.v 5), (.v 4))] rfl a2 (sub_hi (Nat.le_of_not_lt fun hg => lin [A, T] [(1, (.v 0), (.v 1)), (1, (.a (.v 1) (.n 1)), (.v 0))] rfl a1 hg)) (sub_lo ((dueL ka kb).length) (A)) hg hs1)) (fun hs0 => lin [(T - A), (min (T - A) ((dueL ka kb).length - A))] [(1, (.a (.v 1) (.n 1)), (.v 0)), (1, (.v 0), (.n 0))] rfl hg (Nat.le_of_eq hs0)))
 have ok2 : ∀ d ∈ ((dueL ka kb).drop A).take (T - A), okD d := fun d h => hokd d (List.mem_of_mem_drop (List.mem_of_mem_take h))
 generalize ((dueL ka kb).drop A).take (T - A) = c2 at k2 ok2 ⊢
 have ok1 : ∀ d ∈ (dueL ka kb).take A ++ [d1], okD d := fun d h => (List.mem_append.mp h).elim (fun h => hokd d (List.mem_of_mem_take h)) (fun h => by simp at h; rw [h]; exact hd1)
 have k1' : ((dueL ka kb).take A ++ [d1]).length = A + 1 := by rw [List.length_append, k1]; rfl
 generalize (dueL ka kb).take A ++ [d1] = c1 at k1' ok1 x3 ⊢
 have x4 := upd_same σ₄ L4 (.list (c2.map deedV))
 have g5 := Grow.refl.upd (σ := σ₄) (o := .list (c2.map deedV)) h4
 generalize upd σ₄ L4 (.list (c2.map deedV)) = σ₅ at x4 g5 ⊢
 refine add_list (g5 _ _ x3) x4 (by rw [List.length_map, List.length_map]; exact Nat.le_of_not_lt fun hg => lin [A, T, ((dueL ka kb).length), (T - A), (c2.length), (c1.length)] [(1, (.v 1), (.v 2)), (1, (.v 2), (.n 390)), (1, (.v 4), (.v 3)), (1, (.v 5), (.a (.v 0) (.n 1))), (1, (.a (.v 3) (.v 0)), (.v 1)), (1, (.a (.n 16777216) (.n 1)), (.a (.v 5) (.v 4)))] rfl a2 a3 (Nat.le_of_eq k2) (Nat.le_of_eq k1') (sub_hi (Nat.le_of_not_lt fun hg => lin [A, T] [(1, (.v 0), (.v 1)), (1, (.a (.v 1) (.n 1)), (.v 0))] rfl a1 hg)) hg) fun L5 h5 => ?_
 rw [← List.map_append]
 have x5 := upd_same σ₅ L5 (.list ((c1 ++ c2).map deedV))
 have g6 := Grow.refl.upd (σ := σ₅) (o := .list ((c1 ++ c2).map deedV)) h5
 generalize upd σ₅ L5 (.list ((c1 ++ c2).map deedV)) = σ₆ at x5 g6 ⊢
 have okc : ∀ d ∈ c1 ++ c2, okD d := fun d h => (List.mem_append.mp h).elim (ok1 d) (ok2 d)
 have kc : (c1 ++ c2).length = T + 1 := by rw [List.length_append]; exact Nat.le_antisymm (Nat.le_of_not_lt fun hg => lin [A, T, (T - A), (c2.length), (c1.length)] [(1, (.v 3), (.v 2)), (1, (.v 4), (.a (.v 0) (.n 1))), (1, (.a (.v 2) (.v 0)), (.v 1)), (1, (.a (.a (.v 1) (.n 1)) (.n 1)), (.a (.v 4) (.v 3)))] rfl (Nat.le_of_eq k2) (Nat.le_of_eq k1') (sub_hi (Nat.le_of_not_lt fun hg => lin [A, T] [(1, (.v 0), (.v 1)), (1, (.a (.v 1) (.n 1)), (.v 0))] rfl a1 hg)) hg) (Nat.le_of_not_lt fun hg => lin [A, T, (T - A), (c2.length), (c1.length)] [(1, (.v 2), (.v 3)), (1, (.a (.v 0) (.n 1)), (.v 4)), (1, (.v 1), (.a (.v 2) (.v 0))), (1, (.a (.a (.v 4) (.v 3)) (.n 1)), (.a (.v 1) (.n 1)))] rfl (Nat.le_of_eq (Eq.symm k2)) (Nat.le_of_eq (Eq.symm k1')) (sub_lo (T) (A)) hg)
 generalize c1 ++ c2 = c at okc kc x5 ⊢
 clear ok1 ok2 k1' k2 x4 x3
 replace S := (S.grow (g5.trans g6)).set (x := "_law_ones") (v := .ref L5) (by decide)
 replace hto : put m₂ "_law_ones" (.ref L5) "_law_to" = some (.int (T : Int)) := by simp [hto]
 have hon : put m₂ "_law_ones" (.ref L5) "_law_ones" = some (.ref L5) := by simp
 generalize put m₂ "_law_ones" (.ref L5) = m₃ at S hto hon ⊢
 rw [xseq_eq]
 simp [T_law_17, S.sc, S.due, S.new, hto, hon]
 obtain ⟨eb2, hb2⟩ := S.hb
 refine ⟨_, b, kb, eb2, rfl, hb2, tb, fun d2 σ₇ g7 hd2 => ?_⟩
 intro L6 h6
 have x6 := upd_same σ₇ L6 (.list [deedV d2])
 have g8 := Grow.refl.upd (σ := σ₇) (o := .list [deedV d2]) h6
 generalize upd σ₇ L6 (.list [deedV d2]) = σ₈ at x6 g8 ⊢
 refine add_list (g8 _ _ (g7 _ _ x5)) x6 (by rw [List.length_map]; simp; exact Nat.le_of_not_lt fun hg => lin [T, ((dueL ka kb).length), (c.length)] [(1, (.v 0), (.v 1)), (1, (.v 1), (.n 390)), (1, (.v 2), (.a (.v 0) (.n 1))), (1, (.a (.n 16777215) (.n 1)), (.v 2))] rfl a2 a3 (Nat.le_of_eq kc) hg) fun L7 h7 => ?_
 rw [show c.map deedV ++ [deedV d2] = (c ++ [d2]).map deedV from by simp]
 have x7 := upd_same σ₈ L7 (.list ((c ++ [d2]).map deedV))
 have g9 := Grow.refl.upd (σ := σ₈) (o := .list ((c ++ [d2]).map deedV)) h7
 generalize upd σ₈ L7 (.list ((c ++ [d2]).map deedV)) = σ₉ at x7 g9 ⊢
 replace S := S.grow ((g7.trans g8).trans g9)
 refine cut_list S.hD fun L8 h8 => ?_
 rw [cut_map, cut_drop _ (Int.natCast_nonneg _), Int.toNat_natCast]
 have x8 := upd_same σ₉ L8 (.list (((dueL ka kb).drop T).map deedV))
 have g10 := Grow.refl.upd (σ := σ₉) (o := .list (((dueL ka kb).drop T).map deedV)) h8
 generalize upd σ₉ L8 (.list (((dueL ka kb).drop T).map deedV)) = σ₁₀ at x8 g10 ⊢
 refine add_list (g10 _ _ x7) x8 (by rw [List.length_map, List.length_map, List.length_append, List.length_drop]; simp; exact Nat.le_of_not_lt fun hg => lin [T, ((dueL ka kb).length), (c.length), ((dueL ka kb).length - T)] [(1, (.v 1), (.n 390)), (1, (.v 2), (.a (.v 0) (.n 1))), (1, (.a (.v 3) (.v 0)), (.v 1)), (1, (.a (.n 16777216) (.n 1)), (.a (.a (.v 2) (.n 1)) (.v 3)))] rfl a3 (Nat.le_of_eq kc) (sub_hi (Nat.le_of_not_lt fun hg => lin [T, ((dueL ka kb).length)] [(1, (.v 0), (.v 1)), (1, (.a (.v 1) (.n 1)), (.v 0))] rfl a2 hg)) hg) fun R hR => ?_
 rw [← List.map_append]
 have xR := upd_same σ₁₀ R (.list ((c ++ [d2] ++ (dueL ka kb).drop T).map deedV))
 have g11 := Grow.refl.upd (σ := σ₁₀) (o := .list ((c ++ [d2] ++ (dueL ka kb).drop T).map deedV)) hR
 generalize upd σ₁₀ R (.list ((c ++ [d2] ++ (dueL ka kb).drop T).map deedV)) = σ₁₁ at xR g11 ⊢
 have okr : ∀ d ∈ c ++ [d2] ++ (dueL ka kb).drop T, okD d := fun d h => (List.mem_append.mp h).elim (fun h => (List.mem_append.mp h).elim (okc d) (fun h => by simp at h; rw [h]; exact hd2)) (fun h => hokd d (List.mem_of_mem_drop h))
 have kr : (c ++ [d2] ++ (dueL ka kb).drop T).length ≤ 400 := by rw [List.length_append, List.length_append, List.length_drop]; simp; exact Nat.le_of_not_lt fun hg => lin [T, ((dueL ka kb).length), (c.length), ((dueL ka kb).length - T)] [(1, (.v 1), (.n 390)), (1, (.v 2), (.a (.v 0) (.n 1))), (1, (.a (.v 3) (.v 0)), (.v 1)), (1, (.a (.n 400) (.n 1)), (.a (.a (.v 2) (.n 1)) (.v 3)))] rfl a3 (Nat.le_of_eq kc) (sub_hi (Nat.le_of_not_lt fun hg => lin [T, ((dueL ka kb).length)] [(1, (.v 0), (.v 1)), (1, (.a (.v 1) (.n 1)), (.v 0))] rfl a2 hg)) hg
 generalize c ++ [d2] ++ (dueL ka kb).drop T = row at okr kr xR ⊢
 replace S := (S.grow (g10.trans g11)).set (x := "_law_row") (v := .ref R) (by decide)
 have hrw : put m₃ "_law_row" (.ref R) "_law_row" = some (.ref R) := by simp
 generalize put m₃ "_law_row" (.ref R) = m₄ at S hrw ⊢
 rw [xseq_eq]
 simp [T_law_18, hrw]
 rw [listc_list xR]
 intro H hH
 have xH := upd_same σ₁₁ H (.list (row.map deedV))
 have g12 := Grow.refl.upd (σ := σ₁₁) (o := .list (row.map deedV)) hH
 generalize upd σ₁₁ H (.list (row.map deedV)) = σ₁₂ at xH g12 ⊢
 have xR2 := g12 _ _ xR
 replace S := (S.grow g12).set (x := "_law_handed") (v := .ref H) (by decide)
 replace hrw : put m₄ "_law_handed" (.ref H) "_law_row" = some (.ref R) := by simp [hrw]
 have hh : put m₄ "_law_handed" (.ref H) "_law_handed" = some (.ref H) := by simp
 generalize put m₄ "_law_handed" (.ref H) = m₅ at S hrw hh ⊢
 show xSeq _ _ _ _ _ _
 rw [xseq_eq]
 simp [T_law_19, S.old, hh]
 obtain ⟨ea, ha⟩ := S.ha
 refine ⟨a, H, ka, ea, row, 190, rfl, ha, xH, ta.tk, by exact Nat.le_of_not_lt fun hg => lin [(row.length)] [(1, (.v 0), (.n 400)), (1, (.a (.n 1000) (.n 1)), (.a (.n 190) (.v 0)))] rfl kr hg, fun d h => (okr d h).1, ?_⟩
 have last : ∀ w σ', Grow σ₁₂ σ' → (match outs ka row with | .inl c => w = .str (Str.ofString c) | .inr k2 => ∃ x e, w = .ref x ∧ σ' x = some (.dict k2 e)) → xP (sSeq (T_law_20 ns) sNil) (put m₅ "_law_word" w) σ' (fin Q) (fun c _ σ' => X c σ') := by
  intro w σ' g hw
  rw [xP_eq, seq_eq]
  exact law_end ((S.grow g).set (by decide)) ta tb (by simp [hrw]) (by simp [hh]) (by simp) (g _ _ xR2) (g _ _ xH) (by exact Nat.le_of_not_lt fun hg => lin [(row.length)] [(1, (.v 0), (.n 400)), (1, (.a (.n 1000) (.n 1)), (.a (.n 190) (.v 0)))] rfl kr hg) okr hw q
 cases ho : outs ka row with
 | inl c =>
  rw [ho] at last
  exact fun σ' g => last _ σ' g rfl
 | inr k2 =>
  rw [ho] at last
  exact fun x e σ' g _ hx => last _ σ' g ⟨x, e, rfl, hx⟩
end Mine
end
noncomputable section
set_option maxRecDepth 10000
namespace Mine
open PySem PySem.W PyProof.Rows PySem.Calls
theorem law_b {ns : List Int} {m : Loc} {σ₀ σ : View} {a b a' b' D F H : Addr} {ka kb : List (Str × V)} {Q : V → View → Prop} {X : String → View → Prop} (S : LS m σ₀ a b a' b' D ka kb) (g : Grow σ₀ σ) (hF : σ₀ F = Option.none) (hf : m "_law_found" = some (.ref F)) (hh : m "_law_handed" = some (.ref H))
  (xF : σ F = some (.list ((dueL ka kb).map deedV))) (xH : σ H = some (.list ((dueL ka kb).map deedV))) (ta : Tr 190 ka) (tb : Tr 200 kb) (nf : NF ka kb) (q : ∀ σ', Q (.bool true) σ') :
  xSeq (T_law_8 ns) (xSeq (T_law_9 ns) (xSeq (T_law_10 ns) (xSeq (T_law_11 ns) (xSeq (T_law_12 ns) (xSeq (T_law_13 ns) (xSeq (T_law_14 ns) (xSeq (T_law_15 ns) (xSeq (T_law_16 ns) (xSeq (T_law_17 ns) (xSeq (T_law_18 ns) (xSeq (T_law_19 ns) (xP (sSeq (T_law_20 ns) sNil))))))))))))) m σ (fin Q) (fun c _ σ' => X c σ') := by
 have la := ta.len
 have lb := tb.len
 have ld := due_len (ka := ka) (kb := kb)
 have hokd := due_okD ta tb
 obtain ⟨kf, ho, hsd⟩ := due_ok ta tb nf
 rw [xseq_eq]
 simp [T_law_8, S.old, hh]
 obtain ⟨ea, ha⟩ := S.ha
 obtain ⟨eb, hb⟩ := S.hb
 refine ⟨a, H, ka, ea, dueL ka kb, 190, rfl, g _ _ ha, xH, ta.tk, by exact Nat.le_of_not_lt fun hg => lin [(ka.length), (kb.length), ((dueL ka kb).length)] [(1, (.v 0), (.n 190)), (1, (.v 1), (.n 200)), (1, (.v 2), (.a (.v 0) (.v 1))), (1, (.a (.n 1000) (.n 1)), (.a (.n 190) (.v 2)))] rfl la lb ld hg, fun d h => (hokd d h).1, ?_⟩
 rw [ho]
 intro w ew σ₁ g1 hwn hw
 replace S := S.set (x := "_law_made") (v := .ref w) (by decide)
 have hm : put m "_law_made" (.ref w) "_law_made" = some (.ref w) := by simp
 replace hf : put m "_law_made" (.ref w) "_law_found" = some (.ref F) := by simp [hf]
 replace hh : put m "_law_made" (.ref w) "_law_handed" = some (.ref H) := by simp [hh]
 show xSeq _ _ _ _ _ _
 generalize put m "_law_made" (.ref w) = m₁ at S hm hf hh ⊢
 rw [xseq_eq]
 simp [T_law_9, S.new]
 intro E hE
 have xE := upd_same σ₁ E (.list [])
 have g2 := Grow.refl.upd (σ := σ₁) (o := .list []) hE
 generalize upd σ₁ E (.list []) = σ₂ at xE g2 ⊢
 refine ⟨b, E, kb, eb, [], 200, rfl, g2 _ _ (g1 _ _ (g _ _ hb)), xE, tb.tk, by decide, by simp, ?_⟩
 intro s es σ₃ g3 hsn hs
 replace S := S.set (x := "_law_same") (v := .ref s) (by decide)
 have hsm : put m₁ "_law_same" (.ref s) "_law_same" = some (.ref s) := by simp
 replace hm : put m₁ "_law_same" (.ref s) "_law_made" = some (.ref w) := by simp [hm]
 replace hf : put m₁ "_law_same" (.ref s) "_law_found" = some (.ref F) := by simp [hf]
 replace hh : put m₁ "_law_same" (.ref s) "_law_handed" = some (.ref H) := by simp [hh]
 show xSeq _ _ _ _ _ _
 generalize put m₁ "_law_same" (.ref s) = m₂ at S hm hf hh hsm ⊢
 have g23 := g1.trans (g2.trans g3)
 have G := g.trans g23
 have hs0 : σ₀ s = Option.none := (g.trans (g1.trans g2)).none hsn
 have xw := (g2.trans g3) _ _ hw
 have xF3 := g23 _ _ xF
 have xH3 := g23 _ _ xH
 have S3 := S.grow G
 obtain ⟨eb3, hb3⟩ := S3.hb
 have hk : (dueL ka kb).map deedV = (dueL ka kb).map deedV := rfl
 rw [xseq_eq]
 simp [T_law_10, hm, hsm, S.new, hh, S.due, isi_dict xw, isi_dict hs]
 refine neD_false (dq_same xw hb3 hsd tb) ?_
 simp [isi_dict hs]
 refine neD_false (dq_dict hs hb3 tb.good.nodup tb.good.flat) ?_
 simp
 refine neD_false (dq_list xH3 S3.hD (deeds_flat _)) ?_
 simp
 rw [xseq_eq]
 simp [T_law_11, hsm]
 refine set_dict hs (by exact Nat.lt_of_le_of_lt lb (by decide)) fun e' => ?_
 have hsF : F ≠ s := by rintro rfl; rw [(g1.trans g2) _ _ xF] at hsn; cases hsn
 have xF4 : upd σ₃ s (.dict (vstored kb (Str.ofString "x") (.str (Str.ofString "y"))) e') F = some (.list ((dueL ka kb).map deedV)) := by rw [upd_ne hsF]; exact xF3
 have G4 : Grow σ₀ (upd σ₃ s (.dict (vstored kb (Str.ofString "x") (.str (Str.ofString "y"))) e')) := G.over hs0
 generalize upd σ₃ s (.dict (vstored kb (Str.ofString "x") (.str (Str.ofString "y"))) e') = σ₄ at xF4 G4 ⊢
 show xSeq _ _ _ _ _ _
 rw [xseq_eq]
 simp [T_law_12, hf, tyList, xF4, spClear]
 have G5 : Grow σ₀ (upd σ₄ F (.list [])) := G4.over hF
 generalize upd σ₄ F (.list []) = σ₅ at G5 ⊢
 clear xF4 G4 xF3 xH3 xw G g23 g3 g2 g1
 have S5 := S.grow G5
 rw [xseq_eq]
 simp [T_law_13, S.old, S.new, S.kept, S.due]
 refine neD_false (S5.both ta tb) ?_
 simp
 obtain ⟨ea5, ha5⟩ := S5.ha
 obtain ⟨eb5, hb5⟩ := S5.hb
 refine ⟨a, D, ka, ea5, dueL ka kb, 190, rfl, ha5, S5.hD, ta.tk, by exact Nat.le_of_not_lt fun hg => lin [(ka.length), (kb.length), ((dueL ka kb).length)] [(1, (.v 0), (.n 190)), (1, (.v 1), (.n 200)), (1, (.v 2), (.a (.v 0) (.v 1))), (1, (.a (.n 1000) (.n 1)), (.a (.n 190) (.v 2)))] rfl la lb ld hg, hokd, ?_⟩
 rw [ho]
 intro y ey σ₆ g6 _ hy
 refine neD_false (dq_same hy (g6 _ _ hb5) hsd tb) ?_
 simp
 refine ⟨a, b, ka, kb, ea5, eb5, rfl, g6 _ _ ha5, g6 _ _ hb5, ta.mono (by decide), tb.mono (by decide), ?_⟩
 intro z σ₇ g7 _ hz
 have S7 := S5.grow (g6.trans g7)
 refine neD_false (dq_list hz S7.hD (deeds_flat _)) ?_
 simp
 exact law_c S7 ta tb q
theorem s_law (ns : List Int) : ∀ vs σ Q X, sp_law ns vs σ Q X → vs.length = 1 ∧ T_law ns (bindM ["_law_script"] vs none') σ (fin Q) (fun c _ σ' => X c σ') := by
 rintro vs σ Q X ⟨rfl, hσ, q⟩
 refine ⟨rfl, ?_⟩
 unfold T_law
 rw [xseq_eq]
 simp [T_law_1]
 refine ⟨.script, rfl, rfl, fun a b ka kb e1 e2 σ₁ g1 ha hb ta tb nf => ?_⟩
 refine ⟨_, rfl, ?_⟩
 have la := ta.len
 have lb := tb.len
 show xSeq _ _ _ _ _ _
 rw [xseq_eq]
 simp [T_law_2]
 refine dictc_dict ha fun a' e1' ha' => ?_
 generalize hs2 : upd σ₁ a' (.dict ka e1') = σ₂
 have g2 : Grow σ₁ σ₂ := by rw [← hs2]; exact Grow.refl.upd ha'
 have xa2 : σ₂ a' = some (.dict ka e1') := by rw [← hs2, upd_same]
 try simp
 refine dictc_dict (g2 _ _ hb) fun b' e2' hb' => ?_
 generalize hs3 : upd σ₂ b' (.dict kb e2') = σ₃
 have g3 : Grow σ₂ σ₃ := by rw [← hs3]; exact Grow.refl.upd hb'
 have xb3 : σ₃ b' = some (.dict kb e2') := by rw [← hs3, upd_same]
 clear hs2 hs3
 have ya := (g2.trans g3) _ _ ha
 have yb := (g2.trans g3) _ _ hb
 have ya' := g3 _ _ xa2
 try simp
 show xSeq _ _ (put (bindM ["_law_old", "_law_new"] [.ref a, .ref b] (put none' "_law_script" .script)) "_law_kept" (.tup [.ref a', .ref b'])) _ _ _
 have sc : put (bindM ["_law_old", "_law_new"] [.ref a, .ref b] (put none' "_law_script" .script)) "_law_kept" (.tup [.ref a', .ref b']) "_law_script" = some .script := by simp [bindM]
 have ol : put (bindM ["_law_old", "_law_new"] [.ref a, .ref b] (put none' "_law_script" .script)) "_law_kept" (.tup [.ref a', .ref b']) "_law_old" = some (.ref a) := by simp [bindM]
 have nw : put (bindM ["_law_old", "_law_new"] [.ref a, .ref b] (put none' "_law_script" .script)) "_law_kept" (.tup [.ref a', .ref b']) "_law_new" = some (.ref b) := by simp [bindM]
 have kp : put (bindM ["_law_old", "_law_new"] [.ref a, .ref b] (put none' "_law_script" .script)) "_law_kept" (.tup [.ref a', .ref b']) "_law_kept" = some (.tup [.ref a', .ref b']) := by simp
 generalize put (bindM ["_law_old", "_law_new"] [.ref a, .ref b] (put none' "_law_script" .script)) "_law_kept" (.tup [.ref a', .ref b']) = m at sc ol nw kp ⊢
 rw [xseq_eq]
 simp [T_law_3, ol, sorted_dict ya]
 intro S1 h1
 have x1 := upd_same σ₃ S1 (.list ((srt (ka.map (·.1))).map .str))
 have g4 := Grow.refl.upd (σ := σ₃) (o := .list ((srt (ka.map (·.1))).map .str)) h1
 rw [iter_list x1]
 generalize (upd σ₃ S1 (.list ((srt (ka.map (·.1))).map .str))) = σ₄ at x1 g4 ⊢
 refine comp_cuts (ka := ka) (by decide) x1 (by simp [nw]) (g4 _ _ yb) (by exact Nat.le_trans la (by decide)) ?_
 intro D1 hD1
 have x2 := upd_same σ₄ D1 (.list ((cutsL ka kb).map deedV))
 have g5 := Grow.refl.upd (σ := σ₄) (o := .list ((cutsL ka kb).map deedV)) hD1
 generalize upd σ₄ D1 (.list ((cutsL ka kb).map deedV)) = σ₅ at x2 g5 ⊢
 show xSeq _ _ _ _ _ _
 rw [xseq_eq]
 simp [T_law_4, nw, sorted_dict (g5 _ _ (g4 _ _ yb))]
 intro S2 h2
 have x3 := upd_same σ₅ S2 (.list ((srt (kb.map (·.1))).map .str))
 have g6 := Grow.refl.upd (σ := σ₅) (o := .list ((srt (kb.map (·.1))).map .str)) h2
 rw [iter_list x3]
 generalize (upd σ₅ S2 (.list ((srt (kb.map (·.1))).map .str))) = σ₆ at x3 g6 ⊢
 have g36 := (g4.trans g5).trans g6
 refine comp_puts (by decide) (by decide) x3 ta tb (by simp [ol]) (by simp [nw]) (g36 _ _ ya) (g36 _ _ yb) (by exact Nat.le_trans lb (by decide)) ?_
 intro D2 hD2
 have x4 := upd_same σ₆ D2 (.list ((putsL ka kb).map deedV))
 have g7 := Grow.refl.upd (σ := σ₆) (o := .list ((putsL ka kb).map deedV)) hD2
 generalize upd σ₆ D2 (.list ((putsL ka kb).map deedV)) = σ₇ at x4 g7 ⊢
 have ld := due_len (ka := ka) (kb := kb)
 have ld' : (cutsL ka kb).length + (putsL ka kb).length ≤ ka.length + kb.length := by unfold dueL at ld; rw [List.length_append] at ld; exact ld
 refine add_list ((g6.trans g7) _ _ x2) x4 (by rw [List.length_map, List.length_map]; exact Nat.le_of_not_lt fun hg => lin [(ka.length), (kb.length), ((cutsL ka kb).length), ((putsL ka kb).length)] [(1, (.v 0), (.n 190)), (1, (.v 1), (.n 200)), (1, (.a (.v 2) (.v 3)), (.a (.v 0) (.v 1))), (1, (.a (.n 16777216) (.n 1)), (.a (.v 2) (.v 3)))] rfl la lb ld' hg) fun D hD => ?_
 rw [← List.map_append]
 have x5 := upd_same σ₇ D (.list ((cutsL ka kb ++ putsL ka kb).map deedV))
 have g8 := Grow.refl.upd (σ := σ₇) (o := .list ((cutsL ka kb ++ putsL ka kb).map deedV)) hD
 generalize upd σ₇ D (.list ((cutsL ka kb ++ putsL ka kb).map deedV)) = σ₈ at x5 g8 ⊢
 have g38 := (g36.trans g7).trans g8
 show xSeq _ _ (put (put m "_law_due" (.ref D1)) "_law_due" (.ref D)) _ _ _
 have S : LS (put (put m "_law_due" (.ref D1)) "_law_due" (.ref D)) σ₈ a b a' b' D ka kb := ⟨by simp [sc], by simp [ol], by simp [nw], by simp [kp], by simp, ⟨_, g38 _ _ ya⟩, ⟨_, g38 _ _ yb⟩, ⟨_, g38 _ _ ya'⟩, ⟨_, g38 _ _ xb3⟩, x5⟩
 generalize put (put m "_law_due" (.ref D1)) "_law_due" (.ref D) = m₂ at S ⊢
 clear sc ol nw kp x1 x2 x3 x4 x5 g36 g38 hD hD1 hD2 h1 h2
 rw [xseq_eq]
 simp [T_law_5, S.old, S.new]
 obtain ⟨ea, xa⟩ := S.ha
 obtain ⟨eb, xb⟩ := S.hb
 refine ⟨a, b, ka, kb, ea, eb, rfl, xa, xb, ta.mono (by decide), tb.mono (by decide), ?_⟩
 intro F σ₉ gF hFn xF
 replace S := S.set (x := "_law_found") (v := .ref F) (by decide)
 have hf : put m₂ "_law_found" (.ref F) "_law_found" = some (.ref F) := by simp
 show xSeq _ _ _ _ _ _
 generalize put m₂ "_law_found" (.ref F) = m₃ at S hf ⊢
 rw [xseq_eq]
 simp [T_law_6, hf, isi_list xF, iter_list xF]
 refine compL_filter (fun s => Grow σ₉ s) (fun s h => h _ _ xF) (fun _ => Option.none) _ _ _ _ (by rw [List.length_map]; simp; exact Nat.le_of_not_lt fun hg => lin [(ka.length), (kb.length), ((dueL ka kb).length)] [(1, (.v 0), (.n 190)), (1, (.v 1), (.n 200)), (1, (.v 2), (.a (.v 0) (.v 1))), (1, (.a (.n 1048576) (.n 1)), (.v 2))] rfl la lb ld hg) ?_ Grow.refl ?_
 ·rintro v hv s Q₁ Q₂ gs n1 n2
  obtain ⟨d, hd, rfl⟩ := List.mem_map.mp hv
  refine ⟨_, rfl, ?_⟩
  simp
  refine ⟨d, rfl, fun s' gs' => ?_⟩
  simp
  exact n2 _ (gs.trans gs') rfl
 ·intro s gs
  have e0 : [] ++ ((dueL ka kb).map deedV).filterMap (fun _ => (Option.none : Option V)) = [] := by simp
  rw [e0]
  intro L hL
  have gL := Grow.refl.upd (σ := s) (o := .list []) hL
  rw [len_list (upd_same _ _ _)]
  generalize upd s L (.list []) = σ₁₀ at gL ⊢
  simp [hf, S.due]
  have G := gF.trans (gs.trans gL)
  have xF2 := (gs.trans gL) _ _ xF
  refine neD_false (dq_list xF2 (S.grow G).hD (deeds_flat _)) ?_
  simp
  rw [xseq_eq]
  simp [T_law_7, hf]
  rw [listc_list xF2]
  intro H hH
  have xH := upd_same σ₁₀ H (.list ((dueL ka kb).map deedV))
  have gH := Grow.refl.upd (σ := σ₁₀) (o := .list ((dueL ka kb).map deedV)) hH
  generalize upd σ₁₀ H (.list ((dueL ka kb).map deedV)) = σ₁₁ at xH gH ⊢
  exact law_b (S.set (by decide)) (G.trans gH) hFn (by simp [hf]) (by simp) (gH _ _ xF2) xH ta tb nf q
end Mine
end
noncomputable section
namespace Mine
open PySem PySem.W PyProof.Rows PySem.Calls
set_option maxRecDepth 100000
noncomputable def adX (k : String) : Addr := match k with
 | "RoadError" => 24
 | "NoPath" => 37
 | "NoFile" => 49
 | "InTheWay" => 61
 | _ => 0
theorem ns_at (P : Params) : (ksX.map fun k => nsIn (Hd.kk P) mainGlobals (Str.ofString k)) = ksX.map fun k => some (some (.ref (adX k))) := by kernel_rfl
theorem xc_root (P : Params) : xcIn (Hd.kk P) 24 veBases = true := by kernel_rfl
theorem xc_at (P : Params) : (["NoPath", "NoFile", "InTheWay"].all fun k => xcIn (Hd.kk P) (adX k) (.ref 24 :: veBases)) = true := by kernel_rfl
theorem tab_of {C : Cx} {P : Params} (X : (Hd.kk P).In C.hB) (g : C.hB.Ns mainGlobals C.mg) (hv : C.mg (Str.ofString "ValueError") = Option.none) : XTab C csX ksX adX := by
 have mgk : ∀ k ∈ ksX, C.mg (Str.ofString k) = some (.ref (adX k)) := by
  intro k hk
  have h := ns_at P
  exact mg_of X g (List.map_inj_left.mp h k hk)
 have xck : ∀ k ∈ ["NoPath", "NoFile", "InTheWay"], XC C.hB (adX k) (.ref 24 :: veBases) := fun k hk => xc_of_in X (List.all_eq_true.mp (xc_at P) k hk)
 refine ⟨fun k hk => ⟨mgk k hk, ?_⟩, fun c hc => ?_, hv⟩
 ·rcases List.mem_cons.mp hk with rfl | hk
  ·exact ⟨_, xc_of_in X (xc_root P)⟩
  ·exact ⟨_, xck k hk⟩
 ·have hc' : c = "NoPath" ∨ c = "NoFile" ∨ c = "InTheWay" := by simpa [csX] using hc
  refine ⟨.ref 24 :: veBases, mgk c (by rcases hc' with rfl | rfl | rfl <;> decide), xck c (by rcases hc' with rfl | rfl | rfl <;> decide), by decide, ?_⟩
  rcases hc' with rfl | rfl | rfl <;> decide
theorem free_of {p : Program} {loose : List Str} {mean : ExcName → Option Value} {mg mb : Str → Option Value} {h : Heap} {x : String} (T : Top p loose mean mg mb h) (hf : (!(startupNames ++ loose ++ (recsOf p).map (·.name) ++ (litsOf p).map (·.1) ++ (clssOf p loose).map (·.name)).contains (Str.ofString x)) = true) : mg (Str.ofString x) = none := by
 simp only [Bool.not_eq_true', List.contains_eq_mem, decide_eq_false_iff_not, List.mem_append, not_or] at hf
 obtain ⟨⟨⟨⟨h1, h2⟩, h3⟩, h4⟩, h5⟩ := hf
 exact T.free _ h1 h2 h3 h4 h5
theorem ve_x : (!(startupNames ++ (looseW Hd.vw []) ++ (recsOf Hd.vw).map (·.name) ++ (litsOf Hd.vw).map (·.1) ++ (clssOf Hd.vw (looseW Hd.vw [])).map (·.name)).contains (Str.ofString "ValueError")) = true := by decide +kernel
theorem law_at {C : Cx} (G : Gl C Hd.vw) (hz : C.held = none) (Tb : XTab C csX ksX adX) (g1 : GInt C "LONGEST_PART" 12) (g2 : GStr C "SIGNS" (Str.ofString "abcdefghijklmnopqrstuvwxyzABCDEFGHIJKLMNOPQRSTUVWXYZ0123456789.-_")) (g3 : GInt C "MOST_PARTS" 8) : FnAtX C 5 "law" (sp_law C.ns) := by
 have h1 := f__law_cell_at G hz (s_cell C.ns)
 have h2 := f__law_sign_by G hz (s_sign C.ns)
 have h3 := f__law_name_by G hz h2 (s_name C.ns)
 have h4 := f__law_path_by G hz h3 (s_pathby C.ns)
 have h5 := f__law_line_by G hz (s_line C.ns)
 have h6 := f__law_is_free G hz (s_free C.ns)
 have h7 := f_is_part G hz g1 g2 (s_isp C.ns)
 have h8 := f_is_path G hz g3 h7 (s_path C.ns)
 have h9 := f_is_beneath G hz (s_ben C.ns)
 have h10 := f_done G hz Tb h8 h9 (s_done C.ns)
 have h11 := f_changed G hz h10 (s_changed C.ns)
 have h12 := f_between G hz (s_between C.ns)
 have h13 := f__law_grown G hz h4 h6 h5 (s_grown C.ns)
 have h14 := f__law_word_of G hz h6 (s_word C.ns)
 have h15 := f__law_is_deed G hz (s_isdeed C.ns)
 have h16 := f__law_told G hz Tb h11 (s_told C.ns adX)
 have h17 := f__law_trees G hz h1 h13 h5 (s_trees C.ns)
 have h18 := f__law_odd_deed G hz (s_odd C.ns)
 exact f_law G hz h17 h12 h15 h11 h14 h1 h18 h16 (s_law C.ns)
theorem hf_x : (["len", "range", "min", "max", "isinstance", "bool", "str", "int", "list", "dict", "set", "sorted", "tuple", "sum", "type"].all fun x : String => !(startupNames ++ (looseW Hd.vw []) ++ (recsOf Hd.vw).map (·.name) ++ (litsOf Hd.vw).map (·.1) ++ (clssOf Hd.vw (looseW Hd.vw [])).map (·.name)).contains (Str.ofString x)) = true := by decide +kernel
theorem v1 : valOf Hd.vw (Str.ofString "LONGEST_PART") = some (.int 12) := by rfl
theorem v2 : valOf Hd.vw (Str.ofString "SIGNS") = some (.str (Str.ofString "abcdefghijklmnopqrstuvwxyzABCDEFGHIJKLMNOPQRSTUVWXYZ0123456789.-_")) := by rfl
theorem v3 : valOf Hd.vw (Str.ofString "MOST_PARTS") = some (.int 8) := by rfl
theorem hi_x : importsNone Hd.vw = true := by decide +kernel
end Mine
open PySem PySem.W PyProof.Rows PySem.Calls
set_option maxRecDepth 100000
set_option maxHeartbeats 8000000
theorem PySem.Challenge.cw_uf050007_05_holds : PySem.Challenge.rw_uf050007_05.Holds :=
 Mine.Hd.hd (by rfl) (by rfl) (by rfl) (by
 intro w s₀ s₁ mg mb G Y fa o pm cd doc dV kV ho hd hcd hD hmg hg args vals as hpre hlay hrd hwl hlo
 have KX := kIn_of Y
 have X := (Ground.X G).1
 have V := (Ground.X G).2
 refine Ground.open G ?_
 intro T B D TE TW
 try (refine guard_noD D (by decide +kernel) ?_; clear D)
 obtain ⟨_, _, M⟩ := bmod_of_top T
 wrow_args hpre hlay hrd hwl hlo
 all_goals first | refine callC_kw (enter_call ?_) | refine enter_call ?_ | refine callC_kw (enter_callW ?_) | refine enter_callW ?_ | w_how
 rename_i ns _ _ _ _ _ _ _ aS vs _ hL _ _ _ hI _ hn _
 have O : Mine.Cx.Ok ⟨PySem.Challenge.rw_uf050007_05.row.prog, w, s₁, aS, ns, mg, mb, none⟩ := Mine.Cx.ok_of rfl T Mine.hi_x hL hI hn
 have GG := Mine.Gl.of T O Mine.hf_x
 have hve : mg (Str.ofString "ValueError") = none := Mine.free_of T Mine.ve_x
 have Tb := Mine.tab_of (C := ⟨PySem.Challenge.rw_uf050007_05.row.prog, w, s₁, aS, ns, mg, mb, none⟩) (P := w.params) KX T.g hve
 have g1 : Mine.GInt ⟨PySem.Challenge.rw_uf050007_05.row.prog, w, s₁, aS, ns, mg, mb, none⟩ "LONGEST_PART" 12 := Mine.GInt.of T Mine.v1
 have g2 : Mine.GStr ⟨PySem.Challenge.rw_uf050007_05.row.prog, w, s₁, aS, ns, mg, mb, none⟩ "SIGNS" (Str.ofString "abcdefghijklmnopqrstuvwxyzABCDEFGHIJKLMNOPQRSTUVWXYZ0123456789.-_") := Mine.GStr.of T Mine.v2
 have g3 : Mine.GInt ⟨PySem.Challenge.rw_uf050007_05.row.prog, w, s₁, aS, ns, mg, mb, none⟩ "MOST_PARTS" 8 := Mine.GInt.of T Mine.v3
 obtain ⟨a, o', fd', e1, e2, e3, S⟩ := Mine.law_at GG rfl Tb g1 g2 g3
 have ea : a = fa := by
  have := e1.symm.trans hmg
  cases this; rfl
 subst ea
 exact Mine.law_endsX rfl S (by decide) hg (raisesW_false (by wrow_none_raised)) (by wrow_post))
end
