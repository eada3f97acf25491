import PyProof.Rows.All
import Wide.All
import OpenK.AllK
import Wide.FinOn
import PyProof.Walks
import PyProof.WalksMore
import PyProof.Cells
import PyProof.DictWalks
import PyProof.StrBlock
import PyProof.CompFree
import PyProof.StrCalls2
import PyProof.DefCall
import PyProof.MakeMany
import PyProof.CallType
import PyProof.Ns1
import PyProof.LetGo
import PyProof.PureInt
import PyProof.StrOps
import PyProof.Rows.RuleB_mod
import PyProof.Rows.RuleB_floordiv
import PyProof.Rows.RuleB_mul
import PyProof.Rows.RuleB_pow
import PyProof.Rows.RuleC_bool
import PyProof.Rows.EqNone
import PyProof.Rows.StrRules
import PyProof.Rows.IntBool
import PyProof.Raises
import PyProof.ForRange
import PyProof.RangeFor
import PyProof.StrWalks
import PyProof.IsiPairs
import PyProof.IsiHeapPairs
import PyProof.WalkInts
import PyProof.SliceMore
import PyProof.SliceStr2
import PyProof.EqAt
import PyProof.ListIndexNeg
import PyProof.StrCalls3
import PyProof.Rows.Tup
import PyProof.Rows.Lst
import PyProof.Rows.SeqMore
import PyProof.StrOps2
import PyProof.DictTruth
import PyProof.EqKinds
import PyProof.StrCalls
import PyProof.CallStr
import PyProof.Conv_int_bool
import PyProof.FactsAll.list
import PyProof.StrLawsOcc
import PyProof.FitsReplace
import PyProof.StrLawsTight
import PyProof.StrBlock2
import KE.KDictList
import KE.KItemsList
import KE.KDictOf
import PyProof.DictRoads
import PyProof.Rows.SortRuns
import PyProof.Rows.SortKey
import PyProof.Rows.SortShell
import PyProof.Rows.SortStr
import PyProof.Rows.SetFrom
import KE.KDictSum
import KE.KEqDict
import PyProof.RaisesMany
import PyProof.StationsW
import PyProof.Rows.OwnQ
import PyProof.ExcBaseAll.ValueError
import PyProof.ExcAttrAll.ValueError
import PyProof.IsInstance
import PyProof.RulesAs
import PyProof.RulesDel
import PyProof.ObjNew
import PyProof.InstLoad
import PyProof.InstStoreFacts
import PyProof.AssignAttr
import PyProof.Rows.PlainNoArg
import KE.KRevIter
import PyProof.DictTable
import PyProof.Rows.MinMaxN
import PyProof.Rows.Range3
import PySem.Challenge.RW_uf050007_10
set_option Elab.async false
noncomputable section
set_option autoImplicit false
namespace Mine
/-- linear terms over naturals -/
inductive LT' where
  | v (i : Nat)
  | n (k : Nat)
  | a (x y : LT')
  | m (k : Nat) (x : LT')
noncomputable def LT'.den (c : List Nat) : LT' → Nat
  | .v i => c.getD i 0
  | .n k => k
  | .a x y => x.den c + y.den c
  | .m k x => k * x.den c
/-- a coefficient row and a constant -/
structure PL where
  r : List Nat
  k : Nat
noncomputable def PL.ev (c : List Nat) : List Nat → Nat
  | [] => 0
  | q :: r => q * c.headD 0 + PL.ev c.tail r
noncomputable def PL.den (c : List Nat) (p : PL) : Nat := PL.ev c p.r + p.k
noncomputable def addR : List Nat → List Nat → List Nat
  | [], b => b
  | a, [] => a
  | x :: a, y :: b => (x + y) :: addR a b
theorem addR_ev : ∀ (c a b : List Nat), PL.ev c (addR a b) = PL.ev c a + PL.ev c b
  | _, [], b => by simp [addR, PL.ev]
  | _, x :: a, [] => by simp [addR, PL.ev]
  | c, x :: a, y :: b => by
    have ih := addR_ev c.tail a b
    simp only [addR, PL.ev, ih, Nat.add_mul]; omega
noncomputable def unit : Nat → List Nat
  | 0 => [1]
  | i + 1 => 0 :: unit i
theorem unit_ev : ∀ (i : Nat) (c : List Nat), PL.ev c (unit i) = c.getD i 0
  | 0, [] => rfl
  | 0, x :: c => by simp [unit, PL.ev]
  | i + 1, [] => by
    have := unit_ev i []
    simp [unit, PL.ev] at this ⊢; exact this
  | i + 1, x :: c => by
    have := unit_ev i c
    simp [unit, PL.ev] at this ⊢; exact this
theorem mul_ev (k : Nat) : ∀ (c a : List Nat), PL.ev c (a.map (k * ·)) = k * PL.ev c a
  | _, [] => rfl
  | c, x :: a => by
    have ih := mul_ev k c.tail a
    simp only [List.map_cons, PL.ev, ih, Nat.mul_add, Nat.mul_assoc]
noncomputable def LT'.pl : LT' → PL
  | .v i => ⟨unit i, 0⟩
  | .n k => ⟨[], k⟩
  | .a x y => ⟨addR x.pl.r y.pl.r, x.pl.k + y.pl.k⟩
  | .m k x => ⟨x.pl.r.map (k * ·), k * x.pl.k⟩
theorem pl_den (c : List Nat) : ∀ x : LT', x.pl.den c = x.den c
  | .v i => by simp [LT'.pl, PL.den, LT'.den, unit_ev]
  | .n k => by simp [LT'.pl, PL.den, LT'.den, PL.ev]
  | .a x y => by
    have h1 := pl_den c x
    have h2 := pl_den c y
    unfold PL.den at h1 h2
    simp only [LT'.pl, PL.den, LT'.den, addR_ev]; omega
  | .m k x => by
    have h1 := pl_den c x
    unfold PL.den at h1
    simp only [LT'.pl, PL.den, LT'.den, mul_ev, ← h1, Nat.mul_add]
noncomputable def geR : List Nat → List Nat → Bool
  | _, [] => true
  | [], y :: b => y == 0 && geR [] b
  | x :: a, y :: b => Nat.ble y x && geR a b
theorem geR_ev : ∀ (c a b : List Nat), geR a b = true → PL.ev c b ≤ PL.ev c a
  | _, _, [], _ => Nat.zero_le _
  | c, [], y :: b, h => by
    simp [geR] at h
    have := geR_ev c.tail [] b h.2
    simp [PL.ev, h.1] at this ⊢; exact this
  | c, x :: a, y :: b, h => by
    simp [geR] at h
    have := geR_ev c.tail a b h.2
    have h2 := Nat.mul_le_mul_right (c.headD 0) h.1
    simp only [PL.ev]; omega
/-- the facts that are used, each with its weight -/
abbrev Cert := List (Nat × LT' × LT')
noncomputable def Cert.den (c : List Nat) : Cert → Prop → Prop
  | [], g => g
  | (_, x, y) :: r, g => x.den c ≤ y.den c → Cert.den c r g
noncomputable def Cert.sum : Cert → PL × PL
  | [] => (⟨[], 0⟩, ⟨[], 0⟩)
  | (w, x, y) :: r => let s := Cert.sum r; (⟨addR (x.pl.r.map (w * ·)) s.1.r, w * x.pl.k + s.1.k⟩, ⟨addR (y.pl.r.map (w * ·)) s.2.r, w * y.pl.k + s.2.k⟩)
noncomputable def Cert.ok (t : Cert) : Bool := let s := t.sum; geR s.1.r s.2.r && Nat.blt s.2.k s.1.k
theorem cert_den (c : List Nat) (g : Prop) : ∀ t : Cert, (t.sum.1.den c ≤ t.sum.2.den c → g) → Cert.den c t g
  | [], h => h (Nat.le_refl _)
  | (w, x, y) :: r, h => fun hxy => cert_den c g r fun hr => h (by
      have h1 := pl_den c x
      have h2 := pl_den c y
      have h3 := Nat.mul_le_mul_left w hxy
      rw [← h1, ← h2] at h3
      unfold PL.den at h3 hr ⊢
      simp only [Cert.sum, addR_ev, mul_ev]
      rw [Nat.mul_add, Nat.mul_add] at h3
      omega)
/-- facts that cannot all hold -/
theorem lin (c : List Nat) (t : Cert) (h : t.ok = true) : Cert.den c t False := cert_den c False t fun hs => by
  unfold Cert.ok at h
  simp only [Bool.and_eq_true, Nat.blt_eq] at h
  have h1 := geR_ev c _ _ h.1
  have h2 := h.2
  unfold PL.den at hs
  omega
end Mine
namespace Mine
theorem sub_lo (a b : Nat) : a ≤ a - b + b := by omega
theorem sub_hi {a b : Nat} (h : b ≤ a) : a - b + b ≤ a := by omega
end Mine


end
noncomputable section
set_option autoImplicit false
namespace Mine
open PySem

/-- abstract values: tuples by value, mutable things by address -/
inductive V where
  | none
  | bool (b : Bool)
  | int (i : Int)
  | str (s : Str)
  | ref (a : Addr)
  | script
  | ty (n : String)
  | tup (vs : List V)

/-- abstract mutable objects -/
inductive AObj where
  | list (xs : List V)
  | dict (kvs : List (Str × V)) (ep : Nat)
  | idict (kvs : List (Int × V)) (ep : Nat)
  | inst (dx : Addr)
  | ns (fs : List (String × V))

abbrev View := Addr → Option AObj
abbrev Loc := String → Option V
noncomputable def upd (σ : View) (a : Addr) (o : AObj) : View := fun b => if b = a then some o else σ b
noncomputable def put (m : Loc) (x : String) (v : V) : Loc := fun y => if y = x then some v else m y
@[simp] theorem upd_same (σ : View) (a : Addr) (o : AObj) : upd σ a o a = some o := by simp [upd]
theorem upd_ne {σ : View} {a b : Addr} {o : AObj} (h : b ≠ a) : upd σ a o b = σ b := by simp [upd, h]
theorem upd_old {σ : View} {a b : Addr} {o o' : AObj} (ha : σ a = none) (hb : σ b = some o') : upd σ a o b = some o' := by
  rw [upd_ne (by rintro rfl; rw [ha] at hb; cases hb), hb]
@[simp] theorem put_same (m : Loc) (x : String) (v : V) : put m x v x = some v := by simp [put]
theorem put_ne {m : Loc} {x y : String} {v : V} (h : y ≠ x) : put m x v y = m y := by simp [put, h]

/-- what is fixed for the whole call -/
structure Cx where
  prog : Program
  w : World
  s₁ : Shared
  aS : Addr
  ns : List Int
  mg : Str → Option Value
  mb : Str → Option Value
  held : Option Addr := none
abbrev Cx.hB (C : Cx) : Heap := C.s₁.heap
structure Cx.Ok (C : Cx) : Prop where
  g : C.hB.Ns mainGlobals C.mg
  b : C.hB.Ns builtinsNs C.mb
  nolimit : C.hB.NoLimit
  mods : ∃ o, C.hB.get? sysModules = some o
  few : C.ns.length ≤ 63
  heldOk : ∀ e, C.held = some e → ∃ o vs, C.hB.get? e = some o ∧ o.data = .fields vs ∧ vs[2]? = some .none
  script : ∃ ws, C.hB.IsList C.aS ws ∧ ws.toList.length = C.ns.length ∧ ∀ (i : Nat) n, C.ns[i]? = some n → ∃ t, ws.toList[i]? = some (Value.int n t)

theorem Cx.Ok.noMods {C : Cx} (O : C.Ok) {a : Addr} (h : C.hB.get? a = none) : (a == sysModules) = false := by
  obtain ⟨o, ho⟩ := O.mods
  simp only [beq_eq_false_iff_ne]
  rintro rfl
  rw [ho] at h; cases h

mutual
inductive VRel (aS : Addr) (h : Heap) : V → Value → Prop
  | none : VRel aS h .none .none
  | bool (b : Bool) : VRel aS h (.bool b) (.bool b)
  | int (i : Int) (t : Tok) : VRel aS h (.int i) (.int i t)
  | str (x : Str) (t : Tok) : VRel aS h (.str x) (.str x t)
  | ref (a : Addr) : VRel aS h (.ref a) (.ref a)
  | script : VRel aS h .script (.ref aS)
  | ty (n : String) : VRel aS h (.ty n) (.type n)
  | tup {vs : List V} {a : Addr} {ws : List Value} : h.IsTuple a ws.toArray → VRels aS h vs ws → VRel aS h (.tup vs) (.ref a)
inductive VRels (aS : Addr) (h : Heap) : List V → List Value → Prop
  | nil : VRels aS h [] []
  | cons {v : V} {w : Value} {vs : List V} {ws : List Value} : VRel aS h v w → VRels aS h vs ws → VRels aS h (v :: vs) (w :: ws)
end

noncomputable def IsT (o : Obj) : Prop := o.cls = .type "tuple" ∧ ∃ it n, o.data = .seq it n
noncomputable def TupKeep (h h' : Heap) : Prop := ∀ b o, h.get? b = some o → IsT o → h'.get? b = some o
mutual
theorem VRel.keep {aS : Addr} {h h' : Heap} (k : TupKeep h h') : ∀ {v : V} {w : Value}, VRel aS h v w → VRel aS h' v w
  | _, _, .none => .none
  | _, _, .bool b => .bool b
  | _, _, .int i t => .int i t
  | _, _, .str x t => .str x t
  | _, _, .ref a => .ref a
  | _, _, .script => .script
  | _, _, .ty n => .ty n
  | _, _, .tup ht hs => .tup (let ⟨o, ho, hc, r⟩ := ht; ⟨o, k _ o ho ⟨hc, _, r⟩, hc, r⟩) (VRels.keep k hs)
theorem VRels.keep {aS : Addr} {h h' : Heap} (k : TupKeep h h') : ∀ {vs : List V} {ws : List Value}, VRels aS h vs ws → VRels aS h' vs ws
  | _, _, .nil => .nil
  | _, _, .cons a b => .cons (VRel.keep k a) (VRels.keep k b)
end
theorem VRels.length {aS : Addr} {h : Heap} : ∀ {vs : List V} {ws : List Value}, VRels aS h vs ws → vs.length = ws.length
  | _, _, .nil => rfl
  | _, _, .cons _ r => by simp [VRels.length r]
theorem VRels.get {aS : Addr} {h : Heap} : ∀ {vs : List V} {ws : List Value}, VRels aS h vs ws → ∀ {i : Nat} {v : V}, vs[i]? = some v → ∃ w, ws[i]? = some w ∧ VRel aS h v w
  | _, _, .nil, i, v, e => by simp at e
  | _, _, .cons a r, 0, v, e => by simp at e; subst e; exact ⟨_, rfl, a⟩
  | _, _, .cons a r, i + 1, v, e => by simp at e; obtain ⟨w, h1, h2⟩ := VRels.get r e; exact ⟨w, by simpa using h1, h2⟩
theorem VRels.inv0 {aS : Addr} {h : Heap} {ws : List Value} (x : VRels aS h [] ws) : ws = [] := by cases x; rfl
theorem VRels.invC {aS : Addr} {h : Heap} {a : V} {as : List V} {ws : List Value} (x : VRels aS h (a :: as) ws) : ∃ w ws', ws = w :: ws' ∧ VRel aS h a w ∧ VRels aS h as ws' := by
  cases x with
  | cons h1 r => exact ⟨_, _, rfl, h1, r⟩
theorem VRel.invStr {aS : Addr} {h : Heap} {x : Str} {w : Value} (r : VRel aS h (.str x) w) : ∃ t, w = .str x t := by cases r; exact ⟨_, rfl⟩
theorem VRel.invInt {aS : Addr} {h : Heap} {x : Int} {w : Value} (r : VRel aS h (.int x) w) : ∃ t, w = .int x t := by cases r; exact ⟨_, rfl⟩
theorem VRels.append {aS : Addr} {h : Heap} : ∀ {vs vs' : List V} {ws ws' : List Value}, VRels aS h vs ws → VRels aS h vs' ws' → VRels aS h (vs ++ vs') (ws ++ ws')
  | _, _, _, _, .nil, b => b
  | _, _, _, _, .cons a r, b => .cons a (VRels.append r b)

/-- the heap bears an object of the view -/
noncomputable def PRel {K : Type} (aS : Addr) (h : Heap) : List (K × V) → List (K × Value) → Prop
  | [], [] => True
  | (k, v) :: r, (k', w) :: r' => k = k' ∧ VRel aS h v w ∧ PRel aS h r r'
  | _, _ => False
theorem PRel.keep {K : Type} {aS : Addr} {h h' : Heap} (k : TupKeep h h') : ∀ {a : List (K × V)} {b : List (K × Value)}, PRel aS h a b → PRel aS h' a b
  | [], [], _ => trivial
  | (_, _) :: _, (_, _) :: _, ⟨e, v, r⟩ => ⟨e, v.keep k, PRel.keep k r⟩
theorem PRel.length {K : Type} {aS : Addr} {h : Heap} : ∀ {a : List (K × V)} {b : List (K × Value)}, PRel aS h a b → a.length = b.length
  | [], [], _ => rfl
  | (_, _) :: _, (_, _) :: _, ⟨_, _, r⟩ => by simp [PRel.length r]

theorem PRel.get {K : Type} {aS : Addr} {h : Heap} : ∀ {a : List (K × V)} {b : List (K × Value)}, PRel aS h a b → ∀ {i : Nat} {k : K} {v : V}, a[i]? = some (k, v) → ∃ w, b[i]? = some (k, w) ∧ VRel aS h v w
  | [], [], _, i, k, v, e => by simp at e
  | (_, _) :: _, (_, w) :: _, ⟨e1, e2, _⟩, 0, k, v, e => by simp at e; obtain ⟨rfl, rfl⟩ := e; exact ⟨w, by simp [e1], e2⟩
  | (_, _) :: _, (_, _) :: _, ⟨_, _, r⟩, i + 1, k, v, e => by simp at e; obtain ⟨w, h1, h2⟩ := PRel.get r e; exact ⟨w, by simpa using h1, h2⟩

noncomputable def ObjRel (C : Cx) (h : Heap) (a : Addr) : AObj → Prop
  | .list xs => xs.length ≤ 16777216 ∧ ∃ ws : List Value, h.PlainList a ws.toArray ∧ VRels C.aS h xs ws
  | .dict kvs ep => kvs.length ≤ 16777216 ∧ ∃ kws, h.DictAt (strKind C.prog C.w) a kws ep ∧ PRel C.aS h kvs kws
  | .idict kvs ep => kvs.length ≤ 16777216 ∧ ∃ kws, h.DictAt (intKind C.prog C.w) a kws ep ∧ PRel C.aS h kvs kws
  | .inst dx => ∃ cl, C.mg (Str.ofString "Book") = some (.ref cl) ∧ dx ≠ a ∧ h.get? a = some { cls := .ref cl, dict := some dx, data := .plain }
  | .ns fs => fs.length ≤ 1000 ∧ ∃ mA : Str → Option Value, h.Ns1 a mA ∧ (∀ x v, fs.lookup x = some v → ∃ w, mA (Str.ofString x) = some w ∧ VRel C.aS h v w) ∧ ∀ y : Str, (∀ q ∈ fs, y ≠ Str.ofString q.1) → mA y = none
theorem ObjRel.keep {C : Cx} {h h' : Heap} {a : Addr} {o : AObj} (x : ObjRel C h a o) (k : TupKeep h h') (ka : ∀ o, h.get? a = some o → h'.get? a = some o) : ObjRel C h' a o := by
  cases o with
  | list xs => obtain ⟨hz, ws, h1, h2⟩ := x; exact ⟨hz, ws, h1.at ka, h2.keep k⟩
  | dict kvs ep => obtain ⟨hz, ws, h1, h2⟩ := x; exact ⟨hz, ws, h1.at' ka, h2.keep k⟩
  | idict kvs ep => obtain ⟨hz, ws, h1, h2⟩ := x; exact ⟨hz, ws, h1.at' ka, h2.keep k⟩
  | inst dx => obtain ⟨cl, h1, h2, h3⟩ := x; exact ⟨cl, h1, h2, ka _ h3⟩
  | ns fs => obtain ⟨hz, mA, h1, h2, h3⟩ := x; exact ⟨hz, mA, h1.at ka, fun y v e => let ⟨w, a, b⟩ := h2 y v e; ⟨w, a, b.keep k⟩, h3⟩
/-- the object of the view at a is neither a tuple nor a cell -/
theorem ObjRel.shape {C : Cx} {h : Heap} {a : Addr} {o : AObj} (x : ObjRel C h a o) : ∃ ob, h.get? a = some ob ∧ ¬ IsT ob ∧ ∀ v, ob.data ≠ .cell v := by
  cases o with
  | list xs => obtain ⟨_, ws, ⟨n, h1⟩, h2⟩ := x; exact ⟨_, h1, by simp [IsT], by simp⟩
  | dict kvs ep => obtain ⟨_, ws, ⟨o, es, ho, hc, hd, _⟩, h2⟩ := x; exact ⟨o, ho, by simp [IsT, hd], by rw [hd]; simp⟩
  | idict kvs ep => obtain ⟨_, ws, ⟨o, es, ho, hc, hd, _⟩, h2⟩ := x; exact ⟨o, ho, by simp [IsT, hd], by rw [hd]; simp⟩
  | inst dx => obtain ⟨cl, h1, h2, h3⟩ := x; exact ⟨_, h3, by simp [IsT], by simp⟩
  | ns fs => obtain ⟨_, mA, ⟨o, es, ep, ho, hd, _⟩, h2⟩ := x; exact ⟨o, ho, by simp [IsT, hd], by rw [hd]; simp⟩

structure RelG (C : Cx) (σ : View) (s : Shared) : Prop where
  rest : ∃ h tk d, s = { C.s₁ with heap := h, toks := tk, drawn := d }
  base : ∀ b o, C.hB.get? b = some o → s.heap.get? b = some o
  view : ∀ a o, σ a = some o → ObjRel C s.heap a o
  apart : ∀ a, σ a ≠ none → C.hB.get? a = none

/-- the same object, or the same namespace with other slots -/
noncomputable def Like (o o' : Obj) : Prop := o' = o ∨ ((∃ es ep, o.data = .dict es ep) ∧ ∃ sl, o' = { o with slots := sl })
theorem Like.refl (o : Obj) : Like o o := .inl rfl
theorem Like.trans {a b c : Obj} (x : Like a b) (y : Like b c) : Like a c := by
  rcases x with rfl | ⟨⟨es, ep, hd⟩, sl, rfl⟩
  · exact y
  · rcases y with rfl | ⟨_, sl', rfl⟩
    · exact .inr ⟨⟨es, ep, hd⟩, sl, rfl⟩
    · exact .inr ⟨⟨es, ep, hd⟩, sl', rfl⟩
theorem Like.ns {h h' : Heap} {a : Addr} {m : Str → Option Value} (hn : h.Ns a m) (k : ∀ o, h.get? a = some o → ∃ o', h'.get? a = some o' ∧ Like o o') : h'.Ns a m := by
  obtain ⟨o, es, ep, ho, hd, r⟩ := hn
  obtain ⟨o', ho', hl⟩ := k o ho
  rcases hl with rfl | ⟨_, sl, rfl⟩
  · exact ⟨_, es, ep, ho', hd, r⟩
  · exact ⟨_, es, ep, ho', hd, r⟩
structure Step (own : Addr → Prop) (σ σ' : View) (h h' : Heap) : Prop where
  keepL : ∀ b o, h.get? b = some o → σ b = none → ¬ own b → ∃ o', h'.get? b = some o' ∧ Like o o'
  size : h.objs.size ≤ h'.objs.size
  new : ∀ b, σ b = none → σ' b ≠ none → h.objs.size ≤ b
noncomputable def no : Addr → Prop := fun _ => False
theorem Step.of {own : Addr → Prop} {σ σ' : View} {h h' : Heap} (k : ∀ b o, h.get? b = some o → σ b = none → ¬ own b → h'.get? b = some o) (size : h.objs.size ≤ h'.objs.size) (new : ∀ b, σ b = none → σ' b ≠ none → h.objs.size ≤ b) : Step own σ σ' h h' :=
  ⟨fun b o e n q => ⟨o, k b o e n q, Like.refl o⟩, size, new⟩
theorem Step.keep {own : Addr → Prop} {σ σ' : View} {h h' : Heap} (x : Step own σ σ' h h') (b : Addr) (o : Obj) (e : h.get? b = some o) (n : σ b = none) (q : ¬ own b) (hd : ∀ es ep, o.data ≠ .dict es ep) : h'.get? b = some o := by
  obtain ⟨o', h1, h2⟩ := x.keepL b o e n q
  rcases h2 with rfl | ⟨⟨es, ep, z⟩, _⟩
  · exact h1
  · exact absurd z (hd es ep)

theorem Step.mono {own own' : Addr → Prop} {σ σ' : View} {h h' : Heap} (x : Step own σ σ' h h') (k : ∀ b o, h.get? b = some o → own b → own' b) : Step own' σ σ' h h' :=
  ⟨fun b o e n q => x.keepL b o e n fun z => q (k b o e z), x.size, x.new⟩
theorem RelG.dom {C : Cx} {σ : View} {s : Shared} (R : RelG C σ s) : ∀ b, σ b ≠ none → s.heap.get? b ≠ none := fun b hb => by
  cases e : σ b with
  | none => exact absurd e hb
  | some o => obtain ⟨ob, h1, _⟩ := (R.view b o e).shape; rw [h1]; simp
theorem Step.refl {own : Addr → Prop} {σ : View} {h : Heap} : Step own σ σ h h :=
  .of (fun _ _ e _ _ => e) (Nat.le_refl _) fun _ h h' => absurd h h'
theorem Step.trans {own : Addr → Prop} {σ₁ σ₂ σ₃ : View} {h₁ h₂ h₃ : Heap} (x : Step own σ₁ σ₂ h₁ h₂) (y : Step own σ₂ σ₃ h₂ h₃) : Step own σ₁ σ₃ h₁ h₃ where
  keepL := fun b o e n q => by
    obtain ⟨o', h1, h2⟩ := x.keepL b o e n q
    obtain ⟨o'', h3, h4⟩ := y.keepL b o' h1 (by
      cases z : σ₂ b with
      | none => rfl
      | some o' => have := x.new b n (by rw [z]; simp); exact absurd (Heap.lt_size e) (Nat.not_lt.mpr this)) q
    exact ⟨o'', h3, h2.trans h4⟩
  size := Nat.le_trans x.size y.size
  new := fun b n m => by
    cases z : σ₂ b with
    | some o' => exact x.new b n (by rw [z]; simp)
    | none => exact Nat.le_trans x.size (y.new b z m)
theorem Step.tups {C : Cx} {own : Addr → Prop} {σ σ' : View} {s : Shared} {h' : Heap} (R : RelG C σ s) (x : Step own σ σ' s.heap h') (ho : ∀ b o, own b → s.heap.get? b = some o → ¬ IsT o) : TupKeep s.heap h' := fun b o e hc =>
  x.keep b o e (by
    cases z : σ b with
    | none => rfl
    | some o' => obtain ⟨ob, h1, h2, _⟩ := (R.view b o' z).shape; rw [e] at h1; cases h1; exact absurd hc h2) (fun z => ho b o z e hc) (fun es ep z => by obtain ⟨_, it, n, hd⟩ := hc; rw [hd] at z; cases z)
theorem Step.tupsN {C : Cx} {σ σ' : View} {s : Shared} {h' : Heap} (R : RelG C σ s) (x : Step no σ σ' s.heap h') : TupKeep s.heap h' := x.tups R fun _ _ z => z.elim

/-- nothing of the view is touched, objects may be new -/
theorem RelG.grow {C : Cx} {σ : View} {s : Shared} {h' : Heap} {tk : Nat} (R : RelG C σ s) (k : ∀ b o, s.heap.get? b = some o → h'.get? b = some o) : RelG C σ { s with heap := h', toks := tk } where
  rest := let ⟨_, _, d, e⟩ := R.rest; ⟨h', tk, d, by rw [e]⟩
  base := fun b o e => k b o (R.base b o e)
  view := fun a o e => (R.view a o e).keep (fun b o e _ => k b o e) fun o e => k a o e
  apart := R.apart
theorem Step.grow {own : Addr → Prop} {σ : View} {h h' : Heap} (k : ∀ b o, h.get? b = some o → h'.get? b = some o) (z : h.objs.size ≤ h'.objs.size) : Step own σ σ h h' :=
  .of (fun b o e _ _ => k b o e) z fun _ h h' => absurd h h'
theorem Step.push {own : Addr → Prop} {σ : View} {h : Heap} {o : Obj} : Step own σ σ h (h.push o) := .grow (fun _ _ e => Heap.get?_push_of_some _ e) (by rw [Heap.size_push]; exact Nat.le_succ _)
theorem RelG.draw {C : Cx} {σ : View} {s : Shared} (R : RelG C σ s) (d : Drawn) : RelG C σ { s with drawn := d } where
  rest := let ⟨h, tk, _, e⟩ := R.rest; ⟨h, tk, d, by rw [e]⟩
  base := R.base
  view := R.view
  apart := R.apart
theorem RelG.tok {C : Cx} {σ : View} {s : Shared} (R : RelG C σ s) (tk : Nat) : RelG C σ { s with toks := tk } := R.grow fun _ _ e => e

theorem RelG.freshNone {C : Cx} {σ : View} {s : Shared} (R : RelG C σ s) {a : Addr} (h : s.heap.get? a = none) : σ a = none := by
  cases e : σ a with
  | none => rfl
  | some o => exact absurd h (R.dom a (by rw [e]; simp))
theorem size_none (h : Heap) : h.get? h.objs.size = none := by
  cases e : h.get? h.objs.size with
  | none => rfl
  | some o => exact absurd (Heap.lt_size e) (Nat.lt_irrefl _)
theorem RelG.baseNone {C : Cx} {σ : View} {s : Shared} (R : RelG C σ s) {a : Addr} (h : s.heap.get? a = none) : C.hB.get? a = none := by
  cases e : C.hB.get? a with
  | none => rfl
  | some o => rw [R.base a o e] at h; cases h
/-- a new object enters the view -/
theorem RelG.add {C : Cx} {σ : View} {s : Shared} {h' : Heap} {tk : Nat} {a : Addr} {o : AObj} (R : RelG C σ s) (k : ∀ b o, s.heap.get? b = some o → h'.get? b = some o) (hn : s.heap.get? a = none) (ho : ObjRel C h' a o) :
    RelG C (upd σ a o) { s with heap := h', toks := tk } where
  rest := (R.grow (tk := tk) k).rest
  base := (R.grow (tk := tk) k).base
  view := fun b o' e => by
    by_cases hb : b = a
    · subst hb; rw [upd_same] at e; cases e; exact ho
    · rw [upd_ne hb] at e; exact (R.grow (tk := tk) k).view b o' e
  apart := fun b hb => by
    by_cases q : b = a
    · subst q; exact R.baseNone hn
    · rw [upd_ne q] at hb; exact R.apart b hb
theorem Step.add {own : Addr → Prop} {σ : View} {h h' : Heap} {a : Addr} {o : AObj} (k : ∀ b o, h.get? b = some o → h'.get? b = some o) (z : h.objs.size ≤ h'.objs.size) (hn : h.objs.size ≤ a) : Step own σ (upd σ a o) h h' :=
  .of (fun b o e _ _ => k b o e) z fun b n m => by
    by_cases q : b = a
    · subst q; exact hn
    · rw [upd_ne q] at m; exact absurd n m
theorem Step.addPush {own : Addr → Prop} {σ : View} {h : Heap} {ob : Obj} {o : AObj} : Step own σ (upd σ h.objs.size o) h (h.push ob) := .add (fun _ _ e => Heap.get?_push_of_some _ e) (by rw [Heap.size_push]; exact Nat.le_succ _) (Nat.le_refl _)
/-- an object of the view changes -/
theorem RelG.change {C : Cx} {σ : View} {s : Shared} {h' : Heap} {tk : Nat} {a : Addr} {o o' : AObj} (R : RelG C σ s) (ha : σ a = some o) (k : Heap.SameBut a s.heap h') (ho : ObjRel C h' a o') : RelG C (upd σ a o') { s with heap := h', toks := tk } where
  rest := let ⟨_, _, d, e⟩ := R.rest; ⟨h', tk, d, by rw [e]⟩
  base := fun b o e => (k.2 b (by rintro rfl; rw [R.apart b (by rw [ha]; simp)] at e; cases e)).trans (R.base b o e)
  view := fun b o₂ e => by
    by_cases hb : b = a
    · subst hb; rw [upd_same] at e; cases e; exact ho
    · rw [upd_ne hb] at e
      refine (R.view b o₂ e).keep (fun c oc ec hc => ?_) fun oc ec => (k.2 b hb).trans ec
      exact (k.2 c (by rintro rfl; obtain ⟨ob, h1, h2, _⟩ := (R.view c o ha).shape; rw [ec] at h1; cases h1; exact h2 hc)).trans ec
  apart := fun b hb => by
    by_cases q : b = a
    · subst q; exact R.apart b (by rw [ha]; simp)
    · rw [upd_ne q] at hb; exact R.apart b hb
theorem Step.change {own : Addr → Prop} {σ : View} {h h' : Heap} {a : Addr} {o o' : AObj} (ha : σ a = some o) (k : Heap.SameBut a h h') : Step own σ (upd σ a o') h h' :=
  .of (fun b o₂ e n _ => (k.2 b (by rintro rfl; rw [ha] at n; cases n)).trans e) (Nat.le_of_eq k.1.symm)
   fun b n m => by
    by_cases q : b = a
    · subst q; rw [ha] at n; cases n
    · rw [upd_ne q] at m; exact absurd n m
theorem get_none_of_size {h : Heap} {a : Addr} (q : h.objs.size ≤ a) : h.get? a = none := by
  cases e : h.get? a with
  | none => rfl
  | some o => exact absurd (Heap.lt_size e) (Nat.not_lt.mpr q)

/- the heap never shrinks -/
theorem runs_size {M : Model} {Γ : Ctx} {p : Pos} {t : Sem Fin} {fs : List Frame} {s s' : Shared} {e : End} (h : Runs M Γ p t fs s e s') : s.heap.objs.size ≤ s'.heap.objs.size := by
  induction h <;> (try simp only [Shared.setGen, Heap.size_push, Heap.size_after_update] at *) <;> omega
theorem wakes_size {M : Model} {Γ : Ctx} {p : Pos} {g : Nat} {r : Resume} {s s' : Shared} {res : GenResult} (h : Wakes M Γ p g r s res s') : s.heap.objs.size ≤ s'.heap.objs.size := by
  unfold Wakes at h
  split at h
  · exact h.elim
  · split at h
    · obtain ⟨e₁, s₁, hr, _, _, rfl⟩ := h; exact (runs_size hr : (s.setGen g .running).heap.objs.size ≤ s₁.heap.objs.size)
    · rw [h.2]; exact Nat.le_refl _
    · rw [h.2]; exact Nat.le_refl _
  · obtain ⟨e₁, s₁, hr, _, _, rfl⟩ := h; exact (runs_size hr : (s.setGen g .running).heap.objs.size ≤ s₁.heap.objs.size)
  · rw [h.2]; exact Nat.le_refl _
  · rw [h.2]; exact Nat.le_refl _
theorem wp_size {α : Type} (M : Model) (Γ : Ctx) (n : Nat) (t : Sem α) : ∀ (Q : α → Pos → Shared → Prop) (E : Value → Pos → Shared → Prop) (p : Pos) (s : Shared), n ≤ s.heap.objs.size → Sem.wp M Γ t Q E p s →
    Sem.wp M Γ t (fun a p' s' => n ≤ s'.heap.objs.size ∧ Q a p' s') (fun e p' s' => n ≤ s'.heap.objs.size ∧ E e p' s') p s := by
  induction t with
  | pure a | raise a => intro Q E p s hn h; exact ⟨hn, h⟩
  | unsupported | finish | register | yield | fork | await => intro Q E p s _ h; exact h
  | rule _ k ih | «at» _ k ih | point _ k ih | ask k ih | handled _ k ih | stack k ih | thread k ih | loadIfAlive _ k ih | fresh k ih | os _ _ k ih | newGen _ k ih => intro Q E p s hn h; exact ih _ Q E _ _ hn h
  | load a _ k ih => intro Q E p s hn h; obtain ⟨o, ho, h⟩ := h; exact ⟨o, ho, ih o Q E p s hn h⟩
  | update a _ f k ih => intro Q E p s hn h; exact ⟨h.1, ih () Q E p _ (by simpa using hn) h.2⟩
  | alloc o k ih => intro Q E p s hn h; exact ih _ Q E p _ (by simp; omega) h
  | choose src m k ih => intro Q E p s hn h; exact ⟨h.1, ih _ Q E p _ hn h.2⟩
  | call c hd _ _ k ih => intro Q E p s hn h; obtain ⟨r, s', hr, h⟩ := h; exact ⟨r, s', hr, ih r Q E p s' (Nat.le_trans hn (runs_size hr)) h⟩
  | genState g k ih => intro Q E p s hn h; obtain ⟨st, hs, h⟩ := h; exact ⟨st, hs, ih _ Q E p s hn h⟩
  | resume g r _ k ih => intro Q E p s hn h; obtain ⟨res, s', hw, h⟩ := h; exact ⟨res, s', hw, ih res Q E p s' (Nat.le_trans hn (wakes_size hw)) h⟩
/-- behind a tree the heap has at least the size it had -/
theorem with_size {α : Type} {M : Model} {A : Around} {s : Shared} {t : Sem α} {Q : α → Shared → Prop} {E : Value → Shared → Prop}
    (h : wpAny M A t (fun a s' => s.heap.objs.size ≤ s'.heap.objs.size → Q a s') E s) : wpAny M A t Q E s :=
  fun Γ p hΓ => Sem.wp_mono M Γ t (fun _ _ _ x => x.2 x.1) (fun _ _ _ x => x.2) p s (wp_size M Γ _ t _ _ p s (Nat.le_refl _) (h Γ p hΓ))

/-- forget an object -/
noncomputable def del (σ : View) (a : Addr) : View := fun b => if b = a then none else σ b
end Mine


end
noncomputable section
set_option autoImplicit false
namespace Mine
open PySem

noncomputable def Own (env : Env) (b : Addr) : Prop := b = env.locals ∨ ∃ n, env.cells.lookup n = some b

structure FrameRel (C : Cx) (env : Env) (m : Loc) (σ : View) (h : Heap) : Prop where
  ns : ∃ mm, h.Ns env.locals mm ∧ ∀ x v, m x = some v → env.kindOf (Str.ofString x) = some .local → ∃ w, mm (Str.ofString x) = some w ∧ VRel C.aS h v w
  cel : ∀ x v, m x = some v → env.kindOf (Str.ofString x) = some .local ∨
    ((env.kindOf (Str.ofString x) = some .cell ∨ env.kindOf (Str.ofString x) = some .free) ∧ ∃ c w, env.cells.lookup (Str.ofString x) = some c ∧ h.IsCell c (some w) ∧ VRel C.aS h v w)
  cells : ∀ n c, env.cells.lookup n = some c → ∃ v, h.IsCell c v
  sepL : σ env.locals = none
  baseL : C.hB.get? env.locals = none
  baseC : ∀ n c, env.cells.lookup n = some c → C.hB.get? c = none
  dist : env.cells.Pairwise fun x y => x.2 ≠ y.2
  has : ∀ n, env.kindOf n = some .cell ∨ env.kindOf n = some .free → ∃ c, env.cells.lookup n = some c

theorem FrameRel.step {C : Cx} {env : Env} {m : Loc} {σ σ' : View} {s : Shared} {h' : Heap} (F : FrameRel C env m σ s.heap) (R : RelG C σ s) (S : Step no σ σ' s.heap h') : FrameRel C env m σ' h' := by
  have kt := S.tupsN R
  have kc : ∀ c v, s.heap.IsCell c v → h'.IsCell c v := fun c v ⟨o, ho, hd⟩ => ⟨o, S.keep c o ho (by
    cases z : σ c with
    | none => rfl
    | some o' => obtain ⟨ob, h1, _, h3⟩ := (R.view c o' z).shape; rw [ho] at h1; cases h1; exact absurd hd (h3 v)) (fun z => z) (fun es ep z => by rw [hd] at z; cases z), hd⟩
  obtain ⟨mm, hn, hv⟩ := F.ns
  have hl : ∃ o, s.heap.get? env.locals = some o := let ⟨o, _, _, ho, _⟩ := hn; ⟨o, ho⟩
  refine ⟨⟨mm, Like.ns hn fun o e => S.keepL _ o e F.sepL (fun z => z), fun x v e k => ?_⟩, fun x v e => ?_, fun n c e => ?_, ?_, F.baseL, F.baseC, F.dist, F.has⟩
  · obtain ⟨w, h1, h2⟩ := hv x v e k; exact ⟨w, h1, h2.keep kt⟩
  · rcases F.cel x v e with q | ⟨q, c, w, h1, h2, h3⟩
    · exact .inl q
    · exact .inr ⟨q, c, w, h1, kc _ _ h2, h3.keep kt⟩
  · obtain ⟨v, hv⟩ := F.cells n c e; exact ⟨v, kc _ _ hv⟩
  · cases z : σ' env.locals with
    | none => rfl
    | some o => obtain ⟨ol, hol⟩ := hl; have := S.new env.locals F.sepL (by rw [z]; simp); exact absurd (Heap.lt_size hol) (Nat.not_lt.mpr this)

structure AOk (C : Cx) (A : Around) (k : Nat) : Prop where
  handled : A.handled = C.held.map Value.ref
  depth : A.depth + 3 * k + 3 < recursionLimit
  units : A.units + 10 * k + 20 < cLine
theorem AOk.le {C : Cx} {A : Around} {k j : Nat} (x : AOk C A k) (h : j ≤ k) : AOk C A j := ⟨x.handled, by have := x.depth; omega, by have := x.units; omega⟩
theorem AOk.none {C : Cx} {A : Around} {k : Nat} (x : AOk C A k) (hp : C.held = none) : A.handled = none := by rw [x.handled, hp]; rfl
structure EnvOk (env : Env) (sc : Scope) : Prop where
  scope : env.scope = sc
  kind : sc.kind = .function
  globals : env.globals = mainGlobals
  builtins : env.builtins = builtinsNs
theorem EnvOk.k {env : Env} {sc : Scope} (e : EnvOk env sc) : env.scope.kind = .function := by rw [e.scope]; exact e.kind
theorem EnvOk.of {env : Env} {sc : Scope} (e : EnvOk env sc) {x : Str} {n : Option NameKind} (h : sc.names.lookup x = n) : env.kindOf x = n := by unfold Env.kindOf; rw [e.scope]; exact h

abbrev ET := Loc → View → (V → View → Prop) → Prop
abbrev BT := Loc → View → (Bool → View → Prop) → Prop
abbrev LT := Loc → View → (List V → View → Prop) → Prop

structure HE (C : Cx) (sc : Scope) (k : Nat) (e : Expr) (T : ET) : Prop where
  run : ∀ (env : Env) (A : Around) (s : Shared) (m : Loc) (σ : View) (Q : V → View → Prop) (P : Value → Shared → Prop) (E : Value → Shared → Prop),
    EnvOk env sc → AOk C A k → RelG C σ s → FrameRel C env m σ s.heap → T m σ Q →
    (∀ v w σ' s', VRel C.aS s'.heap v w → RelG C σ' s' → Step no σ σ' s.heap s'.heap → Q v σ' → P w s') →
    wpAny (model C.prog C.w) A (eval e env) P E s
/-- a test -/
structure HB (C : Cx) (sc : Scope) (k : Nat) (e : Expr) (T : BT) : Prop where
  run : ∀ (env : Env) (A : Around) (s : Shared) (m : Loc) (σ : View) (Q : Bool → View → Prop) (P : Bool → Shared → Prop) (E : Value → Shared → Prop),
    EnvOk env sc → AOk C A k → RelG C σ s → FrameRel C env m σ s.heap → T m σ Q →
    (∀ b σ' s', RelG C σ' s' → Step no σ σ' s.heap s'.heap → Q b σ' → P b s') →
    wpAny (model C.prog C.w) A (isTrue e env (eval e env)) P E s
/-- arguments, displays -/
structure HL (C : Cx) (sc : Scope) (k : Nat) (es : List Expr) (T : LT) : Prop where
  run : ∀ (env : Env) (A : Around) (s : Shared) (m : Loc) (σ : View) (pos : Pos) (Q : List V → View → Prop) (P : List Value → Shared → Prop) (E : Value → Shared → Prop),
    EnvOk env sc → AOk C A k → RelG C σ s → FrameRel C env m σ s.heap → T m σ Q →
    (∀ vs ws σ' s', VRels C.aS s'.heap vs ws → RelG C σ' s' → Step no σ σ' s.heap s'.heap → Q vs σ' → P ws s') →
    wpAny (model C.prog C.w) A (spliced (backTo pos (starEach es env))) P E s

section
variable {C : Cx} {sc : Scope} {k : Nat}

noncomputable def eName (x : String) : ET := fun m σ Q => ∃ v, m x = some v ∧ Q v σ
theorem HE.name {x : String} {pos : Pos} (h : sc.names.lookup (Str.ofString x) = some .local) (hd : (Str.ofString x == ("__debug__" : Str)) = false) : HE C sc k (.Name (Str.ofString x) pos) (eName x) := by
  refine ⟨?_⟩; intro env A s m σ Q P E en ao R F ⟨v, hv, q⟩ hP
  obtain ⟨mm, hn, hm⟩ := F.ns
  obtain ⟨w, hw, hr⟩ := hm x v hv (en.of h)
  exact wpAny_Name (wpAny_loadName_local en.k (en.of h) hn hw (hP v w σ s hr R Step.refl q)) hd
theorem HE.cell {x : String} {pos : Pos} (h : sc.names.lookup (Str.ofString x) = some .cell) (hd : (Str.ofString x == ("__debug__" : Str)) = false) : HE C sc k (.Name (Str.ofString x) pos) (eName x) := by
  refine ⟨?_⟩; intro env A s m σ Q P E en ao R F ⟨v, hv, q⟩ hP
  have kk := en.of h
  rcases F.cel x v hv with z | ⟨_, c, w, h1, h2, h3⟩
  · rw [kk] at z; cases z
  · exact wpAny_Name (wpAny_loadName_cell en.k kk h1 h2 (hP v w σ s h3 R Step.refl q)) hd
noncomputable def eVal (v : V) : ET := fun _ σ Q => Q v σ
theorem HE.glob (O : C.Ok) {x : String} {pos : Pos} {v : V} {w : Value} (h : sc.names.lookup (Str.ofString x) = some .globalImplicit) (hg : C.mg (Str.ofString x) = some w) (hv : ∀ h, VRel C.aS h v w) (hd : (Str.ofString x == ("__debug__" : Str)) = false) :
    HE C sc k (.Name (Str.ofString x) pos) (eVal v) := by
  refine ⟨?_⟩; intro env A s m σ Q P E en ao R F q hP
  exact Calls.Name_function_global en.k (en.of h) (Calls.loadGlobal_global (mg := C.mg) (by rw [en.globals]; exact O.g.keeps R.base) hg (hP v w σ s (hv _) R Step.refl q)) hd
theorem HE.int {i : Int} {n : Nat} {pos : Pos} : HE C sc k (.Constant (.int i) n pos) (eVal (.int i)) := by
  refine ⟨?_⟩; intro env A s m σ Q P E en ao R F q hP
  exact wpAny_Constant_int (hP _ _ σ _ (.int i _) (R.tok _) (Step.refl) q)
theorem HE.str {x : Str} {n : Nat} {pos : Pos} : HE C sc k (.Constant (.str x) n pos) (eVal (.str x)) := by
  refine ⟨?_⟩; intro env A s m σ Q P E en ao R F q hP
  exact Calls.Constant_str (hP _ _ σ _ (.str x _) (R.tok _) (Step.refl) q)
theorem HE.bool {b : Bool} {n : Nat} {pos : Pos} : HE C sc k (.Constant (.bool b) n pos) (eVal (.bool b)) := by
  refine ⟨?_⟩; intro env A s m σ Q P E en ao R F q hP
  exact wpAny_Constant_bool (hP _ _ σ _ (.bool b) R (Step.refl) q)
theorem HE.none {n : Nat} {pos : Pos} : HE C sc k (.Constant .none n pos) (eVal .none) := by
  refine ⟨?_⟩; intro env A s m σ Q P E en ao R F q hP
  exact wpAny_Constant_none (hP _ _ σ _ .none R (Step.refl) q)

theorem HE.gty (O : C.Ok) {x n : String} {pos : Pos} (h : sc.names.lookup (Str.ofString x) = some .globalImplicit) (hg : C.mg (Str.ofString x) = Option.none) (hb : C.mb (Str.ofString x) = some (.type n)) (hd : (Str.ofString x == ("__debug__" : Str)) = false) :
    HE C sc k (.Name (Str.ofString x) pos) (eVal (.ty n)) := by
  refine ⟨?_⟩; intro env A s m σ Q P E en ao R F q hP
  exact Calls.Name_function_global en.k (en.of h) (Calls.loadGlobal_builtin (mg := C.mg) (mb := C.mb) (by rw [en.globals]; exact O.g.keeps R.base) hg (by rw [en.builtins]; exact O.b.keeps R.base) hb (hP _ _ σ s (.ty n) R Step.refl q)) hd

noncomputable def lNil : LT := fun _ σ Q => Q [] σ
noncomputable def lCons (T : ET) (L : LT) : LT := fun m σ Q => T m σ fun v σ₁ => L m σ₁ fun vs σ₂ => Q (v :: vs) σ₂
theorem HL.nil : HL C sc k [] lNil := by
  refine ⟨?_⟩; intro env A s m σ pos Q P E en ao R F q hP
  exact Calls.spliced_nil (hP [] [] σ s .nil R Step.refl q)
noncomputable def notStar : Expr → Bool
  | .Starred .. => false
  | _ => true
theorem starEach_plain {e : Expr} {rest : List Expr} {env : Env} (h : notStar e = true) : starEach (e :: rest) env = (false, eval e env) :: starEach rest env := by
  cases e <;> first | rfl | cases h
theorem HL.cons {e : Expr} {es : List Expr} {T : ET} {L : LT} (he : HE C sc k e T) (hl : HL C sc k es L) (hs : notStar e = true) : HL C sc k (e :: es) (lCons T L) := by
  refine ⟨?_⟩; intro env A s m σ pos Q P E en ao R F q hP
  rw [starEach_plain hs]
  show wpAny _ A (spliced ((false, eval e env) :: backTo pos (starEach es env))) P E s
  refine Calls.spliced_cons (he.run env A s m σ _ _ E en ao R F q fun v w σ₁ s₁ hv R₁ S₁ q₁ => ?_)
  exact hl.run env A s₁ m σ₁ pos _ _ E en ao R₁ (F.step R S₁) q₁ fun vs ws σ₂ s₂ hvs R₂ S₂ q₂ => hP _ _ σ₂ s₂ (.cons (hv.keep (S₂.tupsN R₁)) hvs) R₂ (S₁.trans S₂) q₂

noncomputable def eTup (L : LT) : ET := fun m σ Q => L m σ fun vs σ₁ => vs.length ≤ 1000 ∧ Q (.tup vs) σ₁
theorem push_old {h : Heap} {o : Obj} : ∀ b o', h.get? b = some o' → (h.push o).get? b = some o' := fun _ _ e => Heap.get?_push_of_some _ e
theorem HE.tup {es : List Expr} {L : LT} {n : Nat} {pos : Pos} (hl : HL C sc k es L) : HE C sc k (.Tuple es n pos) (eTup L) := by
  refine ⟨?_⟩; intro env A s m σ Q P E en ao R F q hP
  show wpAny _ A (do standAt pos; newTuple (← spliced (backTo pos (starEach es env)))) P E s
  refine wpAny_bind (wpAny_standAt (wpAny_bind (hl.run env A s m σ pos _ _ E en ao R F q fun vs ws σ₁ s₁ hv R₁ S₁ q₁ => ?_)))
  have hlen := hv.length
  refine wpAny_newTuple (hP _ _ σ₁ _ (.tup (ws := ws) ⟨_, Heap.get?_push_size _ rfl, rfl, _, rfl⟩ (hv.keep fun _ _ e _ => push_old _ _ e)) (R₁.grow push_old) (S₁.trans .push) q₁.2) (by rw [← hlen, sizeLine_eq]; have := q₁.1; omega)
noncomputable def newL (xs : List V) (σ : View) (Q : V → View → Prop) : Prop := ∀ a, σ a = none → Q (.ref a) (upd σ a (.list xs))
noncomputable def eList (L : LT) : ET := fun m σ Q => L m σ fun vs σ₁ => vs.length ≤ 1000 ∧ newL vs σ₁ Q
theorem HE.list {es : List Expr} {L : LT} {pos : Pos} (hl : HL C sc k es L) : HE C sc k (.List es pos) (eList L) := by
  refine ⟨?_⟩; intro env A s m σ Q P E en ao R F q hP
  show wpAny _ A (do standAt pos; newList (← spliced (backTo pos (starEach es env)))) P E s
  refine wpAny_bind (wpAny_standAt (wpAny_bind (hl.run env A s m σ pos _ _ E en ao R F q fun vs ws σ₁ s₁ hv R₁ S₁ q₁ => ?_)))
  have hlen := hv.length
  have hn := size_none s₁.heap
  refine wpAny_newList (hP _ _ (upd σ₁ s₁.heap.objs.size (.list vs)) _ (.ref _) (R₁.add (tk := s₁.toks) push_old hn ⟨by have := q₁.1; omega, ws, ⟨_, Heap.get?_push_size _ rfl⟩, hv.keep fun _ _ e _ => push_old _ _ e⟩) (S₁.trans .addPush) (q₁.2 _ (R₁.freshNone hn))) (by rw [← hlen, sizeLine_eq]; have := q₁.1; omega)
end
end Mine


end
noncomputable section
set_option autoImplicit false
namespace Mine
open PySem

abbrev O2 := V → V → View → (V → View → Prop) → Prop
abbrev O1 := V → View → (V → View → Prop) → Prop
/-- what holds behind an operation -/
abbrev Aft (C : Cx) (σ : View) (s : Shared) (Q : V → View → Prop) (P : Value → Shared → Prop) : Prop :=
  ∀ v w σ' s', VRel C.aS s'.heap v w → RelG C σ' s' → Step no σ σ' s.heap s'.heap → Q v σ' → P w s'
noncomputable def Op2 (C : Cx) (k : Nat) (t : Value → Value → Sem Value) (op : O2) : Prop :=
  ∀ (A : Around) (s : Shared) (σ : View) (a b : V) (wa wb : Value) (Q : V → View → Prop) (P E : Value → Shared → Prop), AOk C A k → RelG C σ s → VRel C.aS s.heap a wa → VRel C.aS s.heap b wb → op a b σ Q → Aft C σ s Q P →
    wpAny (model C.prog C.w) A (t wa wb) P E s
noncomputable def Op1 (C : Cx) (k : Nat) (t : Value → Sem Value) (op : O1) : Prop :=
  ∀ (A : Around) (s : Shared) (σ : View) (a : V) (wa : Value) (Q : V → View → Prop) (P E : Value → Shared → Prop), AOk C A k → RelG C σ s → VRel C.aS s.heap a wa → op a σ Q → Aft C σ s Q P →
    wpAny (model C.prog C.w) A (t wa) P E s
noncomputable def eBin (op : O2) (T U : ET) : ET := fun m σ Q => T m σ fun a σ₁ => U m σ₁ fun b σ₂ => op a b σ₂ Q
noncomputable def eUn (op : O1) (T : ET) : ET := fun m σ Q => T m σ fun a σ₁ => op a σ₁ Q
section
variable {C : Cx} {sc : Scope} {k : Nat}
theorem two {op : O2} {t : Value → Value → Sem Value} {T U : ET} {e f : Expr} (hop : Op2 C k t op) (he : HE C sc k e T) (hf : HE C sc k f U) {env : Env} {A : Around} {s : Shared} {m : Loc} {σ : View} {Q : V → View → Prop} {P E : Value → Shared → Prop}
    (en : EnvOk env sc) (ao : AOk C A k) (R : RelG C σ s) (F : FrameRel C env m σ s.heap) (q : eBin op T U m σ Q) (hP : Aft C σ s Q P) :
    wpAny (model C.prog C.w) A (eval e env) (fun a s₁ => wpAny (model C.prog C.w) A (eval f env) (fun b s₂ => wpAny (model C.prog C.w) A (t a b) P E s₂) E s₁) E s :=
  he.run env A s m σ _ _ E en ao R F q fun a wa σ₁ s₁ va R₁ S₁ q₁ =>
    hf.run env A s₁ m σ₁ _ _ E en ao R₁ (F.step R S₁) q₁ fun b wb σ₂ s₂ vb R₂ S₂ q₂ =>
      hop A s₂ σ₂ a b wa wb Q P E ao R₂ (va.keep (S₂.tupsN R₁)) vb q₂ fun v w σ' s' hv R' S' q' => hP v w σ' s' hv R' ((S₁.trans S₂).trans S') q'
theorem HE.bin {op : O2} {o : Operator} {l r : Expr} {pos : Pos} {T U : ET} (hop : Op2 C k (binaryOp o) op) (hl : HE C sc k l T) (hr : HE C sc k r U) : HE C sc k (.BinOp l o r pos) (eBin op T U) := by
  refine ⟨?_⟩; intro env A s m σ Q P E en ao R F q hP
  exact wpAny_BinOp (two hop hl hr en ao R F q hP)
theorem HE.cmp {op : O2} {o : CmpOp} {l r : Expr} {pos : Pos} {T U : ET} (hop : Op2 C k (compareOp o) op) (hl : HE C sc k l T) (hr : HE C sc k r U) (hm : behindInMarks o r = false) : HE C sc k (.Compare l [o] [r] pos) (eBin op T U) := by
  refine ⟨?_⟩; intro env A s m σ Q P E en ao R F q hP
  exact wpAny_Compare1 (two hop hl hr en ao R F q hP) hm
theorem HE.un {op : O1} {o : UnaryOp} {e : Expr} {pos : Pos} {T : ET} (hop : Op1 C k (unaryOp o) op) (he : HE C sc k e T) : HE C sc k (.UnaryOp o e pos) (eUn op T) := by
  refine ⟨?_⟩; intro env A s m σ Q P E en ao R F q hP
  exact wpAny_UnaryOp (he.run env A s m σ _ _ E en ao R F q fun a wa σ₁ s₁ va R₁ S₁ q₁ =>
    hop A s₁ σ₁ a wa Q P E ao R₁ va q₁ fun v w σ' s' hv R' S' q' => hP v w σ' s' hv R' (S₁.trans S') q')

/- tests -/
noncomputable def tBool (T : ET) : BT := fun m σ Q => T m σ fun v σ' => ∃ b, v = .bool b ∧ Q b σ'
theorem HB.cmp {op : O2} {o : CmpOp} {l r : Expr} {pos : Pos} {T U : ET} (hop : Op2 C k (compareOp o) op) (hl : HE C sc k l T) (hr : HE C sc k r U) (hm : behindInMarks o r = false) : HB C sc k (.Compare l [o] [r] pos) (tBool (eBin op T U)) := by
  refine ⟨?_⟩; intro env A s m σ Q P E en ao R F q hP
  refine wpAny_isTrue_Compare1 (two (P := fun c s₃ => wpAny _ A (truthy c) P E s₃) hop hl hr en ao R F q fun v w σ' s' hv R' S' q' => ?_) hm
  obtain ⟨b, rfl, q'⟩ := q'
  cases hv
  exact wpAny_truthy_bool (hP b σ' s' R' S' q')
/-- a < b < c -/
noncomputable def tCmp2 (o1 o2 : O2) (T U W : ET) : BT := fun m σ Q => T m σ fun a σ₁ => U m σ₁ fun b σ₂ => o1 a b σ₂ fun v σ₃ => ∃ x, v = .bool x ∧ if x then W m σ₃ fun c σ₄ => o2 b c σ₄ fun u σ₅ => ∃ y, u = .bool y ∧ Q y σ₅ else Q false σ₃
theorem HB.cmp2 {p1 p2 : O2} {o1 o2 : CmpOp} {l r z : Expr} {pos : Pos} {T U W : ET} (h1 : Op2 C k (compareOp o1) p1) (h2 : Op2 C k (compareOp o2) p2) (hl : HE C sc k l T) (hr : HE C sc k r U) (hz : HE C sc k z W) (hm : behindInMarks o2 z = false) :
    HB C sc k (.Compare l [o1, o2] [r, z] pos) (tCmp2 p1 p2 T U W) := by
  refine ⟨?_⟩; intro env A s m σ Q P E en ao R F q hP
  show wpAny _ A (do testChain pos (← eval l env) [o1, o2] [eval r env, markedBehindIn o2 z (eval z env)]) P E s
  rw [markedBehindIn_of_false hm]
  refine wpAny_bind (hl.run env A s m σ _ _ E en ao R F q fun a wa σ₁ s₁ va R₁ S₁ q₁ => ?_)
  show wpAny _ A (do
    let rv ← holding [wa] (eval r env)
    standAt pos
    let c ← holding [wa, rv] (compareOp o1 wa rv)
    release [wa, rv] [c]
    if ← holding [c, rv] (truthy c) then testChain pos rv [o2] [eval z env] else pure false) P E s₁
  refine wpAny_bind (wpAny_holding (hr.run env A s₁ m σ₁ _ _ E en ao R₁ (F.step R S₁) q₁ fun b wb σ₂ s₂ vb R₂ S₂ q₂ => ?_))
  refine wpAny_bind (wpAny_standAt (wpAny_bind (wpAny_holding ?_)))
  refine h1 A s₂ σ₂ a b wa wb _ _ E ao R₂ (va.keep (S₂.tupsN R₁)) vb q₂ fun v w σ₃ s₃ hv R₃ S₃ q₃ => ?_
  obtain ⟨x, rfl, q₃⟩ := q₃
  cases hv
  refine wpAny_bind ?_
  intro Γ p hΓ
  rw [Sem.wp_release]
  refine wpAny_bind (wpAny_holding (wpAny_truthy_bool ?_))
  have S₁₃ := (S₁.trans S₂).trans S₃
  cases x with
  | false => exact wpAny_pure (hP false σ₃ s₃ R₃ S₁₃ (by simpa using q₃))
  | true =>
    simp only [if_true] at q₃ ⊢
    show wpAny _ A (do
      let rv ← holding [wb] (eval z env)
      standAt pos
      let c ← operate [wb, rv] (compareOp o2 wb rv)
      holding [c] (truthy c)) P E s₃
    refine wpAny_bind (wpAny_holding (hz.run env A s₃ m σ₃ _ _ E en ao R₃ (F.step R S₁₃) q₃ fun c wc σ₄ s₄ vc R₄ S₄ q₄ => ?_))
    refine wpAny_bind (wpAny_standAt (wpAny_bind (wpAny_operating ?_)))
    refine h2 A s₄ σ₄ b c wb wc _ _ E ao R₄ ((vb.keep (S₃.tupsN R₂)).keep (S₄.tupsN R₃)) vc q₄ fun v w σ₅ s₅ hv R₅ S₅ q₅ => ?_
    obtain ⟨y, rfl, q₅⟩ := q₅
    cases hv
    exact wpAny_holding (wpAny_truthy_bool (hP y σ₅ s₅ R₅ ((S₁₃.trans S₄).trans S₅) q₅))
theorem HB.val {e : Expr} {T : ET} (he : HE C sc k e T) (hi : ∀ env whole, isTrue e env whole = (do let v ← whole; standAt e.pos; holding [v] (truthy v))) : HB C sc k e (tBool T) := by
  refine ⟨?_⟩; intro env A s m σ Q P E en ao R F q hP
  refine wpAny_isTrue_value (he.run env A s m σ _ _ E en ao R F q fun v w σ' s' hv R' S' q' => ?_) (hi env _)
  obtain ⟨b, rfl, q'⟩ := q'
  cases hv
  exact wpAny_truthy_bool (hP b σ' s' R' S' q')
noncomputable def tNot (T : BT) : BT := fun m σ Q => T m σ fun b σ' => Q (!b) σ'
theorem HB.not {e : Expr} {pos : Pos} {T : BT} (he : HB C sc k e T) : HB C sc k (.UnaryOp .Not e pos) (tNot T) := by
  refine ⟨?_⟩; intro env A s m σ Q P E en ao R F q hP
  exact wpAny_isTrue_Not (he.run env A s m σ _ _ E en ao R F q fun b σ' s' R' S' q' => hP (!b) σ' s' R' S' q')
/-- a row of tests -/
structure HBs (C : Cx) (sc : Scope) (k : Nat) (op : BoolOp) (es : List Expr) (T : BT) : Prop where
  run : ∀ (env : Env) (A : Around) (s : Shared) (m : Loc) (σ : View) (Q : Bool → View → Prop) (P : Bool → Shared → Prop) (E : Value → Shared → Prop),
    EnvOk env sc → AOk C A k → RelG C σ s → FrameRel C env m σ s.heap → T m σ Q →
    (∀ b σ' s', RelG C σ' s' → Step no σ σ' s.heap s'.heap → Q b σ' → P b s') →
    wpAny (model C.prog C.w) A (allTrue op es env) P E s
noncomputable def tT : BT := fun _ σ Q => Q true σ
noncomputable def tF : BT := fun _ σ Q => Q false σ
noncomputable def tAnd (T U : BT) : BT := fun m σ Q => T m σ fun b σ' => if b then U m σ' Q else Q false σ'
noncomputable def tOr (T U : BT) : BT := fun m σ Q => T m σ fun b σ' => if b then Q true σ' else U m σ' Q
theorem HBs.andNil : HBs C sc k .And [] tT := ⟨fun _ _ s _ σ _ _ _ _ _ R _ q hP => wpAny_allTrue_And_nil (hP true σ s R Step.refl q)⟩
theorem HBs.orNil : HBs C sc k .Or [] tF := ⟨fun _ _ s _ σ _ _ _ _ _ R _ q hP => wpAny_allTrue_Or_nil (hP false σ s R Step.refl q)⟩
theorem HBs.and {e : Expr} {es : List Expr} {T U : BT} (he : HB C sc k e T) (hs : HBs C sc k .And es U) : HBs C sc k .And (e :: es) (tAnd T U) := by
  refine ⟨?_⟩; intro env A s m σ Q P E en ao R F q hP
  refine wpAny_allTrue_And_cons (he.run env A s m σ _ _ E en ao R F q fun b σ' s' R' S' q' => ?_)
  cases b with
  | false => simpa using hP false σ' s' R' S' (by simpa using q')
  | true => simp only [if_true] at q' ⊢; exact hs.run env A s' m σ' Q P E en ao R' (F.step R S') q' fun b σ₂ s₂ R₂ S₂ q₂ => hP b σ₂ s₂ R₂ (S'.trans S₂) q₂
theorem HBs.or {e : Expr} {es : List Expr} {T U : BT} (he : HB C sc k e T) (hs : HBs C sc k .Or es U) : HBs C sc k .Or (e :: es) (tOr T U) := by
  refine ⟨?_⟩; intro env A s m σ Q P E en ao R F q hP
  refine wpAny_allTrue_Or_cons (he.run env A s m σ _ _ E en ao R F q fun b σ' s' R' S' q' => ?_)
  cases b with
  | true => simpa using hP true σ' s' R' S' (by simpa using q')
  | false => simp only [Bool.false_eq_true, if_false] at q' ⊢; exact hs.run env A s' m σ' Q P E en ao R' (F.step R S') q' fun b σ₂ s₂ R₂ S₂ q₂ => hP b σ₂ s₂ R₂ (S'.trans S₂) q₂
theorem HB.boolOp {op : BoolOp} {es : List Expr} {pos : Pos} {T : BT} (h : HBs C sc k op es T) : HB C sc k (.BoolOp op es pos) T := by
  refine ⟨?_⟩; intro env A s m σ Q P E en ao R F q hP
  exact wpAny_isTrue_BoolOp (h.run env A s m σ Q P E en ao R F q hP)

/- values of and, or (of bools) -/
structure HVs (C : Cx) (sc : Scope) (k : Nat) (op : BoolOp) (es : List Expr) (T : ET) : Prop where
  run : ∀ (env : Env) (A : Around) (s : Shared) (m : Loc) (σ : View) (pos : Pos) (Q : V → View → Prop) (P : Value → Shared → Prop) (E : Value → Shared → Prop),
    EnvOk env sc → AOk C A k → RelG C σ s → FrameRel C env m σ s.heap → T m σ Q → Aft C σ s Q P → wpAny (model C.prog C.w) A (boolOp pos op (evalEach es env)) P E s
theorem HVs.one {op : BoolOp} {e : Expr} {T : ET} (he : HE C sc k e T) : HVs C sc k op [e] T := by
  refine ⟨?_⟩; intro env A s m σ pos Q P E en ao R F q hP
  exact he.run env A s m σ Q P E en ao R F q hP
noncomputable def eAnd (T U : ET) : ET := fun m σ Q => T m σ fun v σ' => ∃ b, v = .bool b ∧ if b then U m σ' Q else Q (.bool false) σ'
noncomputable def eOr (T U : ET) : ET := fun m σ Q => T m σ fun v σ' => ∃ b, v = .bool b ∧ if b then Q (.bool true) σ' else U m σ' Q
theorem HVs.and {e f : Expr} {es : List Expr} {T U : ET} (he : HE C sc k e T) (hs : HVs C sc k .And (f :: es) U) : HVs C sc k .And (e :: f :: es) (eAnd T U) := by
  refine ⟨?_⟩; intro env A s m σ pos Q P E en ao R F q hP
  show wpAny _ A (do
    let v ← eval e env
    standAt pos
    let t ← holding [v] (truthy v)
    match BoolOp.And, t with
    | .And, false | .Or, true => pure v
    | _, _ => boolOp pos .And (evalEach (f :: es) env)) P E s
  refine wpAny_bind (he.run env A s m σ _ _ E en ao R F q fun v w σ' s' hv R' S' q' => wpAny_bind (wpAny_standAt (wpAny_bind (wpAny_holding ?_))))
  obtain ⟨b, rfl, q'⟩ := q'
  cases hv
  refine wpAny_truthy_bool ?_
  cases b with
  | false => exact wpAny_pure (hP _ _ σ' s' (.bool false) R' S' (by simpa using q'))
  | true => simp only [if_true] at q'; exact hs.run env A s' m σ' pos Q P E en ao R' (F.step R S') q' fun v w σ₂ s₂ hv R₂ S₂ q₂ => hP v w σ₂ s₂ hv R₂ (S'.trans S₂) q₂
theorem HE.boolOp {op : BoolOp} {es : List Expr} {pos : Pos} {T : ET} (h : HVs C sc k op es T) : HE C sc k (.BoolOp op es pos) T := by
  refine ⟨?_⟩; intro env A s m σ Q P E en ao R F q hP
  exact h.run env A s m σ pos Q P E en ao R F q hP

/- subscripts -/
theorem HE.sub {op : O2} {value slice : Expr} {pos : Pos} {T U : ET} (hv : HE C sc k value T) (hi : HE C sc k slice U)
    (hop : Op2 C k (fun o i => getitemInPython o >>= fun b => subscripted slice b o i) op) : HE C sc k (.Subscript value slice pos) (eBin op T U) := by
  refine ⟨?_⟩; intro env A s m σ Q P E en ao R F q hP
  show wpAny _ A (do
    let o ← eval value env
    let i ← holding [o] (eval slice env)
    standAt pos
    let r ← subscripted slice (← getitemInPython o) o i
    letTemporaryGo value o r
    pure r) P E s
  refine wpAny_bind (wpAny_mono (two (P := P) (E := E) hop hv hi en ao R F q hP) (fun o s₁ h₁ => wpAny_bind (wpAny_holding (wpAny_mono h₁ (fun i s₂ h₂ => wpAny_bind (wpAny_standAt ?_)) fun _ _ x => x))) fun _ _ x => x)
  have h₃ : wpAny (model C.prog C.w) A ((getitemInPython o >>= fun b => subscripted slice b o i) >>= fun r => letTemporaryGo value o r >>= fun _ => pure r) P E s₂ :=
    wpAny_bind (wpAny_mono h₂ (fun r s₃ hr => wpAny_bind (wpAny_letTemporaryGo (wpAny_pure hr))) fun _ _ x => x)
  rwa [bind_assoc] at h₃
end
end Mine


end
noncomputable section
set_option autoImplicit false
namespace Mine
open PySem

/-- a short factor -/
noncomputable def Short (i : Int) : Prop := i.natAbs < 2 ^ 64
theorem beq_dec {α : Type} [DecidableEq α] (a b : α) : (a == b) = decide (a = b) := by
  by_cases h : a = b
  · subst h; simp
  · simp [h]
section
variable {C : Cx} {k : Nat}
noncomputable def opSub : O2
  | .int x, .int y, σ, Q => Q (.int (x - y)) σ
  | _, _, _, _ => False
theorem ok_sub : Op2 C k (binaryOp .Sub) opSub := by
  intro A s σ a b wa wb Q P E ao R va vb q hP
  cases a <;> first | exact q.elim | skip
  cases b <;> first | exact q.elim | skip
  cases va; cases vb
  exact _root_.PySem.P.sub_int (hP _ _ σ _ (.int _ _) (R.tok _) Step.refl q)
noncomputable def opMod : O2
  | .int x, .int y, σ, Q => 0 < y ∧ Q (.int (x % y)) σ
  | _, _, _, _ => False
theorem ok_mod : Op2 C k (binaryOp .Mod) opMod := by
  intro A s σ a b wa wb Q P E ao R va vb q hP
  cases a <;> first | exact q.elim | skip
  cases b <;> first | exact q.elim | skip
  cases va; cases vb
  rename_i x t y u
  obtain ⟨hy, q⟩ := q
  refine PyProof.Rows.mod_int' (by omega) ?_
  rw [Int.fmod_eq_emod_of_nonneg _ (by omega)]
  exact hP _ _ σ _ (.int _ _) (R.tok _) Step.refl q
noncomputable def opDiv : O2
  | .int x, .int y, σ, Q => (0 < y ∧ y < 1073741824) ∧ Q (.int (x / y)) σ
  | _, _, _, _ => False
theorem ok_div : Op2 C k (binaryOp .FloorDiv) opDiv := by
  intro A s σ a b wa wb Q P E ao R va vb q hP
  cases a <;> first | exact q.elim | skip
  cases b <;> first | exact q.elim | skip
  cases va; cases vb
  obtain ⟨hy, q⟩ := q
  refine PyProof.Rows.floordiv_int (by omega) ?_ (.inl (PyProof.noPylong_small (by omega)))
  rw [Int.fdiv_eq_ediv_of_nonneg _ (by omega)]
  exact hP _ _ σ _ (.int _ _) (R.tok _) Step.refl q
noncomputable def opMul : O2
  | .int x, .int y, σ, Q => (Short x ∨ Short y) ∧ Q (.int (x * y)) σ
  | _, _, _, _ => False
noncomputable def opPow : O2
  | .int x, .int y, σ, Q => (0 ≤ y ∧ (Builtin.Int.intBits x : Int) * y ≤ 2 ^ 27) ∧ Q (.int (x ^ y.toNat)) σ
  | _, _, _, _ => False
theorem ok_pow : Op2 C k (binaryOp .Pow) opPow := by
  intro A s σ a b wa wb Q P E ao R va vb q hP
  cases a <;> first | exact q.elim | skip
  cases b <;> first | exact q.elim | skip
  cases va; cases vb
  exact PyProof.Rows.pow_int q.1.1 q.1.2 (hP _ _ σ _ (.int _ _) (R.tok _) Step.refl q.2)
noncomputable def opLt : O2
  | .int x, .int y, σ, Q => Q (.bool (decide (x < y))) σ
  | _, _, _, _ => False
noncomputable def opLe : O2
  | .int x, .int y, σ, Q => Q (.bool (decide (x ≤ y))) σ
  | _, _, _, _ => False
noncomputable def opGt : O2
  | .int x, .int y, σ, Q => Q (.bool (decide (x > y))) σ
  | _, _, _, _ => False
noncomputable def opGe : O2
  | .int x, .int y, σ, Q => Q (.bool (decide (x ≥ y))) σ
  | _, _, _, _ => False
theorem ok_lt : Op2 C k (compareOp .Lt) opLt := by
  intro A s σ a b wa wb Q P E ao R va vb q hP
  cases a <;> first | exact q.elim | skip
  cases b <;> first | exact q.elim | skip
  cases va; cases vb
  exact _root_.PySem.P.lt_int (hP _ _ σ _ (.bool _) R Step.refl q)
theorem ok_le : Op2 C k (compareOp .LtE) opLe := by
  intro A s σ a b wa wb Q P E ao R va vb q hP
  cases a <;> first | exact q.elim | skip
  cases b <;> first | exact q.elim | skip
  cases va; cases vb
  exact _root_.PySem.P.le_int (hP _ _ σ _ (.bool _) R Step.refl q)
theorem ok_gt : Op2 C k (compareOp .Gt) opGt := by
  intro A s σ a b wa wb Q P E ao R va vb q hP
  cases a <;> first | exact q.elim | skip
  cases b <;> first | exact q.elim | skip
  cases va; cases vb
  exact _root_.PySem.P.gt_int (hP _ _ σ _ (.bool _) R Step.refl q)
noncomputable def opNeg : O1
  | .int x, σ, Q => Q (.int (-x)) σ
  | _, _, _ => False
theorem ok_neg : Op1 C k (unaryOp .USub) opNeg := by
  intro A s σ a wa Q P E ao R va q hP
  cases a <;> first | exact q.elim | skip
  cases va
  exact _root_.PySem.P.neg_int (hP _ _ σ _ (.int _ _) (R.tok _) Step.refl q)

/-- equality of plain values -/
noncomputable def veq0 : V → V → Option Bool
  | .none, .none => some true
  | .none, .str _ => some false
  | .str _, .none => some false
  | .bool a, .bool b => some (a == b)
  | .int a, .int b => some (decide (a = b))
  | .str a, .str b => some (decide (a = b))
  | _, _ => none
noncomputable def opEq0 : O2 := fun a b σ Q => ∃ r, veq0 a b = some r ∧ Q (.bool r) σ
noncomputable def opNe0 : O2 := fun a b σ Q => ∃ r, veq0 a b = some r ∧ Q (.bool (!r)) σ
theorem ok_eq0 : Op2 C k (compareOp .Eq) opEq0 := by
  intro A s σ a b wa wb Q P E ao R va vb ⟨r, hr, q⟩ hP
  unfold veq0 at hr
  split at hr <;> cases hr <;> cases va <;> cases vb
  · exact PySem.EqNone.eq_none_none (hP _ _ σ _ (.bool _) R Step.refl q)
  · exact PySem.EqNone.eq_none_str (hP _ _ σ _ (.bool _) R Step.refl q)
  · exact PySem.EqNone.eq_str_none (hP _ _ σ _ (.bool _) R Step.refl q)
  · exact PyProof.Rows.eq_bool (hP _ _ σ _ (.bool _) R Step.refl q)
  · exact _root_.PySem.P.eq_int (by rw [beq_dec]; exact hP _ _ σ _ (.bool _) R Step.refl q)
  · exact PyProof.Rows.eq_str (hP _ _ σ _ (.bool _) R Step.refl (by rw [beq_dec]; exact q))
theorem ok_ne0 : Op2 C k (compareOp .NotEq) opNe0 := by
  intro A s σ a b wa wb Q P E ao R va vb ⟨r, hr, q⟩ hP
  unfold veq0 at hr
  split at hr <;> cases hr <;> cases va <;> cases vb
  · exact PySem.EqNone.ne_none_none (hP _ _ σ _ (.bool _) R Step.refl q)
  · exact PySem.EqNone.ne_none_str (hP _ _ σ _ (.bool _) R Step.refl q)
  · exact PySem.EqNone.ne_str_none (hP _ _ σ _ (.bool _) R Step.refl q)
  · exact PyProof.Rows.ne_bool (hP _ _ σ _ (.bool _) R Step.refl q)
  · exact _root_.PySem.P.ne_int (hP _ _ σ _ (.bool _) R Step.refl (by rw [bne, beq_dec]; exact q))
  · exact PyProof.Rows.ne_str (hP _ _ σ _ (.bool _) R Step.refl (by rw [bne, beq_dec]; exact q))

/- texts -/
noncomputable def opInS : O2
  | .str y, .str x, σ, Q => Q (.bool (Txt.contains x y)) σ
  | _, _, _, _ => False
noncomputable def opNotInS : O2
  | .str y, .str x, σ, Q => Q (.bool (!Txt.contains x y)) σ
  | _, _, _, _ => False
theorem ok_notInS : Op2 C k (compareOp .NotIn) opNotInS := by
  intro A s σ a b wa wb Q P E ao R va vb q hP
  cases a <;> first | exact q.elim | skip
  cases b <;> first | exact q.elim | skip
  cases va; cases vb
  exact SB.notContains (hP _ _ σ _ (.bool _) R Step.refl q)
end
end Mine


end
noncomputable section
set_option autoImplicit false
namespace Mine
open PySem

theorem ofString_inj {a b : String} (h : Str.ofString a = Str.ofString b) : a = b := by
  rw [Str.ofString_eq_toList, Str.ofString_eq_toList] at h
  have h1 : (a.toList.map Char.toNat) = (b.toList.map Char.toNat) := by
    have := congrArg (fun x : Str => x.cps.toList) h
    simpa using this
  have h2 : a.toList = b.toList := by
    refine (List.map_inj_right ?_).mp h1
    intro x y e
    exact Char.toNat_inj.mp e
  exact String.toList_inj.mp h2

inductive Fl where
  | next | brk | cont
  | ret (v : V)
abbrev ST := Loc → View → (Fl → Loc → View → Prop) → Prop
inductive FlRel (aS : Addr) (h : Heap) : Fl → Flow → Prop
  | next : FlRel aS h .next .next
  | brk : FlRel aS h .brk .brk
  | cont : FlRel aS h .cont .cont
  | ret {v : V} {w : Value} : VRel aS h v w → FlRel aS h (.ret v) (.ret w)
abbrev AftS (C : Cx) (env : Env) (σ : View) (s : Shared) (Q : Fl → Loc → View → Prop) (P : Flow → Shared → Prop) : Prop :=
  ∀ f g m' σ' s', FlRel C.aS s'.heap f g → RelG C σ' s' → FrameRel C env m' σ' s'.heap → Step (Own env) σ σ' s.heap s'.heap → Q f m' σ' → P g s'
structure HS (C : Cx) (sc : Scope) (k : Nat) (b : List Stmt) (T : ST) : Prop where
  run : ∀ (env : Env) (A : Around) (s : Shared) (m : Loc) (σ : View) (Q : Fl → Loc → View → Prop) (P : Flow → Shared → Prop) (E : Value → Shared → Prop),
    EnvOk env sc → AOk C A k → RelG C σ s → FrameRel C env m σ s.heap → T m σ Q → AftS C env σ s Q P → wpAny (model C.prog C.w) A (execs b env) P E s
structure HS1 (C : Cx) (sc : Scope) (k : Nat) (b : Stmt) (T : ST) : Prop where
  run : ∀ (env : Env) (A : Around) (s : Shared) (m : Loc) (σ : View) (Q : Fl → Loc → View → Prop) (P : Flow → Shared → Prop) (E : Value → Shared → Prop),
    EnvOk env sc → AOk C A k → RelG C σ s → FrameRel C env m σ s.heap → T m σ Q → AftS C env σ s Q P → wpAny (model C.prog C.w) A (exec b env) P E s

section
variable {C : Cx} {sc : Scope} {k : Nat}
/-- own things are no tuples -/
theorem FrameRel.ownT {env : Env} {m : Loc} {σ : View} {h : Heap} (F : FrameRel C env m σ h) : ∀ b o, Own env b → h.get? b = some o → ¬ IsT o := by
  rintro b o (rfl | ⟨n, hn⟩) ho ⟨_, it, n', hd⟩
  · obtain ⟨mm, ⟨o', es, ep, ho', hd', _⟩, _⟩ := F.ns
    rw [ho] at ho'; cases ho'; rw [hd] at hd'; cases hd'
  · obtain ⟨v, o', ho', hd'⟩ := F.cells n b hn
    rw [ho] at ho'; cases ho'; rw [hd] at hd'; cases hd'
theorem Step.tupsO {env : Env} {m : Loc} {σ σ' : View} {s : Shared} {h' : Heap} (F : FrameRel C env m σ s.heap) (R : RelG C σ s) (S : Step (Own env) σ σ' s.heap h') : TupKeep s.heap h' := S.tups R F.ownT
theorem Step.own {env : Env} {σ σ' : View} {h h' : Heap} (S : Step no σ σ' h h') : Step (Own env) σ σ' h h' := S.mono fun _ _ _ z => z.elim

noncomputable def sNil : ST := fun m σ Q => Q .next m σ
noncomputable def sSeq (T U : ST) : ST := fun m σ Q => T m σ fun f m₁ σ₁ => match f with
  | .next => U m₁ σ₁ Q
  | f => Q f m₁ σ₁
theorem HS.nil : HS C sc k [] sNil := ⟨fun _ _ s m σ _ _ _ _ _ R F q hP => wpAny_execs_nil (hP .next .next m σ s .next R F Step.refl q)⟩
theorem HS.cons {st : Stmt} {b : List Stmt} {T U : ST} (h1 : HS1 C sc k st T) (h2 : HS C sc k b U) : HS C sc k (st :: b) (sSeq T U) := by
  refine ⟨?_⟩; intro env A s m σ Q P E en ao R F q hP
  refine wpAny_execs_cons (h1.run env A s m σ _ _ E en ao R F q fun f g m₁ σ₁ s₁ hf R₁ F₁ S₁ q₁ => ?_)
  cases hf with
  | next => exact h2.run env A s₁ m₁ σ₁ Q P E en ao R₁ F₁ q₁ fun f g m₂ σ₂ s₂ hf R₂ F₂ S₂ q₂ => hP f g m₂ σ₂ s₂ hf R₂ F₂ (S₁.trans S₂) q₂
  | brk => exact hP _ _ m₁ σ₁ s₁ .brk R₁ F₁ S₁ q₁
  | cont => exact hP _ _ m₁ σ₁ s₁ .cont R₁ F₁ S₁ q₁
  | ret hv => exact hP _ _ m₁ σ₁ s₁ (.ret hv) R₁ F₁ S₁ q₁

/-- storing into a name of the frame -/
theorem store_local {env : Env} {A : Around} {s : Shared} {m : Loc} {σ : View} {x : String} {v : V} {w : Value} {P : Unit → Shared → Prop} {E : Value → Shared → Prop} (en : EnvOk env sc) (R : RelG C σ s) (F : FrameRel C env m σ s.heap)
    (hl : sc.names.lookup (Str.ofString x) = some .local) (hv : VRel C.aS s.heap v w)
    (h : ∀ s', RelG C σ s' → FrameRel C env (put m x v) σ s'.heap → Step (fun b => b = env.locals) σ σ s.heap s'.heap → P () s') : wpAny (model C.prog C.w) A (storeName env (Str.ofString x) w) P E s := by
  obtain ⟨mm, hn, hm⟩ := F.ns
  have kl := en.of hl
  refine wpAny_storeName_local kl hn (fun h' hn' hs' => ?_) (by rw [en.k]; rfl)
  obtain ⟨oL, esL, epL, hoL, hdL, _⟩ := id hn
  have kt : TupKeep s.heap h' := fun b o e ht => (hs'.2 b (by rintro rfl; rw [hoL] at e; cases e; obtain ⟨_, _, _, hd⟩ := ht; rw [hdL] at hd; cases hd)).trans e
  have kc : ∀ c v, s.heap.IsCell c v → h'.IsCell c v := fun c v ⟨o, ho, hd⟩ => ⟨o, (hs'.2 c (by rintro rfl; rw [hoL] at ho; cases ho; rw [hdL] at hd; cases hd)).trans ho, hd⟩
  refine h _ ?_ ?_ ?_
  · refine ⟨let ⟨_, _, d, e⟩ := R.rest; ⟨h', s.toks + 1, d, by rw [e]⟩, fun b o e => ?_, fun a o e => ?_, R.apart⟩
    · exact (hs'.2 b (by rintro rfl; rw [F.baseL] at e; cases e)).trans (R.base b o e)
    · exact (R.view a o e).keep kt fun o' e' => (hs'.2 a (by rintro rfl; rw [F.sepL] at e; cases e)).trans e'
  · refine ⟨⟨_, hn', fun y u e ky => ?_⟩, fun y u e => ?_, fun n c e => ?_, F.sepL, F.baseL, F.baseC, F.dist, F.has⟩
    · by_cases hy : y = x
      · subst hy; rw [put_same] at e; cases e; exact ⟨w, by simp, hv.keep kt⟩
      · rw [put_ne hy] at e
        obtain ⟨w', h1, h2⟩ := hm y u e ky
        exact ⟨w', by simp [show ¬ Str.ofString y = Str.ofString x from fun z => hy (ofString_inj z), h1], h2.keep kt⟩
    · by_cases hy : y = x
      · subst hy; exact .inl kl
      · rw [put_ne hy] at e
        rcases F.cel y u e with z | ⟨z, c, w', h1, h2, h3⟩
        · exact .inl z
        · exact .inr ⟨z, c, w', h1, kc _ _ h2, h3.keep kt⟩
    · obtain ⟨v, hv⟩ := F.cells n c e; exact ⟨v, kc _ _ hv⟩
  · exact .of (fun b o e n q => (hs'.2 b q).trans e) (Nat.le_of_eq hs'.1.symm) fun _ a b => absurd a b
theorem store_cell {env : Env} {A : Around} {s : Shared} {m : Loc} {σ : View} {x : String} {v : V} {w : Value} {P : Unit → Shared → Prop} {E : Value → Shared → Prop} (en : EnvOk env sc) (R : RelG C σ s) (F : FrameRel C env m σ s.heap)
    (hl : sc.names.lookup (Str.ofString x) = some .cell) (hv : VRel C.aS s.heap v w)
    (h : ∀ s', RelG C σ s' → FrameRel C env (put m x v) σ s'.heap → Step (Own env) σ σ s.heap s'.heap → P () s') : wpAny (model C.prog C.w) A (storeName env (Str.ofString x) w) P E s := by
  have kl := en.of hl
  obtain ⟨c₀, hc₀⟩ := F.has _ (.inl kl)
  obtain ⟨v₀, hv₀⟩ := F.cells _ _ hc₀
  refine wpAny_storeName_cell en.k kl hc₀ hv₀ fun h' hc' hs' => ?_
  obtain ⟨oc, hoc, hdc⟩ := id hv₀
  have kt : TupKeep s.heap h' := fun b o e ht => (hs'.2 b (by rintro rfl; rw [hoc] at e; cases e; obtain ⟨_, _, _, hd⟩ := ht; rw [hdc] at hd; cases hd)).trans e
  have kc : ∀ c v, c ≠ c₀ → s.heap.IsCell c v → h'.IsCell c v := fun c v hne ⟨o, ho, hd⟩ => ⟨o, (hs'.2 c hne).trans ho, hd⟩
  obtain ⟨mm, hn, hm⟩ := F.ns
  have hL : env.locals ≠ c₀ := by
    rintro e
    obtain ⟨oL, _, _, hoL, hdL, _⟩ := hn
    rw [e, hoc] at hoL; cases hoL; rw [hdc] at hdL; cases hdL
  have hσ : σ c₀ = Option.none := by
    cases z : σ c₀ with
    | none => rfl
    | some o' => obtain ⟨ob, h1, _, h3⟩ := (R.view c₀ o' z).shape; rw [hoc] at h1; cases h1; exact absurd hdc (h3 _)
  refine h _ ?_ ?_ ?_
  · refine ⟨let ⟨_, _, d, e⟩ := R.rest; ⟨h', s.toks, d, by rw [e]⟩, fun b o e => ?_, fun a o e => ?_, R.apart⟩
    · exact (hs'.2 b (by rintro rfl; rw [F.baseC _ _ hc₀] at e; cases e)).trans (R.base b o e)
    · exact (R.view a o e).keep kt fun o' e' => (hs'.2 a (by rintro rfl; rw [hσ] at e; cases e)).trans e'
  · refine ⟨⟨mm, hn.sameBut hs' hL, fun y u e ky => ?_⟩, fun y u e => ?_, fun n c e => ?_, F.sepL, F.baseL, F.baseC, F.dist, F.has⟩
    · have hy : y ≠ x := by rintro rfl; rw [kl] at ky; cases ky
      rw [put_ne hy] at e
      obtain ⟨w', h1, h2⟩ := hm y u e ky
      exact ⟨w', h1, h2.keep kt⟩
    · by_cases hy : y = x
      · subst hy; rw [put_same] at e; cases e; exact .inr ⟨.inl kl, c₀, w, hc₀, hc', hv.keep kt⟩
      · rw [put_ne hy] at e
        rcases F.cel y u e with z | ⟨z, c, w', h1, h2, h3⟩
        · exact .inl z
        · exact .inr ⟨z, c, w', h1, kc _ _ (by rintro rfl; exact hy (ofString_inj (name_of_addr F.dist (mem_of_lookup h1) (mem_of_lookup hc₀)))) h2, h3.keep kt⟩
    · by_cases hc : c = c₀
      · subst hc; exact ⟨_, hc'⟩
      · obtain ⟨v, hv⟩ := F.cells n c e; exact ⟨v, kc _ _ hc hv⟩
  · exact .of (fun b o e n q => (hs'.2 b fun z => q (.inr ⟨_, z ▸ hc₀⟩)).trans e) (Nat.le_of_eq hs'.1.symm) fun _ a b => absurd a b
/-- a name of the frame that may be stored into -/
noncomputable def Var (sc : Scope) (x : String) : Prop := sc.names.lookup (Str.ofString x) = some .local ∨ sc.names.lookup (Str.ofString x) = some .cell
theorem store {env : Env} {A : Around} {s : Shared} {m : Loc} {σ : View} {x : String} {v : V} {w : Value} {P : Unit → Shared → Prop} {E : Value → Shared → Prop} (en : EnvOk env sc) (R : RelG C σ s) (F : FrameRel C env m σ s.heap)
    (hl : Var sc x) (hv : VRel C.aS s.heap v w)
    (h : ∀ s', RelG C σ s' → FrameRel C env (put m x v) σ s'.heap → Step (Own env) σ σ s.heap s'.heap → P () s') : wpAny (model C.prog C.w) A (storeName env (Str.ofString x) w) P E s :=
  hl.elim (fun z => store_local en R F z hv fun s' R' F' S' => h s' R' F' (S'.mono fun _ _ _ q => .inl q)) fun z => store_cell en R F z hv h

noncomputable def sSet (x : String) (T : ET) : ST := fun m σ Q => T m σ fun v σ' => Q .next (put m x v) σ'
theorem HS1.set {x : String} {p pos : Pos} {value : Expr} {T : ET} (hx : Var sc x) (he : HE C sc k value T) (hs : ∀ env, EnvOk env sc → swapsWith value (some (.Name (Str.ofString x) p)) pos.line env = pure false) : HS1 C sc k (.Assign [.Name (Str.ofString x) p] value pos) (sSet x T) := by
  refine ⟨?_⟩; intro env A s m σ Q P E en ao R F q hP
  refine wpAny_Assign_Name (he.run env A s m σ _ _ E en ao R F q fun v w σ₁ s₁ hv R₁ S₁ q₁ => ?_) (hs env en)
  exact store en R₁ (F.step R S₁) hx hv fun s₂ R₂ F₂ S₂ => hP .next .next _ σ₁ s₂ .next R₂ F₂ ((S₁.own).trans S₂) q₁
noncomputable def sExpr (T : ET) : ST := fun m σ Q => T m σ fun _ σ' => Q .next m σ'
theorem HS1.expr {pos : Pos} {value : Expr} {T : ET} (he : HE C sc k value T) (hs : ∀ env, EnvOk env sc → swapsWith value Option.none pos.line env = pure false) : HS1 C sc k (.Expr value pos) (sExpr T) := by
  refine ⟨?_⟩; intro env A s m σ Q P E en ao R F q hP
  have hi : interactive env = false := by unfold interactive; rw [en.k]; rfl
  rw [exec_Expr env value pos hi (hs env en)]
  refine wpAny_bind (wpAny_standAt (wpAny_bind (he.run env A s m σ _ _ E en ao R F q fun v w σ₁ s₁ hv R₁ S₁ q₁ => ?_)))
  exact wpAny_dropValue (hP .next .next m σ₁ s₁ .next R₁ (F.step R S₁) S₁.own q₁)
noncomputable def sIf (B : BT) (T U : ST) : ST := fun m σ Q => B m σ fun b σ' => if b then T m σ' Q else U m σ' Q
theorem HS1.ite {pos : Pos} {test : Expr} {a b : List Stmt} {B : BT} {T U : ST} (hb : HB C sc k test B) (h1 : HS C sc k a T) (h2 : HS C sc k b U) : HS1 C sc k (.If test a b pos) (sIf B T U) := by
  refine ⟨?_⟩; intro env A s m σ Q P E en ao R F q hP
  refine wpAny_If (hb.run env A s m σ _ _ E en ao R F q fun b σ₁ s₁ R₁ S₁ q₁ => ?_)
  cases b with
  | true => simp only [if_true] at q₁ ⊢; exact h1.run env A s₁ m σ₁ Q P E en ao R₁ (F.step R S₁) q₁ fun f g m₂ σ₂ s₂ hf R₂ F₂ S₂ q₂ => hP f g m₂ σ₂ s₂ hf R₂ F₂ (S₁.own.trans S₂) q₂
  | false => simp only [Bool.false_eq_true, if_false] at q₁ ⊢; exact h2.run env A s₁ m σ₁ Q P E en ao R₁ (F.step R S₁) q₁ fun f g m₂ σ₂ s₂ hf R₂ F₂ S₂ q₂ => hP f g m₂ σ₂ s₂ hf R₂ F₂ (S₁.own.trans S₂) q₂
noncomputable def sRet (T : ET) : ST := fun m σ Q => T m σ fun v σ' => Q (.ret v) m σ'
theorem HS1.ret {pos : Pos} {value : Expr} {T : ET} (he : HE C sc k value T) : HS1 C sc k (.Return (some value) pos) (sRet T) := by
  refine ⟨?_⟩; intro env A s m σ Q P E en ao R F q hP
  exact wpAny_Return_some (he.run env A s m σ _ _ E en ao R F q fun v w σ₁ s₁ hv R₁ S₁ q₁ => hP (.ret v) (.ret w) m σ₁ s₁ (.ret hv) R₁ (F.step R S₁) S₁.own q₁)
noncomputable def sCont : ST := fun m σ Q => Q .cont m σ
end
end Mine


end
noncomputable section
set_option autoImplicit false
namespace Mine
open PySem

abbrev Spec := List V → View → (V → View → Prop) → Prop
/-- the function at f answers by its contract -/
noncomputable def FnSound (C : Cx) (j : Nat) (f : Addr) (spec : Spec) : Prop :=
  ∀ (A : Around) (s : Shared) (σ : View) (vs : List V) (ws : List Value) (Q : V → View → Prop) (P : Value → Shared → Prop) (E : Value → Shared → Prop),
    AOk C A (j + 1) → RelG C σ s → VRels C.aS s.heap vs ws → spec vs σ Q → Aft C σ s Q P → codeAny (model C.prog C.w) A (.call (.ref f) ⟨ws, []⟩) (fun r s' => match r with | .ok (.ret v) => P v s' | .ok _ => False | .error e => E e s') s

noncomputable def none' : Loc := fun _ => Option.none
noncomputable def bindM : List String → List V → Loc → Loc
  | x :: xs, v :: vs, m => bindM xs vs (put m x v)
  | _, _, m => m

theorem cellsFrom_has {x : Str} : ∀ (names : List (Str × NameKind)) (n : Nat) (acc : List (Str × Addr)), (names.lookup x = some .cell ∨ ∃ c, acc.lookup x = some c) → ∃ c, (cellsFrom n names acc).lookup x = some c
  | [], _, _, h => h.elim (fun e => by cases e) id
  | (y, q) :: r, n, acc, h => by
    unfold cellsFrom
    by_cases hq : q = .cell
    · rw [if_pos (by simp [hq])]
      refine cellsFrom_has r _ _ ?_
      by_cases hy : x = y
      · exact .inr ⟨n, by simp [hy]⟩
      · have hb : (x == y) = false := by simp [hy]
        refine h.imp (fun e => ?_) fun ⟨c, e⟩ => ⟨c, ?_⟩
        · rw [List.lookup_cons, hb] at e; exact e
        · rw [List.lookup_cons, hb]; exact e
    · rw [if_neg (by simpa using hq)]
      refine cellsFrom_has r _ _ ?_
      by_cases hy : x = y
      · refine .inr (h.elim (fun e => ?_) id)
        rw [List.lookup_cons, show (x == y) = true by simp [hy]] at e
        exact absurd (Option.some.inj e) hq
      · have hb : (x == y) = false := by simp [hy]
        refine h.imp (fun e => ?_) id
        rw [List.lookup_cons, hb] at e; exact e

section
variable {C : Cx}
/-- the parameters are bound -/
theorem bound_vars {h : Heap} (kindOf : Str → Option NameKind) : ∀ (xs : List String) (vs : List V) (ws : List Value) (m : Loc) (mL mC : Str → Option Value),
    (∀ x ∈ xs, kindOf (Str.ofString x) = some .local ∨ kindOf (Str.ofString x) = some .cell) → VRels C.aS h vs ws →
    (∀ x v, m x = some v → (kindOf (Str.ofString x) = some .local ∧ ∃ w, mL (Str.ofString x) = some w ∧ VRel C.aS h v w) ∨ (kindOf (Str.ofString x) = some .cell ∧ ∃ w, mC (Str.ofString x) = some w ∧ VRel C.aS h v w)) →
    ∀ x v, bindM xs vs m x = some v → (kindOf (Str.ofString x) = some .local ∧ ∃ w, bindL kindOf ((xs.map Str.ofString).zip ws) mL (Str.ofString x) = some w ∧ VRel C.aS h v w) ∨
      (kindOf (Str.ofString x) = some .cell ∧ ∃ w, bindC kindOf ((xs.map Str.ofString).zip ws) mC (Str.ofString x) = some w ∧ VRel C.aS h v w)
  | [], _, _, _, _, _, _, _, hm => by simpa [bindM, bindL, bindC] using hm
  | x :: xs, [], _, _, _, _, _, .nil, hm => by simpa [bindM, bindL, bindC] using hm
  | x :: xs, v :: vs, w :: ws, m, mL, mC, hk, .cons hv hvs, hm => by
    simp only [bindM, List.map_cons, List.zip_cons_cons, bindL, bindC]
    refine bound_vars kindOf xs vs ws _ _ _ (fun y hy => hk y (.tail _ hy)) hvs fun y u e => ?_
    by_cases hy : y = x
    · subst hy
      rw [put_same] at e; cases e
      rcases hk y (.head _) with z | z
      · exact .inl ⟨z, w, by simp [z], hv⟩
      · exact .inr ⟨z, w, by simp [z], hv⟩
    · rw [put_ne hy] at e
      have hne : ¬ Str.ofString y = Str.ofString x := fun z => hy (ofString_inj z)
      rcases hm y u e with ⟨z, w', h1, h2⟩ | ⟨z, w', h1, h2⟩
      · refine .inl ⟨z, w', ?_, h2⟩
        split <;> simp [hne, h1]
      · refine .inr ⟨z, w', ?_, h2⟩
        split <;> simp [hne, h1]

/-- a def of the text answers by what its body's transformer says -/
theorem FnSound.mk (O : C.Ok) {f : Addr} {o : Obj} {fd : FuncData} {body : List Stmt} {xs : List String} {sc : Scope} {j : Nat} {spec : Spec} {T : ST}
    (ho : C.hB.get? f = some o) (hd : o.data = .func fd) (hcd : C.hB.CodeRec fd.code fd.qualname) (hb : fd.body = .stmts body) (hsc : fd.scope = sc) (hcl : fd.closure = []) (hg : fd.globals = mainGlobals) (hbi : fd.builtins = builtinsNs)
    (hk : sc.kind = .function) (hfr : ∀ p ∈ sc.names, p.2 ≠ .free) (hco : sc.isCoroutine = false) (hgen : sc.isGenerator = false)
    (hbind : ∀ ws : List Value, ws.length = xs.length → bindArgs fd ⟨ws, []⟩ = pure ((xs.map Str.ofString).zip ws))
    (hloc : ∀ x ∈ xs, sc.names.lookup (Str.ofString x) = some .local ∨ sc.names.lookup (Str.ofString x) = some .cell)
    (hT : HS C sc j body T)
    (hspec : ∀ vs σ Q, spec vs σ Q → vs.length = xs.length ∧ T (bindM xs vs none') σ fun f _ σ' => match f with | .ret v => Q v σ' | .next => Q .none σ' | _ => False) : FnSound C j f spec := by
  intro A s σ vs ws Q P E ao R hvs hs hP
  subst hsc
  obtain ⟨hlen, q⟩ := hspec vs σ Q hs
  have hlw : ws.length = xs.length := by rw [← hvs.length]; exact hlen
  refine (codeAny_call_cells (fd := fd) (body := body) (binds := (xs.map Str.ofString).zip ws) (by have := ao.depth; omega) (R.base _ _ ho) hd (O.nolimit.keeps R.base) (hcd.keeps R.base) hb (hbind ws hlw) hcl ?_ ?_ hco hgen hk)
  · intro x hx
    have : x.1 ∈ xs.map Str.ofString := (List.of_mem_zip (a := x.1) (b := x.2) hx).1
    obtain ⟨y, hy, e⟩ := List.mem_map.mp this
    rw [← e]
    refine (hloc y hy).imp id fun z => ⟨z, ?_⟩
    obtain ⟨c, hc⟩ := cellsFrom_has (x := Str.ofString y) fd.scope.names (s.heap.objs.size + 1) [] (.inl z)
    rw [hc]; rfl
  · intro s₁ x
    generalize henv : callEnvC fd s.heap.objs.size f = env at x ⊢
    have eS : env.scope = fd.scope := by rw [← henv]; rfl
    have eL : env.locals = s.heap.objs.size := by rw [← henv]; rfl
    have eC : env.cells = cellsFrom (s.heap.objs.size + 1) fd.scope.names [] := by rw [← henv]; rfl
    have en : EnvOk env fd.scope := ⟨eS, hk, by rw [← henv]; exact hg, by rw [← henv]; exact hbi⟩
    obtain ⟨h₁, tk₁, e₁⟩ := x.toInCall.same
    have keep := x.toInCall.keep
    have R₁ : RelG C σ s₁ := by
      rw [e₁]
      exact R.grow (fun b o e => by have := keep b o e; rw [e₁] at this; exact this)
    have hz : s.heap.objs.size ≤ s₁.heap.objs.size := Nat.le_of_lt (by have := x.toInCall.ns.lt; rw [eL] at this; exact this)
    have kt : TupKeep s.heap s₁.heap := fun b o e _ => keep b o e
    have vars := bound_vars (C := C) (h := s₁.heap) env.kindOf xs vs ws none' (fun _ => Option.none) (fun _ => Option.none)
      (fun y hy => by unfold Env.kindOf; rw [eS]; exact hloc y hy) (hvs.keep kt) (fun _ _ e => by cases e)
    have lookupC : ∀ n, env.kindOf n = some .cell → ∃ c, env.cells.lookup n = some c := fun n hn => by
      rw [eC]; exact cellsFrom_has _ _ _ (.inl (by unfold Env.kindOf at hn; rw [eS] at hn; exact hn))
    have lookupF : ∀ n, env.kindOf n = some .cell ∨ env.kindOf n = some .free → ∃ c, env.cells.lookup n = some c := fun n hn => hn.elim (lookupC n) fun z => by
      unfold Env.kindOf at z; rw [eS] at z; exact absurd rfl (hfr _ (mem_of_lookup z))
    have fresh : ∀ c, s.heap.objs.size ≤ c → C.hB.get? c = Option.none := fun c hc => R.baseNone (get_none_of_size hc)
    have F₁ : FrameRel C env (bindM xs vs none') σ s₁.heap := by
      refine ⟨⟨_, x.toInCall.ns, fun y v e ky => ?_⟩, fun y v e => ?_, fun n c hc => ?_, R.freshNone (get_none_of_size (Nat.le_of_eq eL.symm)), fresh _ (Nat.le_of_eq eL.symm), fun n c hc => ?_, x.apart, lookupF⟩
      · rcases vars y v e with ⟨_, w, h1, h2⟩ | ⟨z, _⟩
        · exact ⟨w, h1, h2⟩
        · rw [z] at ky; cases ky
      · rcases vars y v e with ⟨z, _⟩ | ⟨z, w, h1, h2⟩
        · exact .inl z
        · obtain ⟨c, hc⟩ := lookupC _ z
          exact .inr ⟨.inl z, c, w, hc, h1 ▸ x.cell _ c hc, h2⟩
      · exact ⟨_, x.cell n c hc⟩
      · exact fresh c (Nat.le_of_lt (by have := x.above n c (mem_of_lookup hc); rw [eL] at this; exact this))
    refine hT.run env _ s₁ _ σ _ _ _ en ⟨by show A.handled = _; exact ao.handled, by show A.depth + 1 + 3 * j + 3 < _; have := ao.depth; omega, by show A.units + 3 + 10 * j + 20 < _; have := ao.units; omega⟩ R₁ F₁ q fun fl g m' σ' s' hf R' F' S' q' => ?_
    have S₀ : Step no σ σ' s.heap s'.heap :=
      ⟨fun b o e n _ => S'.keepL b o (keep b o e) n (fun z => by
          have hlt := Heap.lt_size e
          rcases z with z | ⟨n', z⟩
          · rw [z, eL] at hlt; exact Nat.lt_irrefl _ hlt
          · have := x.above n' b (mem_of_lookup z); rw [eL] at this; exact Nat.lt_irrefl _ (Nat.lt_trans hlt this)),
        Nat.le_trans hz S'.size, fun b n m => Nat.le_trans hz (S'.new b n m)⟩
    cases hf with
    | next => exact hP .none .none σ' s' .none R' S₀ q'
    | ret hv => exact hP _ _ σ' s' hv R' S₀ q'
    | brk => exact q'.elim
    | cont => exact q'.elim
end
end Mine


end
noncomputable section
set_option autoImplicit false
namespace Mine
open PySem

section
variable {C : Cx} {sc : Scope} {k : Nat}
noncomputable def plainArgs (es : List Expr) : Bool := es.all notStar
theorem starEach_any {es : List Expr} {env : Env} {pos : Pos} (h : plainArgs es = true) : (backTo pos (starEach es env)).any (·.1) = false := by
  induction es with
  | nil => rfl
  | cons e r ih =>
    simp only [plainArgs, List.all_cons, Bool.and_eq_true] at h
    rw [starEach_plain h.1]
    show ((false, _) :: backTo pos (starEach r env)).any (·.1) = false
    rw [List.any_cons, ih h.2]; rfl
theorem evalArgs_of {f : Value} {es : List Expr} {env : Env} {pos : Pos} {M : Model} {A : Around} {s : Shared} {Q : Args → Shared → Prop} {E : Value → Shared → Prop} (h : plainArgs es = true)
    (hs : wpAny M A (spliced (backTo pos (starEach es env))) (fun vs s' => Q ⟨vs, []⟩ s') E s) : wpAny M A (evalArgs f true (backTo pos (starEach es env)) []) Q E s := by
  cases es with
  | nil =>
    unfold evalArgs
    show wpAny M A (spliced [] >>= _) Q E s
    refine wpAny_bind (wpAny_mono hs (fun vs s' h' => ?_) fun _ _ x => x)
    refine wpAny_holding ?_
    exact wpAny_bind (wpAny_pure (wpAny_bind (wpAny_pure (wpAny_pure h'))))
  | cons e r =>
    simp only [plainArgs, List.all_cons, Bool.and_eq_true] at h
    rw [starEach_plain h.1] at hs ⊢
    exact Calls.evalArgs_plain hs
/-- the call of a def of the text -/
noncomputable def eCall (spec : Spec) (L : LT) : ET := fun m σ Q => L m σ fun vs σ' => spec vs σ' Q
theorem HE.call (O : C.Ok) {f : String} {a : Addr} {o : Obj} {fd : FuncData} {np pos : Pos} {es : List Expr} {L : LT} {spec : Spec} {j : Nat} (hf : FnSound C j a spec) (hj : j < k)
    (hn : sc.names.lookup (Str.ofString f) = some .globalImplicit) (hg : C.mg (Str.ofString f) = some (.ref a)) (ho : C.hB.get? a = some o) (hd : o.data = .func fd) (hdb : (Str.ofString f == ("__debug__" : Str)) = false)
    (hl : HL C sc k es L) (hp : plainArgs es = true) : HE C sc k (.Call (.Name (Str.ofString f) np) es [] pos) (eCall spec L) := by
  refine ⟨?_⟩; intro env A s m σ Q P E en ao R F q hP
  refine wpAny_Call_NameR (Calls.Name_function_global en.k (en.of hn) (Calls.loadGlobal_global (mg := C.mg) (by rw [en.globals]; exact O.g.keeps R.base) hg ?_) hdb)
  refine Calls.callWith_function (o := o) (fd := fd) (evalArgs_of hp (hl.run env A s m σ pos _ _ E en ao R F q fun vs ws σ₁ s₁ hv R₁ S₁ q₁ => ⟨⟨R₁.base _ _ ho, hd⟩, ?_⟩))
  exact wpAny_call (hf A s₁ σ₁ vs ws Q P E (ao.le hj) R₁ hv q₁ fun v w σ' s' hv' R' S' q' => hP v w σ' s' hv' R' (S₁.trans S') q')
/-- a built-in function or a built-in type by name -/
noncomputable def OpN (C : Cx) (k : Nat) (t : List Value → Sem Value) (op : Spec) : Prop :=
  ∀ (A : Around) (s : Shared) (σ : View) (vs : List V) (ws : List Value) (Q : V → View → Prop) (P E : Value → Shared → Prop), AOk C A k → RelG C σ s → VRels C.aS s.heap vs ws → op vs σ Q → Aft C σ s Q P →
    wpAny (model C.prog C.w) A (t ws) P E s
theorem HE.builtin (O : C.Ok) {f : String} {id : String} {np pos : Pos} {es : List Expr} {L : LT} {op : Spec} (hop : OpN C k (fun ws => PySem.call (.builtin id) ws) op)
    (hn : sc.names.lookup (Str.ofString f) = some .globalImplicit) (hg : C.mg (Str.ofString f) = Option.none) (hb : C.mb (Str.ofString f) = some (.builtin id)) (hdb : (Str.ofString f == ("__debug__" : Str)) = false)
    (hl : HL C sc k es L) (hp : plainArgs es = true) : HE C sc k (.Call (.Name (Str.ofString f) np) es [] pos) (eCall op L) := by
  refine ⟨?_⟩; intro env A s m σ Q P E en ao R F q hP
  refine wpAny_Call_NameR (Calls.Name_function_global en.k (en.of hn) (Calls.loadGlobal_builtin (mg := C.mg) (mb := C.mb) (by rw [en.globals]; exact O.g.keeps R.base) hg (by rw [en.builtins]; exact O.b.keeps R.base) hb ?_) hdb)
  refine Calls.callWith_builtin (starEach_any hp) (evalArgs_of hp (hl.run env A s m σ pos _ _ E en ao R F q fun vs ws σ₁ s₁ hv R₁ S₁ q₁ => ?_))
  exact hop A s₁ σ₁ vs ws Q P E ao R₁ hv q₁ fun v w σ' s' hv' R' S' q' => hP v w σ' s' hv' R' (S₁.trans S') q'
theorem HE.btype (O : C.Ok) {f : String} {id : String} {np pos : Pos} {es : List Expr} {L : LT} {op : Spec} (hop : OpN C k (fun ws => PySem.call (.type id) ws) op)
    (hn : sc.names.lookup (Str.ofString f) = some .globalImplicit) (hg : C.mg (Str.ofString f) = Option.none) (hb : C.mb (Str.ofString f) = some (.type id)) (hdb : (Str.ofString f == ("__debug__" : Str)) = false)
    (hl : HL C sc k es L) (hp : plainArgs es = true) : HE C sc k (.Call (.Name (Str.ofString f) np) es [] pos) (eCall op L) := by
  refine ⟨?_⟩; intro env A s m σ Q P E en ao R F q hP
  refine wpAny_Call_NameR (Calls.Name_function_global en.k (en.of hn) (Calls.loadGlobal_builtin (mg := C.mg) (mb := C.mb) (by rw [en.globals]; exact O.g.keeps R.base) hg (by rw [en.builtins]; exact O.b.keeps R.base) hb ?_) hdb)
  refine callWith_type (starEach_any hp) (evalArgs_of hp (hl.run env A s m σ pos _ _ E en ao R F q fun vs ws σ₁ s₁ hv R₁ S₁ q₁ => ?_))
  exact hop A s₁ σ₁ vs ws Q P E ao R₁ hv q₁ fun v w σ' s' hv' R' S' q' => hP v w σ' s' hv' R' (S₁.trans S') q'

/- iteration -/
structure It (C : Cx) (k : Nat) (I : Addr) (items : List V) (inv : View → Prop) (St : Nat → Heap → Prop) : Prop where
  frame : ∀ i h h', St i h → (∀ o, h.get? I = some o → h'.get? I = some o) → TupKeep h h' → St i h'
  live : ∀ i h, St i h → ∃ o, h.get? I = some o ∧ ¬ IsT o ∧ ∀ v, o.data ≠ .cell v
  flds : ∀ i h, St i h → ∀ o, h.get? I = some o → ∀ es ep, o.data ≠ .dict es ep
  next : ∀ (A : Around) (σ : View) (s : Shared) (i : Nat) (v : V) (Q : Option Value → Shared → Prop) (E : Value → Shared → Prop), AOk C A k → RelG C σ s → inv σ → St i s.heap → items[i]? = some v →
    (∀ w h' tk, VRel C.aS h' v w → St (i + 1) h' → Heap.ExtBut I s.heap h' → Q (some w) { s with heap := h', toks := tk }) → wpAny (model C.prog C.w) A (pyNext (.ref I)) Q E s
  done : ∀ (A : Around) (σ : View) (s : Shared) (Q : Option Value → Shared → Prop) (E : Value → Shared → Prop), AOk C A k → RelG C σ s → inv σ → St items.length s.heap →
    (∀ h' tk, Heap.ExtBut I s.heap h' → Q Option.none { s with heap := h', toks := tk }) → wpAny (model C.prog C.w) A (pyNext (.ref I)) Q E s
  self : ∀ (A : Around) (s : Shared) (i : Nat) (Q : Value → Shared → Prop) (E : Value → Shared → Prop), St i s.heap → Q (.ref I) s → wpAny (model C.prog C.w) A (pyIter (.ref I)) Q E s
  own : ∀ (A : Around) (s : Shared) (i : Nat) (t : Expr) (w : Value) (Q : Unit → Shared → Prop) (E : Value → Shared → Prop), St i s.heap → Q () s → wpAny (model C.prog C.w) A (letOwnedTupleGo t (.ref I) w) Q E s

abbrev IT := Loc → View → (List V → (View → Prop) → View → Prop) → Prop
/-- an iterable in the head of a loop -/
structure HI (C : Cx) (sc : Scope) (k : Nat) (e : Expr) (T : IT) : Prop where
  run : ∀ (env : Env) (A : Around) (s : Shared) (m : Loc) (σ : View) (Q : List V → (View → Prop) → View → Prop) (P : Value → Shared → Prop) (E : Value → Shared → Prop),
    EnvOk env sc → AOk C A k → RelG C σ s → FrameRel C env m σ s.heap → T m σ Q →
    (∀ items inv I St σ' s', It C k I items inv St → St 0 s'.heap → s.heap.objs.size ≤ I → σ' I = Option.none → RelG C σ' s' → Step no σ σ' s.heap s'.heap → Q items inv σ' → P (.ref I) s') →
    wpAny (model C.prog C.w) A (eval e env) (fun x s₁ => wpAny (model C.prog C.w) A (pyIter x) P E s₁) E s

/-- the next item is drawn: the frame and the view stand -/
theorem draw_rel {σ : View} {s : Shared} {h' : Heap} {tk : Nat} {I : Addr} (R : RelG C σ s) (hx : Heap.ExtBut I s.heap h') (hσ : σ I = Option.none) (hb : C.hB.get? I = Option.none) (hI : ∃ o, s.heap.get? I = some o ∧ ¬ IsT o ∧ ∀ v, o.data ≠ .cell v) :
    RelG C σ { s with heap := h', toks := tk } := by
  obtain ⟨oI, hoI, hT, _⟩ := hI
  have kt : TupKeep s.heap h' := fun b o e ht => hx b o (by rintro rfl; rw [hoI] at e; cases e; exact hT ht) e
  exact ⟨let ⟨_, _, d, e⟩ := R.rest; ⟨h', tk, d, by rw [e]⟩, fun b o e => hx b o (by rintro rfl; rw [hb] at e; cases e) (R.base b o e),
    fun a o e => (R.view a o e).keep kt fun o' e' => hx a o' (by rintro rfl; rw [hσ] at e; cases e) e', R.apart⟩
theorem draw_frame {env : Env} {m : Loc} {σ : View} {s : Shared} {h' : Heap} {I : Addr} (F : FrameRel C env m σ s.heap) (hx : Heap.ExtBut I s.heap h') (hI : ∃ o, s.heap.get? I = some o ∧ ¬ IsT o ∧ ∀ v, o.data ≠ .cell v) (hL : I ≠ env.locals) : FrameRel C env m σ h' := by
  obtain ⟨oI, hoI, hT, hC⟩ := hI
  have kt : TupKeep s.heap h' := fun b o e ht => hx b o (by rintro rfl; rw [hoI] at e; cases e; exact hT ht) e
  have kc : ∀ c v, s.heap.IsCell c v → h'.IsCell c v := fun c v ⟨o, ho, hd⟩ => ⟨o, hx c o (by rintro rfl; rw [hoI] at ho; cases ho; exact hC _ hd) ho, hd⟩
  obtain ⟨mm, hn, hm⟩ := F.ns
  refine ⟨⟨mm, hn.extBut hx (Ne.symm hL), fun y u e ky => ?_⟩, fun y u e => ?_, fun n c e => ?_, F.sepL, F.baseL, F.baseC, F.dist, F.has⟩
  · obtain ⟨w, h1, h2⟩ := hm y u e ky; exact ⟨w, h1, h2.keep kt⟩
  · rcases F.cel y u e with z | ⟨z, c, w', h1, h2, h3⟩
    · exact .inl z
    · exact .inr ⟨z, c, w', h1, kc _ _ h2, h3.keep kt⟩
  · obtain ⟨v, hv⟩ := F.cells n c e; exact ⟨v, kc _ _ hv⟩

/-- the target of a loop or of an assignment -/
inductive Tgt where
  | name (x : String)
  | tup (xs : List String)
noncomputable def bindT : Tgt → V → Loc → Option Loc
  | .name x, v, m => some (put m x v)
  | .tup xs, .tup vs, m => if xs.length = vs.length then some (bindM xs vs m) else Option.none
  | .tup _, _, _ => Option.none
/-- what an assignment may turn: the names of the frame, or its cells too -/
noncomputable def OwnL (loc : Bool) (env : Env) (b : Addr) : Prop := b = env.locals ∨ (loc = false ∧ ∃ n, env.cells.lookup n = some b)
structure HT (C : Cx) (sc : Scope) (k : Nat) (loc : Bool) (t : Expr) (g : Tgt) : Prop where
  run : ∀ (env : Env) (A : Around) (s : Shared) (m m' : Loc) (σ : View) (v : V) (w : Value) (P : Unit → Shared → Prop) (E : Value → Shared → Prop),
    EnvOk env sc → AOk C A k → RelG C σ s → FrameRel C env m σ s.heap → VRel C.aS s.heap v w → bindT g v m = some m' →
    (∀ s', RelG C σ s' → FrameRel C env m' σ s'.heap → Step (OwnL loc env) σ σ s.heap s'.heap → P () s') → wpAny (model C.prog C.w) A (assign t env w) P E s
theorem HT.name {x : String} {pos : Pos} (hx : sc.names.lookup (Str.ofString x) = some .local) : HT C sc k true (.Name (Str.ofString x) pos) (.name x) := by
  refine ⟨?_⟩; intro env A s m m' σ v w P E en ao R F hv hb hP
  cases hb
  exact wpAny_assign_Name (store_local en R F hx hv fun s' R' F' S' => hP s' R' F' (S'.mono fun _ _ _ z => .inl z))
noncomputable def forL (g : Tgt) (inv : View → Prop) (T : ST) : List V → ST
  | [] => fun m σ Q => inv σ ∧ Q .next m σ
  | v :: r => fun m σ Q => inv σ ∧ ∃ m', bindT g v m = some m' ∧ T m' σ fun f m₁ σ₁ => match f with
    | .next => forL g inv T r m₁ σ₁ Q
    | .cont => forL g inv T r m₁ σ₁ Q
    | .brk => Q .next m₁ σ₁
    | .ret u => Q (.ret u) m₁ σ₁
noncomputable def sFor (g : Tgt) (I : IT) (T : ST) : ST := fun m σ Q => I m σ fun items inv σ' => forL g inv T items m σ' Q
/-- where a loop stands -/
inductive ForInv (C : Cx) (env : Env) (σ : View) (h : Heap) (I : Addr) (items : List V) (St : Nat → Heap → Prop) (L : List V → Loc → View → Prop) (n : Nat) (s' : Shared) : Prop
  | mk (i : Nat) (m' : Loc) (σ' : View) (rest : List V) (e1 : items.drop i = rest) (e2 : i ≤ items.length) (e3 : n = rest.length + 1) (st : St i s'.heap) (hσ : σ' I = Option.none) (R : RelG C σ' s') (F : FrameRel C env m' σ' s'.heap)
      (S : Step (fun b => Own env b ∨ b = I) σ σ' h s'.heap) (q : L rest m' σ') : ForInv C env σ h I items St L n s'
theorem HS1.for {target iter : Expr} {body : List Stmt} {pos : Pos} {g : Tgt} {I : IT} {T : ST} {loc : Bool} (ht : HT C sc k loc target g) (hi : HI C sc k iter I) (hb : HS C sc k body T)
    (hf : ∀ env x, foldedSetIterable iter env x = pure x) : HS1 C sc k (.For target iter body [] pos) (sFor g I T) := by
  refine ⟨?_⟩; intro env A s m σ Q P E en ao R F q hP
  rw [exec_For]
  refine wpAny_bind (wpAny_standAt ?_)
  have start : wpAny (model C.prog C.w) A (eval iter env) (fun x s₁ => wpAny (model C.prog C.w) A (pyIter x) (fun it s₂ => codeAny (model C.prog C.w) A (.forLoop target it body [] env) (fun r s' => match r with | .ok f => P f s' | .error e => cameBackBy (model C.prog C.w) A env E e s') s₂) E s₁) E s := by
    refine hi.run env A s m σ _ _ E en ao R F q fun items inv I St σ₀ s₀ hit st₀ hI hσ₀ R₀ S₀ q₀ => ?_
    have F₀ := F.step R S₀
    obtain ⟨mm, hn, _⟩ := F.ns
    have hIL : I ≠ env.locals := fun e => absurd hn.lt (Nat.not_lt.mpr (e ▸ hI))
    have hIb : C.hB.get? I = Option.none := R.baseNone (get_none_of_size hI)
    have back : ∀ {σ' : View} {h' : Heap}, Step (fun b => Own env b ∨ b = I) σ σ' s.heap h' → Step (Own env) σ σ' s.heap h' := fun S =>
      S.mono fun b o e z => z.elim id fun z => absurd (Heap.lt_size e) (Nat.not_lt.mpr (z ▸ hI))
    refine codeAny_forLoop_any
      (ForInv C env σ s.heap I items St fun rest m' σ' => forL g inv T rest m' σ' Q) ?_ _
      ⟨0, m, σ₀, items, by simp, by simp, rfl, st₀, hσ₀, R₀, F₀, S₀.mono fun _ _ _ z => z.elim, q₀⟩
    rintro n s' ⟨i, m', σ', rest, e1, e2, rfl, st, hσ', R', F', S', q'⟩
    have drew : ∀ {h' : Heap}, Heap.ExtBut I s'.heap h' → s'.heap.objs.size ≤ h'.objs.size → Step (fun b => Own env b ∨ b = I) σ' σ' s'.heap h' := fun hx hsz =>
      .of (fun b o e _ q => hx b o (fun z => q (.inr z)) e) hsz fun _ a b => absurd a b
    cases rest with
    | nil =>
      have hil : i = items.length := by
        have := congrArg List.length e1
        simp at this; omega
      subst hil
      refine with_size (hit.done A σ' s' _ _ ao R' q'.1 st fun h' tk hx hsz => ?_)
      exact wpAny_execs_nil (hP .next .next m' σ' _ .next (draw_rel (tk := tk) R' hx hσ' hIb (hit.live _ _ st)) (draw_frame F' hx (hit.live _ _ st) hIL) (back (S'.trans (drew hx hsz))) q'.2)
    | cons v r =>
      obtain ⟨hinv, m₁, hm₁, q'⟩ := q'
      have hiv : items[i]? = some v := by
        have : (items.drop i)[0]? = some v := by rw [e1]; rfl
        simpa using this
      have hilt : i < items.length := by
        have := congrArg List.length e1
        simp at this; omega
      refine with_size (hit.next A σ' s' i v _ _ ao R' hinv st hiv fun w h₁ tk₁ hv st₁ hx hsz => ?_)
      have R₁ := draw_rel (tk := tk₁) R' hx hσ' hIb (hit.live _ _ st)
      have F₁ := draw_frame F' hx (hit.live _ _ st) hIL
      have S₁ := S'.trans (drew hx hsz)
      refine hit.own A _ (i + 1) target w _ _ st₁ ?_
      refine ht.run env A _ m' m₁ σ' v w _ _ en ao R₁ F₁ hv hm₁ fun s₂ R₂ F₂ S₂L => ?_
      have S₂ : Step (Own env) σ' σ' h₁ s₂.heap := S₂L.mono fun _ _ _ z => z.imp id fun z => z.2
      have S₂' : Step (fun b => Own env b ∨ b = I) σ' σ' h₁ s₂.heap := S₂.mono fun _ _ _ z => .inl z
      have st₂ : St (i + 1) s₂.heap := hit.frame _ _ _ st₁ (fun o e => S₂.keep I o e hσ' (fun z => by
        rcases z with z | ⟨n, z⟩
        · exact hIL z
        · obtain ⟨u, ou, hou, hdu⟩ := F₁.cells n I z
          obtain ⟨o', ho', _, hc'⟩ := hit.live _ _ st₁
          have : ou = o' := Option.some.inj (hou.symm.trans ho')
          exact hc' u (this ▸ hdu)) (hit.flds _ _ st₁ o e)) (S₂.tupsO F₁ R₁)
      refine hb.run env A s₂ m₁ σ' _ _ _ en ao R₂ F₂ q' fun f fl m₃ σ₃ s₃ hf R₃ F₃ S₃ q₃ => ?_
      have S₃' : Step (fun b => Own env b ∨ b = I) σ' σ₃ s₂.heap s₃.heap := S₃.mono fun _ _ _ z => .inl z
      have SS := (S₁.trans S₂').trans S₃'
      have go : forL g inv T r m₃ σ₃ Q → ∃ k', k' < (v :: r).length + 1 ∧ ForInv C env σ s.heap I items St (fun rest m' σ' => forL g inv T rest m' σ' Q) k' s₃ := fun q₃ => by
        refine ⟨r.length + 1, Nat.lt_succ_self _, i + 1, m₃, σ₃, r, ?_, hilt, rfl, ?_, ?_, R₃, F₃, SS, q₃⟩
        · rw [← List.tail_drop, e1]; rfl
        · refine hit.frame _ _ _ st₂ (fun o e => S₃.keep I o e hσ' (fun z => ?_) (hit.flds _ _ st₂ o e)) (S₃.tupsO F₂ R₂)
          rcases z with z | ⟨n, z⟩
          · exact hIL z
          · obtain ⟨u, ou, hou, hdu⟩ := F₂.cells n I z
            obtain ⟨o', ho', _, hc'⟩ := hit.live _ _ st₂
            have : ou = o' := Option.some.inj (hou.symm.trans ho')
            exact hc' u (this ▸ hdu)
        · cases z : σ₃ I with
          | none => rfl
          | some o =>
            obtain ⟨o', ho', _⟩ := hit.live _ _ st₂
            exact absurd (Heap.lt_size ho') (Nat.not_lt.mpr (S₃.new I hσ' (by rw [z]; simp)))
      cases hf with
      | next => exact go q₃
      | cont => exact go q₃
      | brk => exact hP .next .next m₃ σ₃ s₃ .next R₃ F₃ (back SS) q₃
      | ret hv => exact hP _ _ m₃ σ₃ s₃ (.ret hv) R₃ F₃ (back SS) q₃
  refine wpAny_bind (wpAny_mono start (fun x s₁ h₁ => wpAny_bind (wpAny_of_eq (hf env x) (wpAny_bind (wpAny_standAt (wpAny_bind (wpAny_holding (wpAny_mono h₁ (fun it s₂ h₂ => wpAny_runOwn h₂) fun _ _ h' => h'))))))) fun _ _ h' => h')
end
end Mine


end
noncomputable section
set_option autoImplicit false
namespace Mine
open PySem
/-- no exception is held, or one that came of no other -/
noncomputable def Hd (A : Around) (h : Heap) : Prop := A.handled = none ∨ ∃ e o vs, A.handled = some (.ref e) ∧ h.get? e = some o ∧ o.data = .fields vs ∧ vs[2]? = some .none
section
variable {prog : Program} {w : World} {A : Around} {E : Value → Shared → Prop} {s : Shared}
theorem entry_unchain : entryFor table "proto.unchain" = some Builtin.«proto.unchain» := entryFor_of_fast (by kernel_rfl)
theorem plain_unchain : plainId "proto.unchain" = true := by decide +kernel
theorem unchain_end {e : Addr} {x : Value} {o : Obj} {vs : Array Value} {Q : Value → Shared → Prop} (ho : s.heap.get? e = some o) (hd : o.data = .fields vs) (h2 : vs[2]? = some .none) (h : Q .none s) :
    wpAny (model prog w) A (runValue (.builtin "proto.unchain" ⟨[x, .ref e, .ref e, .bool false], []⟩)) Q E s := by
  refine wpAny_runValue (codeAny_builtin entry_unchain ?_)
  rw [Around.under_plainId plain_unchain _]
  unfold Builtin.«proto.unchain»
  dsimp only
  refine wpAny_bind (wpAny_field ho hd h2 ?_)
  rw [if_pos (by decide)]
  exact wpAny_pure h
theorem stopH {Q : Option Value → Shared → Prop} {P : Fin → Shared → Prop} (hh : Hd A s.heap) (h : ∀ h', (∀ b o, s.heap.get? b = some o → h'.get? b = some o) → Q none { s with heap := h' }) :
    wpAny (model prog w) A.in1 (do
        let e ← newExc (Value.type "StopIteration") []
        raiseNew e) P (fun e s' => wpAny (model prog w) A (do
          let b ← isInstance e (Value.type "StopIteration")
          if b = true then pure none else throw e) Q E s') s := by
  refine wpAny_bind ?_
  simp only [newExc, newTuple]
  refine wpAny_bind (wpAny_newObj_type ?_ (by size_fits))
  refine wpAny_bind (m := firstArgMember _ _) (wpAny_of_eq (a := Value.none) (by first | rfl | (simp only [firstArgMember]; rfl)) ?_)
  refine wpAny_newObj_type ?_ (by size_fits)
  simp only [raiseNew]
  refine wpAny_bind (wpAny_handled ?_)
  rcases hh with hh | ⟨e, o, vs, hh, ho, hd, h2⟩
  · rw [show A.in1.handled = none from hh]
    refine wpAny_bind (wpAny_pure (wpAny_throw ?_))
    refine wpAny_bind (wpAny_isInstance (T := "StopIteration") (b := true) ⟨_, Heap.get?_push_size _ rfl, rfl⟩ isSubtype_stop ?_)
    exact wpAny_pure (h _ fun b o e => Heap.get?_push_of_some _ (Heap.get?_push_of_some _ e))
  · rw [show A.in1.handled = some (.ref e) from hh]
    dsimp only
    have hlt := Heap.lt_size ho
    have hne : e ≠ s.heap.objs.size + 1 := Nat.ne_of_lt (Nat.lt_succ_of_lt hlt)
    rw [Heap.size_push]
    rw [if_pos (by simp [hne])]
    have ho2 := Heap.get?_push_of_some (h := s.heap.push { cls := .type "tuple", dict := none, data := .seq ([] : List Value).toArray }) { cls := .type "StopIteration", dict := none, data := .fields (#[.ref s.heap.objs.size, .none, .none, .none, .bool false, .none] ++ ownMembersOf (.type "StopIteration") []) } (Heap.get?_push_of_some _ ho)
    refine wpAny_bind (wpAny_holding (unchain_end ho2 hd h2 ?_))
    have hn := Heap.get?_push_size (s.heap.push { cls := .type "tuple", dict := none, data := .seq ([] : List Value).toArray }) (o := { cls := .type "StopIteration", dict := none, data := .fields (#[.ref s.heap.objs.size, .none, .none, .none, .bool false, .none] ++ ownMembersOf (.type "StopIteration") []) }) rfl
    rw [Heap.size_push] at hn
    refine wpAny_bind (show wpAny _ _ (setField (.ref (s.heap.objs.size + 1)) 2 (.ref e)) _ _ _ from wpAny_setField hn rfl (by rw [Array.size_append]; show 2 < 6 + _; omega) (wpAny_throw ?_))
    have hd3 := Obj.data_mapFields (o := { cls := .type "StopIteration", dict := none, data := .fields (#[.ref s.heap.objs.size, .none, .none, .none, .bool false, .none] ++ ownMembersOf (.type "StopIteration") []) }) rfl (·.setIfInBounds 2 (Value.ref e))
    have hn3 := Heap.get?_update_self (Obj.mapFields (·.setIfInBounds 2 (Value.ref e))) hn (Obj.isFreed_of_fields hd3)
    refine wpAny_bind (wpAny_isInstance (T := "StopIteration") (b := true) ⟨_, hn3, Obj.cls_mapFields _ _⟩ isSubtype_stop ?_)
    refine wpAny_pure (h _ fun b o e => ?_)
    rw [Heap.get?_update_other _ _ (Ne.symm (Nat.ne_of_lt (Nat.lt_succ_of_lt (Heap.lt_size e))))]
    exact Heap.get?_push_of_some _ (Heap.get?_push_of_some _ e)
theorem list_endH {it l : Addr} {i : Nat} {items : Array Value} {Q : Option Value → Shared → Prop} (hh : Hd A s.heap)
    (hit : s.heap.IsListIter it l i) (hl : s.heap.IsList l items) (hx : items[i]? = none) (hie : ∀ e, A.handled = some (.ref e) → e ≠ it)
    (hQ : ∀ h', Heap.ExtBut it s.heap h' → Q none { s with heap := h' }) : wpAny (model prog w) A (pyNext (.ref it)) Q E s := by
  obtain ⟨o, ho, hc, hd⟩ := id hit
  obtain ⟨ol, hol, _, nl, hdl⟩ := hl
  unfold pyNext
  refine wpAny_bind (wpAny_attempt (wpAny_callSpecial?_slot (name := Str.ofString "__next__") hit.typeIs slot_listiter_next
    (wpAny_call_entry slot_listiter_next hit.typeIs entry_listiter_next ?_ (args_listiter_next _))))
  show wpAny _ _ (field (.ref it) 0 >>= _) _ _ s
  refine wpAny_bind (wpAny_field ho hd (x := .ref l) rfl ?_)
  show wpAny _ _ (if (Value.ref l == Value.none) = true then _ else _) _ _ s
  rw [if_neg (show ¬ ((Value.ref l == Value.none) = true) from Bool.false_ne_true)]
  show wpAny _ _ (field (.ref it) 1 >>= _) _ _ s
  refine wpAny_bind (wpAny_field ho hd (x := .int i 0) rfl ?_)
  show wpAny _ _ (seqItems? (.ref l) >>= _) _ _ s
  refine wpAny_bind (wpAny_seqItems hol hdl ?_)
  simp only [Int.toNat_natCast, hx]
  refine wpAny_bind (wpAny_rule (wpAny_bind (wpAny_setField ho hd (by simp) ?_)))
  refine stopH ?_ fun h' hk => hQ h' fun b o' hb e => hk b o' ((Heap.SameBut.update s.heap it _).extBut b o' hb e)
  rcases hh with hh | ⟨e, o', vs, hh, ho', hd', h2⟩
  · exact .inl hh
  · exact .inr ⟨e, o', vs, hh, (Heap.get?_update_other _ _ (Ne.symm (hie e hh))).trans ho', hd', h2⟩
theorem tuple_endH {it t : Addr} {i : Nat} {items : Array Value} {Q : Option Value → Shared → Prop} (hh : Hd A s.heap)
    (hit : s.heap.IsTupleIter it t i) (ht : s.heap.IsTuple t items) (hx : items[i]? = none) (hie : ∀ e, A.handled = some (.ref e) → e ≠ it)
    (hQ : ∀ h', Heap.ExtBut it s.heap h' → Q none { s with heap := h' }) : wpAny (model prog w) A (pyNext (.ref it)) Q E s := by
  obtain ⟨o, ho, hc, hd⟩ := id hit
  obtain ⟨ol, hol, _, nl, hdl⟩ := ht
  unfold pyNext
  refine wpAny_bind (wpAny_attempt (wpAny_callSpecial?_slot (name := Str.ofString "__next__") hit.typeIs F.slot_tuple_iterator_next
    (wpAny_call_entry F.slot_tuple_iterator_next hit.typeIs F.entry_tuple_iterator_next ?_ (F.args_tuple_iterator_next_1 _))))
  show wpAny _ _ (field (.ref it) 0 >>= _) _ _ s
  refine wpAny_bind (wpAny_field ho hd (x := .ref t) rfl ?_)
  show wpAny _ _ (if (Value.ref t == Value.none) = true then _ else _) _ _ s
  rw [if_neg (show ¬ ((Value.ref t == Value.none) = true) from Bool.false_ne_true)]
  show wpAny _ _ (field (.ref it) 1 >>= _) _ _ s
  refine wpAny_bind (wpAny_field ho hd (x := .int i 0) rfl ?_)
  show wpAny _ _ (seqItems? (.ref t) >>= _) _ _ s
  refine wpAny_bind (wpAny_seqItems hol hdl ?_)
  simp only [Int.toNat_natCast, hx]
  refine wpAny_bind (wpAny_rule (wpAny_bind (wpAny_setField ho hd (by simp) ?_)))
  refine stopH ?_ fun h' hk => hQ h' fun b o' hb e => hk b o' ((Heap.SameBut.update s.heap it _).extBut b o' hb e)
  rcases hh with hh | ⟨e, o', vs, hh, ho', hd', h2⟩
  · exact .inl hh
  · exact .inr ⟨e, o', vs, hh, (Heap.get?_update_other _ _ (Ne.symm (hie e hh))).trans ho', hd', h2⟩
theorem assignH {env : Env} {elts : List Expr} {x1 : Nat} {pos : Pos} {t : Addr} {items : Array Value} {Q : Unit → Shared → Prop} (hh : Hd A s.heap) (ht : s.heap.IsTuple t items)
    (hn : (assignEach elts env).length = items.size) (hstar : (assignEach elts env).findIdx? (·.1) = none)
    (h : ∀ h', Heap.ExtBut s.heap.objs.size s.heap h' → wpAny (model prog w) A (assignInOrder ((assignEach elts env).map (·.2)) items.toList) Q E { s with heap := h' }) :
    wpAny (model prog w) A (assign (.Tuple elts x1 pos) env (.ref t)) Q E s := by
  rw [arm_assign_Tuple]
  refine wpAny_bind (wpAny_standAt ?_)
  unfold unpack
  rw [hn, hstar]
  refine wpAny_bind (wpAny_holding ?_)
  have hlt : t ≠ s.heap.objs.size := by obtain ⟨o, ho, _⟩ := ht; exact Nat.ne_of_lt (Heap.lt_size ho)
  unfold unpackItems
  refine wpAny_bind ?_
  unfold notIterableAtAll
  refine wpAny_bind (wpAny_specialOf ht.typeIs F.slot_tuple_iter.lookup ?_)
  refine wpAny_pure ?_
  simp only [Bool.false_eq_true, if_false]
  refine wpAny_bind (wpAny_holding (wpAny_pyIter_tuple ht ?_))
  refine wpAny_bind (wpAny_holding (wpAny_draw_tuple hlt items.size 0 _ _ ⟨_, Heap.get?_push_size _ rfl, rfl, rfl⟩ (ht.push _) (by omega) fun h₁ hit₁ hs₁ => ?_))
  have hall : List.take items.size (List.drop 0 items.toList) = items.toList := by
    rw [List.drop_zero]; exact List.take_of_length_le (by simp)
  rw [hall]
  rw [if_neg (by simp)]
  have ht₁ : h₁.IsTuple t items := (ht.push _).extBut hs₁.extBut hlt
  have hd₁ : Hd A h₁ := by
    rcases hh with hh | ⟨e, o', vs, hh, ho', hd', h2⟩
    · exact .inl hh
    · exact .inr ⟨e, o', vs, hh, hs₁.extBut e o' (Nat.ne_of_lt (Heap.lt_size ho')) (Heap.get?_push_of_some _ ho'), hd', h2⟩
  refine wpAny_bind (wpAny_holding (tuple_endH hd₁ hit₁ ht₁ (by simp) (fun e he => ?_) fun h₂ he₂ => ?_))
  · rcases hh with hh | ⟨e', o', vs, hh, ho', hd', h2⟩
    · rw [hh] at he; cases he
    · rw [hh] at he; cases he; exact Nat.ne_of_lt (Heap.lt_size ho')
  simp only [Option.isSome_none, Bool.false_eq_true, if_false]
  exact wpAny_pure (h h₂ fun b o hb e => he₂ b o hb (hs₁.extBut b o hb (Heap.get?_push_of_some _ e)))
end
end Mine


end
noncomputable section
set_option autoImplicit false
namespace Mine
open PySem

section
variable {C : Cx} {sc : Scope} {k : Nat}
theorem own_plain {I : Addr} {o : Obj} {n : String} {A : Around} {s : Shared} {t : Expr} {w : Value} {Q : Unit → Shared → Prop} {E : Value → Shared → Prop} (ho : s.heap.get? I = some o) (hc : o.cls = .type n)
    (hn : ["enumerate", "zip", "dict_itemiterator", "dict_reverseitemiterator", "odict_iterator", "itertools.zip_longest", "itertools.pairwise"].contains n = false) (q : Q () s) : wpAny (model C.prog C.w) A (letOwnedTupleGo t (.ref I) w) Q E s := by
  have fin : ∀ vs a, wpAny (model C.prog C.w) A (if (["enumerate", "zip", "dict_itemiterator", "dict_reverseitemiterator", "odict_iterator", "itertools.zip_longest", "itertools.pairwise"].contains n && (vs : Array Value)[0]? == some (rawInt a)) = true then (do rule "for.unpacks-the-owned-tuple"; updateField I 0 .none) else pure ()) Q E s := fun vs a => by
    rw [hn, Bool.false_and, if_neg Bool.false_ne_true]; exact wpAny_pure q
  unfold letOwnedTupleGo
  split
  · cases w <;> first | exact wpAny_pure q | skip
    refine wpAny_bind (wpAny_load ho ?_)
    rw [hc]
    cases hd : o.data <;> first | exact wpAny_pure q | exact fin _ _
  · cases w <;> first | exact wpAny_pure q | skip
    refine wpAny_bind (wpAny_load ho ?_)
    rw [hc]
    cases hd : o.data <;> first | exact wpAny_pure q | exact fin _ _
  · exact wpAny_pure q

theorem AOk.hd {A : Around} {σ : View} {s : Shared} (ao : AOk C A k) (O : C.Ok) (R : RelG C σ s) : Hd A s.heap := by
  cases z : C.held with
  | none => exact .inl (ao.none z)
  | some e =>
    obtain ⟨o, vs, h1, h2, h3⟩ := O.heldOk e z
    exact .inr ⟨e, o, vs, by rw [ao.handled, z]; rfl, R.base _ _ h1, h2, h3⟩
theorem AOk.ne {A : Around} {σ : View} {s : Shared} {I : Addr} {oI : Obj} {a b : Value} (ao : AOk C A k) (O : C.Ok) (R : RelG C σ s) (hI : s.heap.get? I = some oI) (hd : oI.data = .fields #[a, b]) : ∀ e, A.handled = some (.ref e) → e ≠ I := by
  rintro e he rfl
  rw [ao.handled] at he
  cases z : C.held with
  | none => rw [z] at he; cases he
  | some e' =>
    rw [z] at he; cases he
    obtain ⟨o, vs, h1, h2, h3⟩ := O.heldOk _ z
    have := R.base _ _ h1
    rw [hI] at this; cases this
    rw [hd] at h2; cases h2; cases h3
theorem it_list (O : C.Ok) (I a : Addr) (xs : List V) : It C k I xs (fun σ => σ a = some (.list xs)) (fun i h => h.IsListIter I a i) where
  frame := fun i h h' st kI _ => st.at kI
  live := fun i h ⟨o, ho, hc, hd⟩ => ⟨o, ho, (fun ⟨_, _, _, h2⟩ => by rw [hd] at h2; cases h2), (fun v h2 => by rw [hd] at h2; cases h2)⟩
  flds := fun i h ⟨o, ho, hc, hd⟩ o' ho' es ep z => by rw [ho] at ho'; cases ho'; rw [hd] at z; cases z
  next := fun A σ s i v Q E ao R inv st hv hQ => by
    obtain ⟨_, ws, h1, h2⟩ := R.view a _ inv
    obtain ⟨w, hw, hr⟩ := h2.get hv
    refine wpAny_pyNext_list_item st h1.isList (x := w) (by simpa using hw) fun h' st' hs' => hQ w h' s.toks (hr.keep ?_) st' hs'.extBut
    obtain ⟨o, ho, hc, hd⟩ := st
    exact fun b ob e ht => hs'.extBut b ob (by rintro rfl; rw [ho] at e; cases e; obtain ⟨_, _, _, h2⟩ := ht; rw [hd] at h2; cases h2) e
  done := fun A σ s Q E ao R inv st hQ => by
    obtain ⟨_, ws, h1, h2⟩ := R.view a _ inv
    obtain ⟨oI, hoI, _, hdI⟩ := id st
    exact list_endH (ao.hd O R) st h1.isList (by have := h2.length; simp [this]) (ao.ne O R hoI hdI) fun h' hx => hQ h' s.toks hx
  self := fun A s i Q E st q => wpAny_pyIter_listiter st q
  own := fun A s i t w Q E ⟨o, ho, hc, hd⟩ q => own_plain ho hc (by decide) q
theorem it_script (O : C.Ok) (I : Addr) : It C k I (C.ns.map .int) (fun _ => True) (fun i h => h.IsListIter I C.aS i) where
  frame := fun i h h' st kI _ => st.at kI
  live := fun i h ⟨o, ho, hc, hd⟩ => ⟨o, ho, (fun ⟨_, _, _, h2⟩ => by rw [hd] at h2; cases h2), (fun v h2 => by rw [hd] at h2; cases h2)⟩
  flds := fun i h ⟨o, ho, hc, hd⟩ o' ho' es ep z => by rw [ho] at ho'; cases ho'; rw [hd] at z; cases z
  next := fun A σ s i v Q E ao R inv st hv hQ => by
    obtain ⟨ws, h1, h2, h3⟩ := O.script
    rw [List.getElem?_map] at hv
    obtain ⟨n, hn, rfl⟩ := Option.map_eq_some_iff.mp hv
    obtain ⟨t, ht⟩ := h3 i n hn
    refine wpAny_pyNext_list_item st (h1.at fun o e => R.base _ _ e) (x := .int n t) (by simpa using ht) fun h' st' hs' => hQ _ h' s.toks (.int n t) st' hs'.extBut
  done := fun A σ s Q E ao R inv st hQ => by
    obtain ⟨ws, h1, h2, h3⟩ := O.script
    obtain ⟨oI, hoI, _, hdI⟩ := id st
    exact list_endH (ao.hd O R) st (h1.at fun o e => R.base _ _ e) (by simp at h2; simp [h2]) (ao.ne O R hoI hdI) fun h' hx => hQ h' s.toks hx
  self := fun A s i Q E st q => wpAny_pyIter_listiter st q
  own := fun A s i t w Q E ⟨o, ho, hc, hd⟩ q => own_plain ho hc (by decide) q
theorem it_tup (O : C.Ok) (I a : Addr) (vs : List V) (ws : List Value) : It C k I vs (fun _ => True) (fun i h => h.IsTupleIter I a i ∧ h.IsTuple a ws.toArray ∧ VRels C.aS h vs ws) where
  frame := fun i h h' st kI kt => ⟨st.1.at kI, let ⟨o, ho, hc, n, r⟩ := st.2.1; ⟨o, kt a o ho ⟨hc, _, n, r⟩, hc, n, r⟩, st.2.2.keep kt⟩
  live := fun i h ⟨⟨o, ho, hc, hd⟩, _⟩ => ⟨o, ho, (fun ⟨_, _, _, h2⟩ => by rw [hd] at h2; cases h2), (fun v h2 => by rw [hd] at h2; cases h2)⟩
  flds := fun i h ⟨⟨o, ho, hc, hd⟩, _⟩ o' ho' es ep z => by rw [ho] at ho'; cases ho'; rw [hd] at z; cases z
  next := fun A σ s i v Q E ao R inv st hv hQ => by
    obtain ⟨w, hw, hr⟩ := st.2.2.get hv
    obtain ⟨o, ho, hc, hd⟩ := id st.1
    have kt : ∀ h', Heap.SameBut I s.heap h' → TupKeep s.heap h' := fun h' hs' b ob e ht => hs'.extBut b ob (by rintro rfl; rw [ho] at e; cases e; obtain ⟨_, _, _, h2⟩ := ht; rw [hd] at h2; cases h2) e
    refine wpAny_pyNext_tuple_item st.1 st.2.1 (x := w) (by simpa using hw) fun h' st' hs' => hQ w h' s.toks (hr.keep (kt h' hs')) ⟨st', ?_, st.2.2.keep (kt h' hs')⟩ hs'.extBut
    obtain ⟨o, ho, hc, n, r⟩ := st.2.1
    exact ⟨o, kt h' hs' a o ho ⟨hc, _, n, r⟩, hc, n, r⟩
  done := fun A σ s Q E ao R inv st hQ => tuple_endH (ao.hd O R) st.1 st.2.1 (by have := st.2.2.length; simp [this]) (let ⟨_, hoI, _, hdI⟩ := st.1; ao.ne O R hoI hdI) fun h' hx => hQ h' s.toks hx
  self := fun A s i Q E st q => wpAny_pyIter_tupleiter st.1 q
  own := fun A s i t w Q E ⟨⟨o, ho, hc, hd⟩, _⟩ q => own_plain ho hc (by decide) q
noncomputable def signs (x : Str) : List V := x.cps.toList.map fun c => .str ⟨#[c]⟩
theorem it_str (hz : C.held = none) (I : Addr) (cls : String) (x : Str) (t : Tok) (hcls : cls = "str_ascii_iterator" ∨ cls = "str_iterator") : It C k I (signs x) (fun _ => True) (fun i h => h.IsStrIter I cls x t i) where
  frame := fun i h h' ⟨o, ho, r⟩ kI _ => ⟨o, kI o ho, r⟩
  live := fun i h ⟨o, ho, hc, hd⟩ => ⟨o, ho, (fun ⟨_, _, _, h2⟩ => by rw [hd] at h2; cases h2), (fun v h2 => by rw [hd] at h2; cases h2)⟩
  flds := fun i h ⟨o, ho, hc, hd⟩ o' ho' es ep z => by rw [ho] at ho'; cases ho'; rw [hd] at z; cases z
  next := fun A σ s i v Q E ao R inv st hv hQ => by
    unfold signs at hv
    rw [List.getElem?_map] at hv
    obtain ⟨c, hc, rfl⟩ := Option.map_eq_some_iff.mp hv
    rcases hcls with rfl | rfl
    · exact wpAny_pyNext_ascii_item st (c := c) (by simpa using hc) fun h' st' hs' => hQ _ h' _ (.str _ _) st' hs'.extBut
    · exact wpAny_pyNext_wide_item st (c := c) (by simpa using hc) fun h' st' hs' => hQ _ h' _ (.str _ _) st' hs'.extBut
  done := fun A σ s Q E ao R inv st hQ => by
    rcases hcls with rfl | rfl
    · exact wpAny_pyNext_ascii_end (ao.none hz) st (by simp [signs]) fun h' hx => hQ h' s.toks hx
    · exact wpAny_pyNext_wide_end (ao.none hz) st (by simp [signs]) fun h' hx => hQ h' s.toks hx
  self := fun A s i Q E st q => by
    rcases hcls with rfl | rfl
    · exact wpAny_pyIter_striter_ascii st q
    · exact wpAny_pyIter_striter_wide st q
  own := fun A s i t w Q E ⟨o, ho, hc, hd⟩ q => by
    rcases hcls with rfl | rfl
    · exact own_plain ho hc (by decide) q
    · exact own_plain ho hc (by decide) q
theorem it_dict (hz : C.held = none) (I d : Addr) (kvs : List (Str × V)) (ep : Nat) : It C k I (kvs.map fun p => .str p.1) (fun σ => σ d = some (.dict kvs ep)) (fun i h => h.IsKeyIter I d i kvs.length ep) where
  frame := fun i h h' st kI _ => st.at kI
  live := fun i h ⟨o, ho, hc, hd⟩ => ⟨o, ho, (fun ⟨_, _, _, h2⟩ => by rw [hd] at h2; cases h2), (fun v h2 => by rw [hd] at h2; cases h2)⟩
  flds := fun i h ⟨o, ho, hc, hd⟩ o' ho' es ep z => by rw [ho] at ho'; cases ho'; rw [hd] at z; cases z
  next := fun A σ s i v Q E ao R inv st hv hQ => by
    obtain ⟨_, kws, h1, h2⟩ := R.view d _ inv
    rw [List.getElem?_map] at hv
    obtain ⟨⟨key, u⟩, hku, rfl⟩ := Option.map_eq_some_iff.mp hv
    obtain ⟨w, hw, _⟩ := PRel.get h2 hku
    have st' : s.heap.IsKeyIter I d i kws.length ep := by rw [← h2.length]; exact st
    refine wpAny_pyNext_dict_item st' h1 hw fun kv h' hkey hit' hs' => hQ kv h' s.toks ?_ (by rw [h2.length]; exact hit') hs'.extBut
    cases kv with
    | str y t =>
      have : y = key := by simpa [strKind, Value.isStrOf] using hkey
      subst this; exact .str _ _
    | _ => simp [strKind, Value.isStrOf] at hkey
  done := fun A σ s Q E ao R inv st hQ => by
    obtain ⟨_, kws, h1, h2⟩ := R.view d _ inv
    have e : (kvs.map fun p : Str × V => V.str p.1).length = kws.length := by rw [List.length_map, h2.length]
    have st' : s.heap.IsKeyIter I d kws.length kws.length ep := by rw [← e]; simpa using st
    exact wpAny_pyNext_dict_end (ao.none hz) st' h1 (by simp) fun h' hx => hQ h' s.toks hx
  self := fun A s i Q E st q => wpAny_pyIter_keyiter st q
  own := fun A s i t w Q E ⟨o, ho, hc, hd⟩ q => own_plain ho hc (by decide) q
noncomputable def rangeL (a : Int) (n : Nat) : List V := (List.range n).map fun (i : Nat) => .int (a + i)
theorem it_range (hz : C.held = none) (I : Addr) (a : Int) (n : Nat) : It C k I (rangeL a n) (fun _ => True) (fun i h => IsRangeIter h I (a + (i : Nat) * 1) ((n : Int) - (i : Nat)) 1) where
  frame := fun i h h' st kI _ => kI _ st
  live := fun i h st => ⟨_, st, fun ⟨_, _, _, h2⟩ => by simp at h2, fun v h2 => by simp at h2⟩
  flds := fun i h st o' ho' es ep z => by rw [st] at ho'; cases ho'; cases z
  next := fun A σ s i v Q E ao R inv st hv hQ => by
    unfold rangeL at hv
    rw [List.getElem?_map] at hv
    obtain ⟨j, hj, rfl⟩ := Option.map_eq_some_iff.mp hv
    have hjn := List.getElem?_eq_some_iff.mp hj
    obtain ⟨hlt, hji⟩ := hjn
    simp at hji hlt
    subst hji
    refine wpAny_pyNext_range_item st (by omega) fun h' hit' hs' => ?_
    have e1 : a + ((i + 1 : Nat) : Int) * 1 = a + (i : Int) * 1 + 1 := by push_cast; omega
    have e2 : (n : Int) - ((i + 1 : Nat) : Int) = (n : Int) - (i : Int) - 1 := by push_cast; omega
    refine hQ _ h' _ ?_ (by rw [e1, e2]; exact hit') hs'.extBut
    rw [Int.mul_one]; exact .int _ _
  done := fun A σ s Q E ao R inv st hQ => wpAny_pyNext_range_end (ao.none hz) st (by simp [rangeL]) fun h' hx => hQ h' s.toks hx
  self := fun A s i Q E st q => wpAny_pyIter_rangeiter st q
  own := fun A s i t w Q E st q => own_plain st rfl (by decide) q

noncomputable def iterOf (ns : List Int) : V → View → (List V → (View → Prop) → View → Prop) → Prop
  | .str x, σ, Q => Q (signs x) (fun _ => True) σ
  | .tup vs, σ, Q => Q vs (fun _ => True) σ
  | .script, σ, Q => Q (ns.map .int) (fun _ => True) σ
  | .ref a, σ, Q => match σ a with
    | some (.list xs) => Q xs (fun σ => σ a = some (.list xs)) σ
    | some (.dict kvs ep) => Q (kvs.map fun p => .str p.1) (fun σ => σ a = some (.dict kvs ep)) σ
    | _ => False
  | _, _, _ => False
noncomputable def iOf (ns : List Int) (T : ET) : IT := fun m σ Q => T m σ fun v σ' => iterOf ns v σ' Q
theorem HI.of (O : C.Ok) (hz : C.held = none) {e : Expr} {T : ET} (he : HE C sc k e T) : HI C sc k e (iOf C.ns T) := by
  refine ⟨?_⟩; intro env A s m σ Q P E en ao R F q hP
  refine he.run env A s m σ _ _ E en ao R F q fun v w σ₁ s₁ hv R₁ S₁ q₁ => ?_
  have fr : s.heap.objs.size ≤ s₁.heap.objs.size := S₁.size
  have hn := R₁.freshNone (size_none s₁.heap)
  have Rp : ∀ o, RelG C σ₁ { s₁ with heap := s₁.heap.push o } := fun o => R₁.grow (tk := s₁.toks) push_old
  have Sp : ∀ o, Step no σ σ₁ s.heap (s₁.heap.push o) := fun o => S₁.trans .push
  cases hv with
  | none => exact q₁.elim
  | bool => exact q₁.elim
  | int => exact q₁.elim
  | ty => exact q₁.elim
  | str x t =>
    cases ha : x.cps.all (· < 128)
    · exact wpAny_pyIter_wide ha (hP _ _ _ _ σ₁ _ (it_str hz _ "str_iterator" x t (.inr rfl)) ⟨_, Heap.get?_push_size _ rfl, rfl, rfl⟩ fr hn (Rp _) (Sp _) q₁)
    · exact wpAny_pyIter_ascii ha (hP _ _ _ _ σ₁ _ (it_str hz _ "str_ascii_iterator" x t (.inl rfl)) ⟨_, Heap.get?_push_size _ rfl, rfl, rfl⟩ fr hn (Rp _) (Sp _) q₁)
  | script =>
    obtain ⟨ws, h1, h2, h3⟩ := O.script
    exact wpAny_pyIter_list (h1.at fun o e => R₁.base _ _ e) (hP _ _ _ _ σ₁ _ (it_script O _) ⟨_, Heap.get?_push_size _ rfl, rfl, rfl⟩ fr hn (Rp _) (Sp _) q₁)
  | tup ht hvs =>
    exact wpAny_pyIter_tuple ht (hP _ _ _ _ σ₁ _ (it_tup O _ _ _ _) ⟨⟨_, Heap.get?_push_size _ rfl, rfl, rfl⟩, ht.push _, hvs.keep fun _ _ e _ => push_old _ _ e⟩ fr hn (Rp _) (Sp _) q₁)
  | ref a =>
    simp only [iterOf] at q₁
    split at q₁
    · rename_i xs hx
      obtain ⟨_, ws, h1, h2⟩ := R₁.view a _ hx
      exact wpAny_pyIter_list h1.isList (hP _ _ _ _ σ₁ _ (it_list O _ a xs) ⟨_, Heap.get?_push_size _ rfl, rfl, rfl⟩ fr hn (Rp _) (Sp _) q₁)
    · rename_i kvs ep hx
      obtain ⟨_, kws, h1, h2⟩ := R₁.view a _ hx
      refine wpAny_pyIter_dict (O.noMods (R₁.apart a (by rw [hx]; simp))) h1 (hP _ _ _ _ σ₁ _ (it_dict hz _ a kvs ep) ⟨_, Heap.get?_push_size _ rfl, rfl, by rw [← h2.length]; rfl⟩ fr hn (Rp _) (Sp _) q₁)
    · exact q₁.elim
/-- a list, also while an exception is held -/
noncomputable def iList (T : ET) : IT := fun m σ Q => T m σ fun v σ' => ∃ a xs, v = .ref a ∧ σ' a = some (.list xs) ∧ Q xs (fun σ => σ a = some (.list xs)) σ'
theorem HI.list (O : C.Ok) {e : Expr} {T : ET} (he : HE C sc k e T) : HI C sc k e (iList T) := by
  refine ⟨?_⟩; intro env A s m σ Q P E en ao R F q hP
  refine he.run env A s m σ _ _ E en ao R F q fun v w σ₁ s₁ hv R₁ S₁ q₁ => ?_
  have fr : s.heap.objs.size ≤ s₁.heap.objs.size := S₁.size
  have hn := R₁.freshNone (size_none s₁.heap)
  obtain ⟨a, xs, rfl, hx, q₁⟩ := q₁
  cases hv
  obtain ⟨_, ws, h1, h2⟩ := R₁.view a _ hx
  exact wpAny_pyIter_list h1.isList (hP _ _ _ _ σ₁ _ (it_list O _ a xs) ⟨_, Heap.get?_push_size _ rfl, rfl, rfl⟩ fr hn (R₁.grow (tk := s₁.toks) push_old) (S₁.trans .push) q₁)
/-- range(n), range(a, b) -/
noncomputable def rangeOf : List V → View → (List V → (View → Prop) → View → Prop) → Prop
  | [.int n], σ, Q => (-(2 ^ 62) ≤ n ∧ n < 2 ^ 62) ∧ Q (rangeL 0 n.toNat) (fun _ => True) σ
  | [.int a, .int b], σ, Q => (-(2 ^ 62) ≤ a ∧ a < 2 ^ 62 ∧ -(2 ^ 62) ≤ b ∧ b < 2 ^ 62) ∧ Q (rangeL a (b - a).toNat) (fun _ => True) σ
  | _, _, _ => False
noncomputable def iRange (L : LT) : IT := fun m σ Q => L m σ fun vs σ' => rangeOf vs σ' Q
theorem HI.range (O : C.Ok) (hz : C.held = none) {np pos : Pos} {es : List Expr} {L : LT} (hl : HL C sc k es L) (hp : plainArgs es = true)
    (hn : sc.names.lookup (Str.ofString "range") = some .globalImplicit) (hg : C.mg (Str.ofString "range") = Option.none) (hb : C.mb (Str.ofString "range") = some (.type "range")) :
    HI C sc k (.Call (.Name (Str.ofString "range") np) es [] pos) (iRange L) := by
  refine ⟨?_⟩; intro env A s m σ Q P E en ao R F q hP
  refine wpAny_Call_NameR (Calls.Name_function_global en.k (en.of hn) (Calls.loadGlobal_builtin (mg := C.mg) (mb := C.mb) (by rw [en.globals]; exact O.g.keeps R.base) hg (by rw [en.builtins]; exact O.b.keeps R.base) hb ?_) (by decide))
  refine callWith_type (starEach_any hp) (evalArgs_of hp (hl.run env A s m σ pos _ _ E en ao R F q fun vs ws σ₁ s₁ hv R₁ S₁ q₁ => ?_))
  have fr : s.heap.objs.size ≤ s₁.heap.objs.size + 1 := Nat.le_succ_of_le S₁.size
  have hσ : σ₁ (s₁.heap.objs.size + 1) = Option.none := R₁.freshNone (get_none_of_size (Nat.le_succ _))
  have go : ∀ (a b : Int) (o : Obj) (tk : Nat) (t u v : Tok), -(2 ^ 62) ≤ a → a < 2 ^ 62 → -(2 ^ 62) ≤ b → b < 2 ^ 62 → o = { cls := .type "range", data := .fields #[.int a t, .int b u, .int 1 v] } → Q (rangeL a (b - a).toNat) (fun _ => True) σ₁ →
      wpAny (model C.prog C.w) A (pyIter (.ref s₁.heap.objs.size)) P E { s₁ with heap := s₁.heap.push o, toks := tk } := by
    rintro a b o tk t u v h1 h2 h3 h4 rfl q₁
    refine wpAny_pyIter_range (IsRange.new ..) (small_one h1 h2 h3 h4) ?_
    have hsz : Builtin.Range.rangeSize a b 1 = ((b - a).toNat : Int) := by rw [rangeSize_one]; split <;> omega
    have hit := it_range (C := C) (k := k) hz (s₁.heap.objs.size + 1) a (b - a).toNat
    have R₂ : RelG C σ₁ { s₁ with heap := (s₁.heap.push { cls := .type "range", data := .fields #[.int a t, .int b u, .int 1 v] }).push { cls := .type "range_iterator", data := .fields #[rawInt a, rawInt (Builtin.Range.rangeSize a b 1), rawInt 1] }, toks := tk } :=
      R₁.grow fun _ _ e => push_old _ _ (push_old _ _ e)
    have e := Heap.get?_push_size (s₁.heap.push { cls := .type "range", data := .fields #[.int a t, .int b u, .int 1 v] }) (o := { cls := .type "range_iterator", data := .fields #[rawInt a, rawInt (Builtin.Range.rangeSize a b 1), rawInt 1] }) rfl
    rw [Heap.size_push] at e
    have this := hP _ _ _ _ σ₁ _ hit (by
        show IsRangeIter ((s₁.heap.push { cls := .type "range", data := .fields #[.int a t, .int b u, .int 1 v] }).push { cls := .type "range_iterator", data := .fields #[rawInt a, rawInt (Builtin.Range.rangeSize a b 1), rawInt 1] }) _ _ _ _
        unfold IsRangeIter
        rw [e, hsz]; simp) fr hσ R₂ ((S₁.trans .push).trans .push) q₁
    rw [Heap.size_push]
    exact this
  show wpAny _ A (PySem.call (.type "range") ([] ++ ws)) _ _ _
  rw [List.nil_append]
  unfold rangeOf at q₁
  split at q₁
  · cases hv with | cons h1 r => cases r with | nil => cases h1 with | int n t =>
      refine call_range_1 (go 0 _ _ _ _ _ _ (by decide) (by decide) q₁.1.1 q₁.1.2 rfl ?_)
      rw [Int.sub_zero]; exact q₁.2
  · cases hv with | cons h1 r => cases r with | cons h2 r => cases r with | nil => cases h1 with | int a t => cases h2 with | int b u =>
      exact call_range_2 (go _ _ _ _ _ _ _ q₁.1.1 q₁.1.2.1 q₁.1.2.2.1 q₁.1.2.2.2 rfl q₁.2)
  · exact q₁.elim
end
end Mine


end
noncomputable section
set_option autoImplicit false
namespace Mine
open PySem

/- the closure of a comprehension -/
noncomputable def clo (cells : List (Str × Addr)) : List (Str × NameKind) → List (Str × Addr) → List (Str × Addr)
  | [], acc => acc
  | (n, q) :: r, acc => if q == .free then clo cells r ((n, (cells.lookup n).getD 0) :: acc) else clo cells r acc
theorem closure_eq {env : Env} {scope : Scope} (h : ∀ p ∈ scope.names, p.2 = .free → ∃ c, env.cells.lookup p.1 = some c) : closureFor scope env = pure (clo env.cells scope.names []) := by
  unfold closureFor
  have key : ∀ (l : List (Str × NameKind)) (acc : List (Str × Addr)), (∀ p ∈ l, p.2 = .free → ∃ c, env.cells.lookup p.1 = some c) →
      (forIn l acc fun p r => (if (p.2 == NameKind.free) = true then do let c ← cellOf env p.1; pure (ForInStep.yield ((p.1, c) :: r)) else pure (ForInStep.yield r) : Sem (ForInStep (List (Str × Addr))))) = pure (clo env.cells l acc) := by
    intro l
    induction l with
    | nil => intro acc _; rfl
    | cons p r ih =>
      intro acc hp
      rw [List.forIn_cons]
      obtain ⟨n, q⟩ := p
      unfold clo
      cases hq : (q == NameKind.free) with
      | true =>
        obtain ⟨c, hc⟩ := hp (n, q) (.head _) (by simpa using hq)
        simp only [cellOf, hc, if_true, pure_bind, Option.getD_some]
        exact ih _ fun p hp' => hp p (.tail _ hp')
      | false =>
        simp only [Bool.false_eq_true, if_false, pure_bind]
        exact ih _ fun p hp' => hp p (.tail _ hp')
  have := key scope.names [] h
  simpa using congrArg (fun t => t >>= fun cs => (pure cs : Sem _)) this
theorem clo_lookup {cells : List (Str × Addr)} : ∀ (l : List (Str × NameKind)) (acc : List (Str × Addr)), (∀ p ∈ l, p.2 = .free → ∃ c, cells.lookup p.1 = some c) → ∀ n,
    ((clo cells l acc).lookup n = if (n, NameKind.free) ∈ l then cells.lookup n else acc.lookup n)
  | [], acc, _, n => by simp [clo]
  | (y, q) :: r, acc, h, n => by
    unfold clo
    have ih := fun acc => clo_lookup r acc (fun p hp => h p (.tail _ hp)) n
    cases hq : (q == NameKind.free) with
    | true =>
      have hq' : q = .free := by simpa using hq
      obtain ⟨c, hc⟩ := h (y, q) (.head _) hq'
      rw [if_pos rfl, ih]
      subst hq'
      by_cases hr : (n, NameKind.free) ∈ r
      · simp [hr]
      · rw [if_neg hr]
        by_cases hy : n = y
        · subst hy; simp [hc]
        · have : (n == y) = false := by simp [hy]
          simp [hr, hy, List.lookup_cons, this]
    | false =>
      have hq' : q ≠ .free := by simpa using hq
      rw [if_neg Bool.false_ne_true, ih]
      have : ((n, NameKind.free) ∈ (y, q) :: r) ↔ (n, NameKind.free) ∈ r := by simp [Ne.symm hq']
      simp [this]
theorem clo_dist {cells : List (Str × Addr)} (hd : cells.Pairwise fun x y => x.2 ≠ y.2) : ∀ (l : List (Str × NameKind)) (acc : List (Str × Addr)), (∀ p ∈ l, p.2 = .free → ∃ c, cells.lookup p.1 = some c) → (l.map (·.1)).Nodup →
    (∀ p ∈ acc, cells.lookup p.1 = some p.2 ∧ p.1 ∉ l.map (·.1)) → acc.Pairwise (fun x y => x.2 ≠ y.2) → (clo cells l acc).Pairwise fun x y => x.2 ≠ y.2
  | [], acc, _, _, _, h => by simpa [clo] using h
  | (y, q) :: r, acc, h, hn, ha, hp => by
    unfold clo
    rw [List.map_cons, List.nodup_cons] at hn
    cases hq : (q == NameKind.free) with
    | true =>
      obtain ⟨c, hc⟩ := h (y, q) (.head _) (by simpa using hq)
      rw [if_pos rfl]
      refine clo_dist hd r _ (fun p hp => h p (.tail _ hp)) hn.2 ?_ ?_
      · intro p hp'
        rcases List.mem_cons.mp hp' with rfl | hp'
        · exact ⟨by simp [hc], hn.1⟩
        · exact ⟨(ha p hp').1, fun z => (ha p hp').2 (.tail _ z)⟩
      · refine List.pairwise_cons.mpr ⟨fun p hp' e => ?_, hp⟩
        rw [hc] at e
        simp only [Option.getD_some] at e
        have := name_of_addr hd (mem_of_lookup hc) (mem_of_lookup (e ▸ (ha p hp').1))
        exact (ha p hp').2 (by rw [← this]; exact .head _)
    | false =>
      rw [if_neg Bool.false_ne_true]
      exact clo_dist hd r acc (fun p hp => h p (.tail _ hp)) hn.2 (fun p hp' => ⟨(ha p hp').1, fun z => (ha p hp').2 (.tail _ z)⟩) hp

/-- the table of a comprehension, as its body sees it -/
noncomputable def rkind (sc : Scope) (n : Str) (q : NameKind) : NameKind := if (q == .free && sc.kind == .function && sc.names.lookup n == some .cell) then .cell else q
noncomputable def relS (sc scope : Scope) : Scope := { scope with names := scope.names.map fun p => (p.1, rkind sc p.1 p.2) }
theorem relabel_eq {cs : Scope} {env : Env} : relabel cs env = relS env.scope cs := by
  unfold relabel relS Env.kindOf rkind
  congr 1
  refine List.map_congr_left fun p _ => ?_
  obtain ⟨n, q⟩ := p
  dsimp only
  split <;> rfl
theorem lookup_rel {sc : Scope} : ∀ (l : List (Str × NameKind)) (n : Str), (l.map fun p => (p.1, rkind sc p.1 p.2)).lookup n = (l.lookup n).map (rkind sc n)
  | [], n => rfl
  | (y, q) :: r, n => by
    rw [List.map_cons, List.lookup_cons, List.lookup_cons]
    by_cases hy : n = y
    · subst hy; simp
    · have hb : (n == y) = false := by simp [hy]
      simp only [hb]
      exact lookup_rel r n
theorem relS_free {sc : Scope} {l : List (Str × NameKind)} {n : Str} (h : l.lookup n = some .free) : (l.map fun p => (p.1, rkind sc p.1 p.2)).lookup n = some .cell ∨ (l.map fun p => (p.1, rkind sc p.1 p.2)).lookup n = some .free := by
  rw [lookup_rel, h, Option.map_some]
  unfold rkind
  split
  · exact .inl rfl
  · exact .inr rfl
theorem relS_cell {sc : Scope} {l : List (Str × NameKind)} {n : Str} (h : (l.map fun p => (p.1, rkind sc p.1 p.2)).lookup n = some .cell) : (n, NameKind.free) ∈ l ∨ (n, NameKind.cell) ∈ l := by
  rw [lookup_rel] at h
  obtain ⟨q, hq, e⟩ := Option.map_eq_some_iff.mp h
  unfold rkind at e
  split at e
  · rename_i hc
    have : q = .free := by simp at hc; exact hc.1.1
    subst this
    exact .inl (mem_of_lookup hq)
  · subst e; exact .inr (mem_of_lookup hq)

theorem relS_freeInv {sc : Scope} {l : List (Str × NameKind)} {n : Str} (h : (l.map fun p => (p.1, rkind sc p.1 p.2)).lookup n = some .free) : (n, NameKind.free) ∈ l := by
  rw [lookup_rel] at h
  obtain ⟨q, hq, e⟩ := Option.map_eq_some_iff.mp h
  unfold rkind at e
  split at e
  · cases e
  · subst e; exact mem_of_lookup hq

section
variable {C : Cx} {sc : Scope} {k : Nat}
/-- the tests of a comprehension -/
structure HTs (C : Cx) (sc : Scope) (k : Nat) (ifs : List Expr) (B : BT) : Prop where
  run : ∀ (env : Env) (A : Around) (s : Shared) (m : Loc) (σ : View) (Q : Bool → View → Prop) (P : Bool → Shared → Prop) (E : Value → Shared → Prop),
    EnvOk env sc → AOk C A k → RelG C σ s → FrameRel C env m σ s.heap → B m σ Q →
    (∀ b σ' s', RelG C σ' s' → Step no σ σ' s.heap s'.heap → Q b σ' → P b s') →
    wpAny (model C.prog C.w) A (forIn ifs true fun c r => if r = true then do let ok ← isTrue c env (eval c env); pure (ForInStep.yield ok) else pure (ForInStep.yield r)) P E s
theorem HTs.one {c : Expr} {B : BT} (h : HB C sc k c B) : HTs C sc k [c] B := ⟨fun env A s m σ Q P E en ao R F q hP => wpAny_tests_one (h.run env A s m σ Q P E en ao R F q hP)⟩

noncomputable def only (fv : List String) (m : Loc) : Loc := fun x => if x ∈ fv then m x else Option.none
noncomputable def compL (g : Tgt) (inv : View → Prop) (B : BT) (T : ET) (m : Loc) : List V → List V → View → (List V → View → Prop) → Prop
  | [], acc, σ, Q => inv σ ∧ Q acc σ
  | v :: r, acc, σ, Q => inv σ ∧ ∃ m', bindT g v m = some m' ∧ B m' σ fun b σ₁ => if b then T m' σ₁ fun y σ₂ => acc.length < 1048576 ∧ compL g inv B T m r (acc ++ [y]) σ₂ Q else compL g inv B T m r acc σ₁ Q
noncomputable def eComp (fv : List String) (g : Tgt) (I : IT) (B : BT) (T : ET) : ET := fun m σ Q => I m σ fun items inv σ' => compL g inv B T (only fv m) items [] σ' fun ys σ'' => newL ys σ'' Q
noncomputable def Tgt.names : Tgt → List String
  | .name x => [x]
  | .tup xs => xs
theorem bindM_other : ∀ (xs : List String) (vs : List V) (m : Loc) (y : String), y ∉ xs → bindM xs vs m y = m y
  | [], _, _, _, _ => by simp [bindM]
  | x :: xs, [], _, _, _ => by simp [bindM]
  | x :: xs, v :: vs, m, y, h => by
    simp only [bindM]
    rw [bindM_other xs vs _ y (fun z => h (.tail _ z))]
    exact put_ne (fun z => h (by rw [z]; exact .head _))
theorem bindT_other {g : Tgt} {v : V} {m m' : Loc} (h : bindT g v m = some m') {y : String} (hy : y ∉ g.names) : m' y = m y := by
  cases g with
  | name x => cases h; exact put_ne (fun z => hy (by simp [Tgt.names, z]))
  | tup xs =>
    cases v <;> simp [bindT] at h
    obtain ⟨_, rfl⟩ := h
    exact bindM_other _ _ _ _ hy
theorem FrameRel.weaken {env : Env} {m m' : Loc} {σ : View} {h : Heap} (F : FrameRel C env m' σ h) (hw : ∀ x v, m x = some v → m' x = some v) : FrameRel C env m σ h :=
  ⟨let ⟨mm, h1, h2⟩ := F.ns; ⟨mm, h1, fun x v e q => h2 x v (hw x v e) q⟩, fun x v e => F.cel x v (hw x v e), F.cells, F.sepL, F.baseL, F.baseC, F.dist, F.has⟩

/-- one turn of a comprehension's loop, the target any -/
theorem compLoop_any {A : Around} {R : Result → Shared → Prop} {s : Shared} {elt target iter : Expr} {ifs : List Expr} {scope : Scope} {pos : Pos} {it acc : Value} {env : Env} (I : Nat → Shared → Prop)
    (turn : ∀ n s, I n s → wpAny (model C.prog C.w) A (pyNext it) (fun r s₁ => match r with
      | Option.none => R (.ok .next) s₁
      | some v => wpAny (model C.prog C.w) A (letOwnedTupleGo target it v) (fun _ s₁' => wpAny (model C.prog C.w) A (assign target env v) (fun _ s₂ =>
          wpAny (model C.prog C.w) A (forIn ifs true fun c r => if r = true then do let ok ← isTrue c env (eval c env); pure (ForInStep.yield ok) else pure (ForInStep.yield r)) (fun ok s₃ =>
            if ok = true then wpAny (model C.prog C.w) A (eval elt env) (fun x s₄ =>
              wpAny (model C.prog C.w) A (call (.builtin "list.append") [acc, x]) (fun _ s₅ => ∃ m, m < n ∧ I m s₅) (notedBy (model C.prog C.w) A env fun e s' => R (.error e) s') s₄) (notedBy (model C.prog C.w) A env fun e s' => R (.error e) s') s₃
            else ∃ m, m < n ∧ I m s₃) (notedBy (model C.prog C.w) A env fun e s' => R (.error e) s') s₂) (notedBy (model C.prog C.w) A env fun e s' => R (.error e) s') s₁') (notedBy (model C.prog C.w) A env fun e s' => R (.error e) s') s₁) (notedBy (model C.prog C.w) A env fun e s' => R (.error e) s') s)
    (n : Nat) (h : I n s) : codeAny (model C.prog C.w) A (.compLoop (.ListComp elt [⟨target, iter, ifs, 0⟩] scope pos) 0 it acc env) R s := by
  refine codeAny_loop rfl I (fun n s hI => ?_) n h
  show wpAny _ A ((compTurn (.ListComp elt [⟨target, iter, ifs, 0⟩] scope pos) 0 it acc env).onRaise (fun x => do noteFrame x env; theTreesLotGoes x)) _ _ s
  refine wpAny_noted ?_
  rw [compTurn_list]
  refine wpAny_bind (wpAny_standAt (wpAny_bind (wpAny_mono (turn n s hI) (fun r s₁ h₁ => ?_) fun _ _ h' => h')))
  cases r with
  | none => exact wpAny_pure h₁
  | some v =>
    refine wpAny_bind (wpAny_mono h₁ (fun _ s₁' h₁' => ?_) fun _ _ h' => h')
    refine wpAny_bind (wpAny_mono h₁' (fun _ s₂ h₂ => wpAny_bind (wpAny_mono h₂ (fun ok s₃ h₃ => ?_) fun _ _ h' => h')) fun _ _ h' => h')
    cases ok with
    | false => exact wpAny_pure ⟨rfl, h₃⟩
    | true => exact wpAny_bind (wpAny_bind (wpAny_mono h₃ (fun x s₄ h₄ => wpAny_bind (wpAny_mono h₄ (fun _ s₅ h₅ => wpAny_pure (wpAny_pure ⟨rfl, h₅⟩)) fun _ _ h' => h')) fun _ _ h' => h'))

/-- the side facts of a comprehension's tables -/
structure CompOk (sc cs : Scope) (fv : List String) (g : Tgt) : Prop where
  kind : cs.kind = .function
  nocell : ∀ y ∈ cs.names, y.2 ≠ .cell
  names : ∀ y ∈ cs.names, y.2 = .local → cs.names.lookup y.1 = some .local
  nodup : (cs.names.map (·.1)).Nodup
  frees : ∀ p ∈ cs.names, p.2 = .free → ∃ x ∈ fv, Str.ofString x = p.1
  frs : ∀ x ∈ fv, (Str.ofString x, NameKind.free) ∈ cs.names ∧ (sc.names.lookup (Str.ofString x) = some .cell ∨ sc.names.lookup (Str.ofString x) = some .free)
  tgt : ∀ x ∈ g.names, x ∉ fv
/-- every cell of the table is there -/
noncomputable def FrameHas (env : Env) (x : String) : Prop := ∃ c, env.cells.lookup (Str.ofString x) = some c

theorem mem_lookup_nodup {α : Type} : ∀ {l : List (Str × α)} {n : Str} {c : α}, (l.map (·.1)).Nodup → (n, c) ∈ l → l.lookup n = some c
  | p :: r, n, c, hn, hm => by
    rw [List.map_cons, List.nodup_cons] at hn
    rcases List.mem_cons.mp hm with e | hm
    · subst e; simp
    · have : n ≠ p.1 := fun e => hn.1 (e ▸ List.mem_map_of_mem hm)
      rw [List.lookup_cons, show (n == p.1) = false by simp [this]]
      exact mem_lookup_nodup hn.2 hm

/-- the body of a comprehension, from the made iterator on -/
theorem plain_nd {h : Heap} {a : Addr} {xs : Array Value} (hp : h.PlainList a xs) (o : Obj) (e : h.get? a = some o) : ∀ es ep, o.data ≠ .dict es ep := by
  obtain ⟨n, hn⟩ := hp
  rw [hn] at e; cases e
  intro es ep z; cases z
/-- where a comprehension stands -/
inductive CompInv (C : Cx) (cenv : Env) (σ₂ : View) (h : Heap) (I H : Addr) (m : Loc) (items : List V) (St : Nat → Heap → Prop) (L : List V → List V → View → Prop) (n : Nat) (s' : Shared) : Prop
  | mk (i : Nat) (ys : List V) (ws : List Value) (σ' : View) (rest : List V) (e1 : items.drop i = rest) (e2 : i ≤ items.length) (e3 : n = rest.length + 1) (st : St i s'.heap) (hI : σ' I = Option.none) (hD : σ' h.objs.size = Option.none) (R : RelG C σ' s')
      (F : FrameRel C cenv m σ' s'.heap) (hp : s'.heap.PlainList h.objs.size (List.toArray ws)) (hv : VRels C.aS s'.heap ys ws) (hl : ys.length ≤ 1048576) (S : Step (fun b => b = I ∨ b = h.objs.size ∨ b = H) σ₂ σ' h s'.heap) (q : L rest ys σ') : CompInv C cenv σ₂ h I H m items St L n s'
theorem comp_core {env : Env} {A : Around} {s₀ s₂ : Shared} {m : Loc} {σ₀ σ₂ : View} {elt iter target : Expr} {ifs : List Expr} {cs : Scope} {pos : Pos} {fv : List String} {g : Tgt} {B : BT} {T : ET} {I : Addr} {items : List V} {inv : View → Prop} {St : Nat → Heap → Prop}
    {Q : List V → View → Prop} {RR : Value → Addr → Result → Shared → Prop} {E : Value → Shared → Prop}
    (ok : CompOk sc cs fv g) (hhas : ∀ x ∈ fv, FrameHas env x) (ht : HT C (relS sc cs) k true target g) (hB : HTs C (relS sc cs) k ifs B) (hT : HE C (relS sc cs) k elt T)
    (en : EnvOk env sc) (ao : AOk C A k) (R₀ : RelG C σ₀ s₀) (S : Step no σ₀ σ₂ s₀.heap s₂.heap) (R₂ : RelG C σ₂ s₂) (F : FrameRel C env m σ₂ s₂.heap) (hit : It C k I items inv St) (st : St 0 s₂.heap) (hI : s₀.heap.objs.size ≤ I) (hσI : σ₂ I = Option.none)
    (q : compL g inv B T (only fv m) items [] σ₂ Q)
    (hRR : ∀ D C' ys ws mm σ' s', Heap.Ns s'.heap C' mm → s₂.heap.objs.size ≤ C' → s₂.heap.objs.size ≤ D → D ≠ C' → σ' D = Option.none → σ' C' = Option.none → s'.heap.PlainList D (List.toArray ws) → VRels C.aS s'.heap ys ws → RelG C σ' s' →
      ys.length ≤ 1048576 → Step no σ₀ σ' s₀.heap s'.heap → Step (fun b => b = I) σ₂ σ' s₂.heap s'.heap → Q ys σ' → RR (.ref D) C' (.ok .next) s') :
    wpAny (model C.prog C.w) A (newList []) (fun acc s₃ => wpAny (model C.prog C.w) A (newFunctionEnv cs env.globals (clo env.cells cs.names []) [] env.qual Option.none .none (some env)) (fun cenv s₄ =>
      codeAny (model C.prog C.w) A (.compStart (.ListComp elt [⟨target, iter, ifs, 0⟩] cs pos) 0 (.ref I) acc { cenv with scope := relabel cs env }) (RR acc cenv.locals) s₄) E s₃) E s₂ := by
  have hfree : ∀ p ∈ cs.names, p.2 = .free → ∃ c, env.cells.lookup p.1 = some c := fun p hp hq => by
    obtain ⟨x, hx, e⟩ := ok.frees p hp hq
    rw [← e]; exact hhas x hx
  refine wpAny_newObj_type (wpAny_newFunctionEnv ok.nocell (by intro y hy; simp at hy) (fun h₁ hns₁ hsb₁ => ?_) ok.kind)
  dsimp only at hns₁ hsb₁ ⊢
  generalize hH2 : s₂.heap.push { cls := .type "list", dict := Option.none, data := .seq ([] : List Value).toArray } = H2 at hns₁ hsb₁ ⊢
  have hC : H2.objs.size = s₂.heap.objs.size + 1 := by rw [← hH2, Heap.size_push]
  have hDC : s₂.heap.objs.size ≠ H2.objs.size := by rw [hC]; exact Nat.ne_of_lt (Nat.lt_succ_self _)
  have old : ∀ b o, s₂.heap.get? b = some o → h₁.get? b = some o := fun b o e => hsb₁.extBut b o (by rw [hC]; exact Nat.ne_of_lt (Nat.lt_succ_of_lt (Heap.lt_size e))) (Heap.get?_push_of_some _ (hH2 ▸ Heap.get?_push_of_some _ e))
  have hacc : h₁.PlainList s₂.heap.objs.size (List.toArray []) := ⟨_, hsb₁.extBut _ _ hDC (Heap.get?_push_of_some _ (hH2 ▸ Heap.get?_push_size _ rfl))⟩
  have hsz₁ : h₁.objs.size = s₂.heap.objs.size + 2 := by rw [hsb₁.1, Heap.size_push, hC]
  have R₁ : RelG C σ₂ { s₂ with heap := h₁, toks := s₂.toks + ([] : List (Str × Value)).length } := R₂.grow old
  have cl := clo_lookup (cells := env.cells) cs.names [] hfree
  have kindF : ∀ x ∈ fv, (relS sc cs).names.lookup (Str.ofString x) = some .cell ∨ (relS sc cs).names.lookup (Str.ofString x) = some .free := fun x hx =>
    relS_free (mem_lookup_nodup ok.nodup (ok.frs x hx).1)
  have hLC : (compEnvC cs (clo env.cells cs.names []) H2.objs.size env).locals = H2.objs.size := rfl
  have eS : (compEnvC cs (clo env.cells cs.names []) H2.objs.size env).scope = relS sc cs := by show relabel cs env = _; rw [relabel_eq, en.scope]
  have eCl : (compEnvC cs (clo env.cells cs.names []) H2.objs.size env).cells = clo env.cells cs.names [] := rfl
  have enC : EnvOk (compEnvC cs (clo env.cells cs.names []) H2.objs.size env) (relS sc cs) := ⟨eS, ok.kind, en.globals, en.builtins⟩
  have memF : ∀ n c, (clo env.cells cs.names []).lookup n = some c → (n, NameKind.free) ∈ cs.names ∧ env.cells.lookup n = some c := fun n c e => by
    rw [cl n] at e
    split at e
    · exact ⟨by assumption, e⟩
    · simp at e
  have kc : ∀ c v, s₂.heap.IsCell c v → h₁.IsCell c v := fun c v ⟨o, ho, hd⟩ => ⟨o, old c o ho, hd⟩
  have F₁ : FrameRel C (compEnvC cs (clo env.cells cs.names []) H2.objs.size env) (only fv m) σ₂ h₁ := by
    refine ⟨⟨_, hns₁, fun x v e kx => ?_⟩, fun x v e => ?_, fun n c e => ?_, R₂.freshNone (get_none_of_size (by rw [hLC, hC]; exact Nat.le_succ _)), R₂.baseNone (get_none_of_size (by rw [hLC, hC]; exact Nat.le_succ _)), fun n c e => ?_, ?_, fun n e => ?_⟩
    · unfold only at e
      split at e
      · rename_i hx
        rcases kindF x hx with z | z <;> (rw [enC.of z] at kx; cases kx)
      · cases e
    · unfold only at e
      split at e
      · rename_i hx
        rcases F.cel x v e with z | ⟨z, c, w, h1, h2, h3⟩
        · exfalso
          rcases (ok.frs x hx).2 with y | y <;> (rw [en.of y] at z; cases z)
        · refine .inr ⟨?_, c, w, ?_, kc _ _ h2, h3.keep fun b o e _ => old b o e⟩
          · exact (kindF x hx).imp (fun z => enC.of z) fun z => enC.of z
          · rw [eCl, cl, if_pos (ok.frs x hx).1]; exact h1
      · cases e
    · obtain ⟨v, hv⟩ := F.cells n c (memF n c e).2
      exact ⟨v, kc _ _ hv⟩
    · exact F.baseC n c (memF n c e).2
    · exact clo_dist F.dist cs.names [] hfree ok.nodup (fun p hp => by cases hp) List.Pairwise.nil
    · have go : (n, NameKind.free) ∈ cs.names → ∃ c, (clo env.cells cs.names []).lookup n = some c := fun z => by
        obtain ⟨c, hc⟩ := hfree _ z rfl
        exact ⟨c, by rw [cl, if_pos z]; exact hc⟩
      rcases e with e | e
      · have e' : (relS sc cs).names.lookup n = some .cell := by unfold Env.kindOf at e; rw [eS] at e; exact e
        rcases relS_cell e' with z | z
        · exact go z
        · exact absurd rfl (ok.nocell _ z)
      · have e' : (relS sc cs).names.lookup n = some .free := by unfold Env.kindOf at e; rw [eS] at e; exact e
        exact go (relS_freeInv e')
  have hI2 : I < s₂.heap.objs.size := by obtain ⟨o, ho, _⟩ := hit.live _ _ st; exact Heap.lt_size ho
  have st₁ : St 0 h₁ := hit.frame _ _ _ st (fun o e => old I o e) (fun b o e _ => old b o e)
  have S₁ : Step (fun b => b = I ∨ b = s₂.heap.objs.size ∨ b = H2.objs.size) σ₂ σ₂ s₂.heap h₁ := .grow old (by rw [hsz₁]; exact Nat.le_of_not_lt fun hg => Mine.lin [(s₂.heap.objs.size)] [(1, (.a (.a (.v 0) (.n 2)) (.n 1)), (.v 0))] rfl hg)
  have hσD : σ₂ s₂.heap.objs.size = Option.none := R₂.freshNone (size_none _)
  have hIb : C.hB.get? I = Option.none := R₀.baseNone (get_none_of_size hI)
  have hIL : I ≠ H2.objs.size := by rw [hC]; exact Nat.ne_of_lt (Nat.lt_succ_of_lt hI2)
  have wk : ∀ {v m'}, bindT g v (only fv m) = some m' → ∀ x u, only fv m x = some u → m' x = some u := fun hb x u e => by
    rw [bindT_other hb]; exact e
    intro hx
    unfold only at e
    rw [if_neg (ok.tgt x hx)] at e; cases e
  have loop : ∀ s₃ : Shared, s₃ = { s₂ with heap := h₁, toks := s₂.toks + ([] : List (Str × Value)).length } →
      codeAny (model C.prog C.w) A (.compLoop (.ListComp elt [⟨target, iter, ifs, 0⟩] cs pos) 0 (.ref I) (.ref s₂.heap.objs.size) (compEnvC cs (clo env.cells cs.names []) H2.objs.size env)) (RR (.ref s₂.heap.objs.size) H2.objs.size) s₃ := by
    rintro s₃ rfl
    generalize compEnvC cs (clo env.cells cs.names []) H2.objs.size env = cenv at hLC eS eCl enC F₁ ⊢
    refine compLoop_any
      (CompInv C cenv σ₂ s₂.heap I H2.objs.size (only fv m) items St fun rest ys σ' => compL g inv B T (only fv m) rest ys σ' Q) ?_ _
      ⟨0, [], [], σ₂, items, by simp, by simp, rfl, st₁, hσI, hσD, R₁, F₁, hacc, .nil, by simp, S₁, q⟩
    rintro n s' ⟨i, ys, ws, σ', rest, e1, e2, rfl, st', hσ', hσD', R', F', hp', hv', hl', S', q'⟩
    have nT : ∀ o, s'.heap.get? s₂.heap.objs.size = some o → ¬ IsT o ∧ ∀ v, o.data ≠ .cell v := fun o ho => by
      obtain ⟨n, hn⟩ := hp'; rw [hn] at ho; cases ho; exact ⟨by simp [IsT], by simp⟩
    have drew : ∀ {h' : Heap}, Heap.ExtBut I s'.heap h' → s'.heap.objs.size ≤ h'.objs.size → Step (fun b => b = I ∨ b = s₂.heap.objs.size ∨ b = H2.objs.size) σ' σ' s'.heap h' := fun hx hsz =>
      .of (fun b o e _ q => hx b o (fun z => q (.inl z)) e) hsz fun _ a b => absurd a b
    have ktI : ∀ {h' : Heap}, Heap.ExtBut I s'.heap h' → TupKeep s'.heap h' := fun hx b o e ht => hx b o (by
      rintro rfl; obtain ⟨oI, hoI, hT, _⟩ := hit.live _ _ st'; rw [hoI] at e; cases e; exact hT ht) e
    cases rest with
    | nil =>
      have hil : i = items.length := by
        have := congrArg List.length e1
        simp at this; omega
      subst hil
      refine with_size (hit.done A σ' s' _ _ ao R' q'.1 st' fun h' tk hx hsz => ?_)
      have R₃ := draw_rel (tk := tk) R' hx hσ' hIb (hit.live _ _ st')
      have F₃ := draw_frame F' hx (hit.live _ _ st') (by rw [hLC]; exact hIL)
      have S₃ := S'.trans (drew hx hsz)
      obtain ⟨mm, hmm, _⟩ := F₃.ns
      rw [hLC] at hmm
      have sep := F₃.sepL
      rw [hLC] at sep
      refine hRR _ _ ys ws mm σ' _ hmm (by rw [hC]; exact Nat.le_succ _) (Nat.le_refl _) hDC hσD' sep (hp'.extBut hx (Nat.ne_of_gt hI2)) (hv'.keep (ktI hx)) R₃ hl' (((S.mono fun _ _ _ z => z.elim).trans S₃).mono fun b o e z => ?_) (S₃.mono fun b o e z => ?_) q'.2
      · have := Heap.lt_size e
        have hh := S.size
        rcases z with z | z | z
        · exact absurd this (by rw [z]; exact Nat.not_lt.mpr hI)
        · exact absurd this (by rw [z]; exact Nat.not_lt.mpr hh)
        · exact absurd this (by rw [z, hC]; exact Nat.not_lt.mpr (Nat.le_succ_of_le hh))
      · have := Heap.lt_size e
        rcases z with z | z | z
        · exact z
        · exact absurd this (by rw [z]; exact Nat.lt_irrefl _)
        · exact absurd this (by rw [z, hC]; exact Nat.not_lt.mpr (Nat.le_succ _))
    | cons v r =>
      obtain ⟨hinv, m₁, hm₁, q'⟩ := q'
      have hiv : items[i]? = some v := by
        have : (items.drop i)[0]? = some v := by rw [e1]; rfl
        simpa using this
      have hilt : i < items.length := by
        have := congrArg List.length e1
        simp at this; omega
      refine with_size (hit.next A σ' s' i v _ _ ao R' hinv st' hiv fun w h₂ tk₂ hv st₂ hx hsz => ?_)
      have R₃ := draw_rel (tk := tk₂) R' hx hσ' hIb (hit.live _ _ st')
      have F₃ := draw_frame F' hx (hit.live _ _ st') (by rw [hLC]; exact hIL)
      have S₃ := S'.trans (drew hx hsz)
      have hp₃ := hp'.extBut hx (Nat.ne_of_gt hI2)
      have hv₃ := hv'.keep (ktI hx)
      refine hit.own A _ (i + 1) target w _ _ st₂ ?_
      refine ht.run cenv A _ (only fv m) m₁ σ' v w _ _ enC ao R₃ F₃ hv hm₁ fun s₄ R₄ F₄ S₄ => ?_
      have S₄' : Step (fun b => b = H2.objs.size) σ' σ' h₂ s₄.heap := S₄.mono fun b _ _ z => z.elim (fun z => by rw [hLC] at z; exact z) fun z => by cases z.1
      have kt₄ : TupKeep h₂ s₄.heap := S₄'.tups (s := { s' with heap := h₂, toks := tk₂ }) R₃ fun b o z e => by
        subst z; rw [← hLC] at e; exact F₃.ownT _ o (.inl rfl) e
      have st₄ : St (i + 1) s₄.heap := hit.frame _ _ _ st₂ (fun o e => S₄'.keep I o e hσ' hIL (hit.flds _ _ st₂ o e)) kt₄
      have hp₄ : s₄.heap.PlainList s₂.heap.objs.size (List.toArray ws) := hp₃.at fun o e => S₄'.keep _ o e hσD' hDC (plain_nd hp₃ o e)
      have hv₄ := hv₃.keep kt₄
      have S₅ : Step (fun b => b = I ∨ b = s₂.heap.objs.size ∨ b = H2.objs.size) σ₂ σ' s₂.heap s₄.heap := S₃.trans (S₄'.mono fun _ _ _ z => .inr (.inr z))
      refine hB.run cenv A s₄ m₁ σ' _ _ _ enC ao R₄ F₄ q' fun b σ₅ s₅ R₅ Sb q₅ => ?_
      have sepI : ∀ {σa σb : View} {sa : Shared} {hb : Heap}, Step no σa σb sa.heap hb → St (i + 1) sa.heap → σa I = Option.none → σb I = Option.none := fun {σa σb sa hb} Sx stx hx => by
        cases z : σb I with
        | none => rfl
        | some o =>
          obtain ⟨o', ho', _⟩ := hit.live _ _ stx
          exact absurd (Heap.lt_size ho') (Nat.not_lt.mpr (Sx.new I hx (by rw [z]; simp)))
      have sepD : ∀ {σa σb : View} {sa : Shared} {hb : Heap}, Step no σa σb sa.heap hb → sa.heap.PlainList s₂.heap.objs.size (List.toArray ws) → σa s₂.heap.objs.size = Option.none → σb s₂.heap.objs.size = Option.none := fun {σa σb sa hb} Sx hpx hx => by
        cases z : σb s₂.heap.objs.size with
        | none => rfl
        | some o =>
          obtain ⟨n', hn'⟩ := hpx
          exact absurd (Heap.lt_size hn') (Nat.not_lt.mpr (Sx.new _ hx (by rw [z]; simp)))
      have st₅ : St (i + 1) s₅.heap := hit.frame _ _ _ st₄ (fun o e => Sb.keep I o e hσ' (fun z => z) (hit.flds _ _ st₄ o e)) (Sb.tupsN R₄)
      have hp₅ : s₅.heap.PlainList s₂.heap.objs.size (List.toArray ws) := hp₄.at fun o e => Sb.keep _ o e hσD' (fun z => z) (plain_nd hp₄ o e)
      have hv₅ := hv₄.keep (Sb.tupsN R₄)
      have F₅ := F₄.step R₄ Sb
      have hσ₅ := sepI Sb st₄ hσ'
      have hσD₅ := sepD Sb hp₄ hσD'
      have S₆ := S₅.trans (Sb.mono fun _ _ _ z => z.elim)
      have dr : items.drop (i + 1) = r := by rw [← List.tail_drop, e1]; rfl
      cases b with
      | false =>
        simp only [Bool.false_eq_true, if_false] at q₅ ⊢
        exact ⟨r.length + 1, Nat.lt_succ_self _, i + 1, ys, ws, σ₅, r, dr, hilt, rfl, st₅, hσ₅, hσD₅, R₅, F₅.weaken (wk hm₁), hp₅, hv₅, hl', S₆, q₅⟩
      | true =>
        simp only [if_true] at q₅ ⊢
        refine hT.run cenv A s₅ m₁ σ₅ _ _ _ enC ao R₅ F₅ q₅ fun y wy σ₆ s₆ hy R₆ Sc q₆ => ?_
        obtain ⟨hlen, q₆⟩ := q₆
        have st₆ : St (i + 1) s₆.heap := hit.frame _ _ _ st₅ (fun o e => Sc.keep I o e hσ₅ (fun z => z) (hit.flds _ _ st₅ o e)) (Sc.tupsN R₅)
        have hp₆ : s₆.heap.PlainList s₂.heap.objs.size (List.toArray ws) := hp₅.at fun o e => Sc.keep _ o e hσD₅ (fun z => z) (plain_nd hp₅ o e)
        have hv₆ := hv₅.keep (Sc.tupsN R₅)
        have hσ₆ := sepI Sc st₅ hσ₅
        have hσD₆ := sepD Sc hp₅ hσD₅
        have F₆ := F₅.step R₅ Sc
        refine wpAny_list_append_plain hp₆ (fun h₇ hp₇ hs₇ => ?_) (by rw [List.size_toArray, ← hv₆.length, sizeLine_eq]; exact Nat.le_of_not_lt fun hg => Mine.lin [(ys.length)] [(1, (.v 0), (.n 1048576)), (1, (.a (.n 16777216) (.n 1)), (.v 0))] rfl hl' hg)
        have nD : ∀ o, s₆.heap.get? s₂.heap.objs.size = some o → ¬ IsT o ∧ ∀ v, o.data ≠ .cell v := fun o ho => by
          obtain ⟨n, hn⟩ := hp₆; rw [hn] at ho; cases ho; exact ⟨by simp [IsT], by simp⟩
        obtain ⟨oD, hoD⟩ : ∃ o, s₆.heap.get? s₂.heap.objs.size = some o := let ⟨n, hn⟩ := hp₆; ⟨_, hn⟩
        have kt₇ : TupKeep s₆.heap h₇ := fun b o e ht => hs₇.extBut b o (by rintro rfl; exact (nD o e).1 ht) e
        have R₇ : RelG C σ₆ { s₆ with heap := h₇ } := draw_rel (tk := s₆.toks) R₆ hs₇.extBut hσD₆ (R₂.baseNone (size_none _)) ⟨oD, hoD, nD oD hoD⟩
        have F₇ : FrameRel C cenv m₁ σ₆ h₇ := draw_frame F₆ hs₇.extBut ⟨oD, hoD, nD oD hoD⟩ (by rw [hLC]; exact hDC)
        have st₇ : St (i + 1) h₇ := hit.frame _ _ _ st₆ (fun o e => hs₇.extBut I o (Nat.ne_of_lt hI2) e) kt₇
        refine ⟨r.length + 1, Nat.lt_succ_self _, i + 1, ys ++ [y], ws ++ [wy], σ₆, r, dr, hilt, rfl, st₇, hσ₆, hσD₆, R₇, F₇.weaken (wk hm₁), by simpa using hp₇, (hv₆.append (.cons hy .nil)).keep kt₇, by simp; exact Nat.le_of_not_lt fun hg => Mine.lin [(ys.length)] [(1, (.a (.v 0) (.n 1)), (.n 1048576)), (1, (.a (.n 1048575) (.n 1)), (.v 0))] rfl hlen hg, (S₆.trans (Sc.mono fun _ _ _ z => z.elim)).trans ?_, q₆⟩
        exact .of (fun b o e _ q => hs₇.extBut b o (fun z => q (.inr (.inl z))) e) (Nat.le_of_eq hs₇.1.symm) fun _ a b => absurd a b
  exact codeAny_compStart_list (loop _ rfl) (hit.self A _ 0 _ _ st₁ (loop _ rfl))

theorem has_fv {env : Env} {m : Loc} {σ : View} {h : Heap} {cs : Scope} {fv : List String} {g : Tgt} (ok : CompOk sc cs fv g) (en : EnvOk env sc) (F : FrameRel C env m σ h) : ∀ x ∈ fv, FrameHas env x := fun x hx =>
  F.has _ ((ok.frs x hx).2.imp (fun z => en.of z) fun z => en.of z)
/-- a list that stood outside of the view enters it -/
theorem RelG.enter {σ : View} {s : Shared} {D : Addr} {o : AObj} (R : RelG C σ s) (hD : C.hB.get? D = Option.none) (ho : ObjRel C s.heap D o) : RelG C (upd σ D o) s :=
  ⟨R.rest, R.base, fun a o' e => by
    by_cases h : a = D
    · subst h; rw [upd_same] at e; cases e; exact ho
    · rw [upd_ne h] at e; exact R.view a o' e,
   fun a ha => by
    by_cases h : a = D
    · subst h; exact hD
    · rw [upd_ne h] at ha; exact R.apart a ha⟩
theorem Step.enter {own : Addr → Prop} {σ σ' : View} {h h' : Heap} {D : Addr} {o : AObj} (S : Step own σ σ' h h') (hD : h.objs.size ≤ D) : Step own σ (upd σ' D o) h h' :=
  ⟨S.keepL, S.size, fun b n z => by
    by_cases hb : b = D
    · subst hb; exact hD
    · rw [upd_ne hb] at z; exact S.new b n z⟩
theorem HE.comp {elt iter target : Expr} {ifs : List Expr} {cs : Scope} {pos : Pos} {fv : List String} {g : Tgt} {I : IT} {B : BT} {T : ET} (ok : CompOk sc cs fv g)
    (hi : HI C sc k iter I) (ht : HT C (relS sc cs) k true target g) (hB : HTs C (relS sc cs) k ifs B) (hT : HE C (relS sc cs) k elt T) (hf : ∀ env x, foldedSetIterable iter env x = pure x) :
    HE C sc k (.ListComp elt [⟨target, iter, ifs, 0⟩] cs pos) (eComp fv g I B T) := by
  refine ⟨?_⟩; intro env A s m σ Q P E en ao R F q hP
  have hfree : ∀ p ∈ cs.names, p.2 = .free → ∃ c, env.cells.lookup p.1 = some c := fun p hp hq => by
    obtain ⟨x, hx, e⟩ := ok.frees p hp hq
    rw [← e]; exact has_fv ok en F x hx
  rw [eval_ListComp]
  refine wpAny_comprehension_free (use := Option.none) rfl (hf env) (closure_eq hfree) ok.kind ok.names (hi.run env A s m σ _ _ E en ao R F q fun items inv I St σ₂ s₂ hit st hI hσI R₂ S₂ q₂ => ?_)
  refine comp_core (RR := fun acc C' => compPost (model C.prog C.w) A E Option.none P acc C') ok (has_fv ok en F) ht hB hT en ao R S₂ R₂ (F.step R S₂) hit st hI hσI q₂ ?_
  intro D C' ys ws mm σ' s' hmm hC' hD hDC hσD hσC hp hv R' hly S' SI q'
  refine ⟨mm, hmm, fun h'' hs'' => ?_⟩
  have nT : ∀ o, s'.heap.get? C' = some o → ¬ IsT o ∧ ∀ v, o.data ≠ .cell v := fun o ho => by
    obtain ⟨o', es, ep, ho', hd', _⟩ := hmm; rw [ho'] at ho; cases ho; exact ⟨by simp [IsT, hd'], by simp [hd']⟩
  obtain ⟨oC, hoC⟩ : ∃ o, s'.heap.get? C' = some o := let ⟨o', _, _, ho', _⟩ := hmm; ⟨o', ho'⟩
  have hC0 : s.heap.objs.size ≤ C' := Nat.le_trans S₂.size hC'
  have hD0 : s.heap.objs.size ≤ D := Nat.le_trans S₂.size hD
  have kt : TupKeep s'.heap h'' := fun b o e ht => hs''.extBut b o (by rintro rfl; exact (nT o e).1 ht) e
  have R₃ : RelG C σ' { s' with heap := h'' } := draw_rel (tk := s'.toks) R' hs''.extBut hσC (R.baseNone (get_none_of_size hC0)) ⟨oC, hoC, nT oC hoC⟩
  have R₄ := R₃.enter (D := D) (o := .list ys) (R.baseNone (get_none_of_size hD0)) ⟨by exact Nat.le_of_not_lt fun hg => Mine.lin [(ys.length)] [(1, (.v 0), (.n 1048576)), (1, (.a (.n 16777216) (.n 1)), (.v 0))] rfl hly hg, ws, hp.extBut hs''.extBut hDC, hv.keep kt⟩
  have S₃ : Step (fun b => b = C') σ' σ' s'.heap h'' := .of (fun b o e _ q => hs''.extBut b o q e) (Nat.le_of_eq hs''.1.symm) fun _ a b => absurd a b
  have S₄ : Step no σ σ' s.heap h'' := ((S'.mono fun _ _ _ z => z.elim).trans S₃).mono fun b o e z => absurd (Heap.lt_size e) (by rw [z]; exact Nat.not_lt.mpr hC0)
  exact hP _ _ _ _ (.ref D) R₄ (S₄.enter hD0) (q' D hσD)
/-- x = [..] where the model stores into x ahead of letting the loop's names go -/
theorem HS1.setComp {elt iter target : Expr} {ifs : List Expr} {cs : Scope} {pos p spos : Pos} {x : String} {fv : List String} {g : Tgt} {I : IT} {B : BT} {T : ET} (ok : CompOk sc cs fv g)
    (hi : HI C sc k iter I) (ht : HT C (relS sc cs) k true target g) (hB : HTs C (relS sc cs) k ifs B) (hT : HE C (relS sc cs) k elt T) (hf : ∀ env x, foldedSetIterable iter env x = pure x)
    (hx : sc.names.lookup (Str.ofString x) = some .local) (hsw : ∀ env, EnvOk env sc → swapsWith (.ListComp elt [⟨target, iter, ifs, 0⟩] cs pos) (some (.Name (Str.ofString x) p)) spos.line env = pure true) :
    HS1 C sc k (.Assign [.Name (Str.ofString x) p] (.ListComp elt [⟨target, iter, ifs, 0⟩] cs pos) spos) (sSet x (eComp fv g I B T)) := by
  refine ⟨?_⟩; intro env A s m σ Q P E en ao R F q hP
  have hfree : ∀ p ∈ cs.names, p.2 = .free → ∃ c, env.cells.lookup p.1 = some c := fun p hp hq => by
    obtain ⟨x, hx, e⟩ := ok.frees p hp hq
    rw [← e]; exact has_fv ok en F x hx
  rw [exec_Assign_Name_used _ _ _ _ (hsw env en)]
  refine wpAny_bind (wpAny_standAt (wpAny_bind ?_))
  show wpAny _ A (do let _ ← comprehension (.ListComp elt [⟨target, iter, ifs, 0⟩] cs pos) cs env _ (newList []) false (eval iter env) (some (assign (.Name (Str.ofString x) p) env))) _ _ s
  refine wpAny_bind (wpAny_mono (wpAny_comprehension_free (use := some (assign (.Name (Str.ofString x) p) env)) (Q := fun _ s' => P .next s') rfl (hf env) (closure_eq hfree) ok.kind ok.names (hi.run env A s m σ _ _ E en ao R F q fun items inv I St σ₂ s₂ hit st hI hσI R₂ S₂ q₂ => ?_))
    (fun _ s' hq => wpAny_pure (wpAny_pure hq)) fun _ _ e => e)
  refine comp_core (RR := fun acc C' => compPost (model C.prog C.w) A E (some (assign (.Name (Str.ofString x) p) env)) (fun _ s' => P .next s') acc C') ok (has_fv ok en F) ht hB hT en ao R S₂ R₂ (F.step R S₂) hit st hI hσI q₂ ?_
  intro D C' ys ws mm σ' s' hmm hC' hD hDC hσD hσC hp hv R' hly S' SI q'
  have hC0 : s.heap.objs.size ≤ C' := Nat.le_trans S₂.size hC'
  have hD0 : s.heap.objs.size ≤ D := Nat.le_trans S₂.size hD
  have R₃ := R'.enter (D := D) (o := .list ys) (R.baseNone (get_none_of_size hD0)) ⟨by exact Nat.le_of_not_lt fun hg => Mine.lin [(ys.length)] [(1, (.v 0), (.n 1048576)), (1, (.a (.n 16777216) (.n 1)), (.v 0))] rfl hly hg, ws, hp, hv⟩
  have S₃ := S'.enter (o := .list ys) hD0
  have F₃ := F.step R S₃
  have hCL : C' ≠ env.locals := fun e => by
    obtain ⟨mL, hmL, _⟩ := F.ns
    exact absurd hmL.lt (by rw [← e]; exact Nat.not_lt.mpr hC0)
  refine wpAny_assign_Name (store_local en R₃ F₃ hx (.ref D) fun s₄ R₄ F₄ S₄ => ?_)
  have hσ₃C : upd σ' D (.list ys) C' = Option.none := by rw [upd_ne (Ne.symm hDC)]; exact hσC
  have hmm4 : s₄.heap.Ns C' mm := Like.ns hmm fun o e => S₄.keepL C' o e hσ₃C hCL
  refine ⟨mm, hmm4, fun h'' hs'' => ?_⟩
  have nT : ∀ o, s₄.heap.get? C' = some o → ¬ IsT o ∧ ∀ v, o.data ≠ .cell v := fun o ho => by
    obtain ⟨o', es, ep, ho', hd', _⟩ := hmm4; rw [ho'] at ho; cases ho; exact ⟨by simp [IsT, hd'], by simp [hd']⟩
  obtain ⟨oC, hoC⟩ : ∃ o, s₄.heap.get? C' = some o := let ⟨o', _, _, ho', _⟩ := hmm4; ⟨o', ho'⟩
  have R₅ := draw_rel (tk := s₄.toks) R₄ hs''.extBut hσ₃C (R.baseNone (get_none_of_size hC0)) ⟨oC, hoC, nT oC hoC⟩
  have F₅ := draw_frame F₄ hs''.extBut ⟨oC, hoC, nT oC hoC⟩ hCL
  have S₅ : Step (fun b => b = env.locals ∨ b = C') (upd σ' D (.list ys)) (upd σ' D (.list ys)) s'.heap h'' := (S₄.mono fun _ _ _ z => .inl z).trans (.of (fun b o e _ q => hs''.extBut b o (fun z => q (.inr z)) e) (Nat.le_of_eq hs''.1.symm) fun _ a b => absurd a b)
  have S₆ : Step (Own env) σ (upd σ' D (.list ys)) s.heap h'' := ((S₃.mono fun _ _ _ z => z.elim).trans S₅).mono fun b o e z => z.elim .inl fun z => absurd (Heap.lt_size e) (by rw [z]; exact Nat.not_lt.mpr hC0)
  exact hP .next .next _ _ _ .next R₅ F₅ S₆ (q' D hσD)
end
end Mine


end
noncomputable section
set_option autoImplicit false
set_option linter.unusedVariables false
namespace Mine
open PySem

section
variable {C : Cx} {sc : Scope} {k : Nat}
/- an item -/
noncomputable def isSlice : Expr → Bool
  | .Slice .. => true
  | _ => false
theorem item_tree {A : Around} {s : Shared} {slice : Expr} {o i : Value} {T id : String} {P E : Value → Shared → Prop} (hsl : isSlice slice = false) (hT : s.TypeIs o T)
    (hl : typeLookup (.type T) "__getitem__" = pure (some (.builtin id))) (hg : wpAny (model C.prog C.w) A (getItem o i) P E s) :
    wpAny (model C.prog C.w) A (getitemInPython o >>= fun b => subscripted slice b o i) P E s := by
  refine wpAny_bind ?_
  rw [getitemInPython_of_ne hT.not_modules]
  refine wpAny_bind (wpAny_specialOf hT hl ?_)
  refine wpAny_pure ?_
  have : subscripted slice false o i = operate [o, i] (getItem o i) := by
    unfold subscripted
    cases slice <;> first | rfl | cases hsl
  rw [this]
  exact wpAny_operating hg
/-- the place that an index names -/
noncomputable def idx (i : Int) (n : Nat) : Option Nat := if 0 ≤ i then (if i < n then some i.toNat else Option.none) else (if -(n : Int) ≤ i then some (i + n).toNat else Option.none)
noncomputable def opItem (ns : List Int) : O2
  | .str x, .int i, σ, Q => x.length < 16777217 ∧ ∃ j c, idx i x.length = some j ∧ x.cps.toList[j]? = some c ∧ Q (.str ⟨#[c]⟩) σ
  | .script, .int i, σ, Q => ∃ j n, 0 ≤ i ∧ idx i ns.length = some j ∧ ns[j]? = some n ∧ Q (.int n) σ
  | .tup vs, .int i, σ, Q => vs.length < 16777217 ∧ ∃ j v, idx i vs.length = some j ∧ vs[j]? = some v ∧ Q v σ
  | .ref a, .int i, σ, Q => ∃ xs j v, σ a = some (.list xs) ∧ idx i xs.length = some j ∧ xs[j]? = some v ∧ Q v σ
  | _, _, _, _ => False
theorem idx_seq {i : Int} {n j : Nat} (h : idx i n = some j) : seqIndex? i n = some j := by
  unfold idx at h
  unfold seqIndex?
  split at h
  · split at h
    · cases h
      rename_i h1 h2
      simp [Int.not_lt.mpr h1, h1, h2]
    · cases h
  · split at h
    · cases h
      rename_i h1 h2
      have : i < 0 := by omega
      simp only [this, if_true]
      rw [if_pos (by simp only [Bool.and_eq_true, decide_eq_true_eq]; omega)]
    · cases h
theorem idx_lt {i : Int} {n j : Nat} (h : idx i n = some j) : j < n ∧ -(n : Int) ≤ i ∧ i < n := by
  unfold idx at h
  split at h
  · split at h
    · cases h; omega
    · cases h
  · split at h
    · cases h; omega
    · cases h
theorem get_list {A : Around} {s : Shared} {a : Addr} {ws : List Value} {i : Int} {t : Tok} {j : Nat} {w : Value} {P E : Value → Shared → Prop} (hl : s.heap.IsList a ws.toArray) (hi : idx i ws.length = some j) (hw : ws[j]? = some w) (hz : ws.length ≤ 16777216) (q : P w s) :
    wpAny (model C.prog C.w) A (getItem (.ref a) (.int i t)) P E s := by
  have hlt := idx_lt hi
  by_cases h0 : 0 ≤ i
  · have : j = i.toNat := by unfold idx at hi; rw [if_pos h0] at hi; split at hi <;> cases hi; rfl
    subst this
    exact wpAny_getItem_list hl h0 (by omega) (by simpa using hw) q
  · have : j = (i + ws.length).toNat := by unfold idx at hi; rw [if_neg h0] at hi; split at hi <;> cases hi; rfl
    subst this
    refine wpAny_getItem_list_neg hl (by omega) (by simp; omega) (by omega) (by simpa using hw) q
theorem ok_item (O : C.Ok) {slice : Expr} (hsl : isSlice slice = false) : Op2 C k (fun o i => getitemInPython o >>= fun b => subscripted slice b o i) (opItem C.ns) := by
  intro A s σ a b wa wb Q P E ao R va vb q hP
  cases a <;> first | exact q.elim | skip
  all_goals (cases b <;> first | exact q.elim | skip)
  · rename_i x i
    cases va; cases vb
    obtain ⟨hx, j, c, hj, hc, q⟩ := q
    refine item_tree hsl (typeIs_str _ _ _) F.slot_str_getitem.lookup ?_
    have hlt := idx_lt hj
    have e : Txt.charAt x i = some c := by
      unfold Txt.charAt
      rw [idx_seq hj]
      simpa using hc
    refine SB.getItem ?_ (by rw [e]; rfl) ?_
    · unfold fitsSsize; simp; omega
    · have e2 : Txt.item x i = ⟨#[c]⟩ := by unfold Txt.item; rw [e]; rfl
      rw [e2]
      exact hP _ _ σ _ (.str _ _) (R.tok _) Step.refl q
  · rename_i aa i
    cases va; cases vb
    obtain ⟨xs, j, v, hx, hj, hv, q⟩ := q
    obtain ⟨hz, ws, h1, h2⟩ := R.view aa _ hx
    obtain ⟨w, hw, hr⟩ := h2.get hv
    exact item_tree hsl h1.isList.typeIs slot_list_getitem.lookup (get_list h1.isList (by rw [← h2.length]; exact hj) hw (by rw [← h2.length]; exact hz) (hP _ _ σ s hr R Step.refl q))
  · rename_i i
    cases va; cases vb
    obtain ⟨j, n, h0, hj, hv, q⟩ := q
    obtain ⟨ws, h1, h2, h3⟩ := O.script
    obtain ⟨t, ht⟩ := h3 j n hv
    have hl : s.heap.IsList C.aS ws := h1.at fun o e => R.base _ _ e
    have hl' : s.heap.IsList C.aS ws.toList.toArray := by simpa using hl
    exact item_tree hsl hl.typeIs slot_list_getitem.lookup (get_list hl' (by rw [h2]; exact hj) ht (by rw [h2]; have := O.few; omega) (hP _ _ σ s (.int n t) R Step.refl q))
  · rename_i vs i
    cases vb
    cases va with
    | @tup _ at' ws ht hvs =>
      obtain ⟨hz, j, v, hj, hv, q⟩ := q
      obtain ⟨w, hw, hr⟩ := hvs.get hv
      have hlt := idx_lt hj
      have htt : PyProof.Rows.IsTup s.heap at' ws.toArray := ht
      refine item_tree hsl ht.typeIs (PyProof.Rows.slot_tuple_getitem).lookup (PyProof.Rows.getItem_tuple htt (by omega) (by omega) (by rw [List.size_toArray, ← hvs.length]; exact idx_seq hj) (by simpa using hw) (hP _ _ σ s hr R Step.refl q))

/- slices -/
noncomputable def clip (n : Nat) (lo hi : Option Int) : Nat × Nat := (lo.elim 0 (clipAt n), hi.elim n (clipAt n) - lo.elim 0 (clipAt n))
noncomputable def pyCut {α : Type} (l : List α) (lo hi : Option Int) : List α := (l.drop (clip l.length lo hi).1).take (clip l.length lo hi).2
noncomputable def opCut (ns : List Int) (lo hi : Option Int) : O1
  | .str x, σ, Q => x.length ≤ 16777216 ∧ Q (.str ⟨(pyCut x.cps.toList lo hi).toArray⟩) σ
  | .ref a, σ, Q => ∃ xs, σ a = some (.list xs) ∧ newL (pyCut xs lo hi) σ Q
  | .script, σ, Q => newL ((pyCut ns lo hi).map .int) σ Q
  | _, _, _ => False
/-- a part of a slice -/
structure HP (C : Cx) (sc : Scope) (k : Nat) (e : Option Expr) (T : Loc → View → (Option Int → View → Prop) → Prop) : Prop where
  run : ∀ (env : Env) (A : Around) (s : Shared) (m : Loc) (σ : View) (Q : Option Int → View → Prop) (P : Value → Shared → Prop) (E : Value → Shared → Prop),
    EnvOk env sc → AOk C A k → RelG C σ s → FrameRel C env m σ s.heap → T m σ Q →
    (∀ i p σ' s', i = Option.map Prod.fst p → RelG C σ' s' → Step no σ σ' s.heap s'.heap → Q i σ' → P (partValue p) s') →
    wpAny (model C.prog C.w) A (evalPart e env) P E s
noncomputable def pNone : Loc → View → (Option Int → View → Prop) → Prop := fun _ σ Q => Q Option.none σ
noncomputable def pSome (T : ET) : Loc → View → (Option Int → View → Prop) → Prop := fun m σ Q => T m σ fun v σ' => ∃ i, v = .int i ∧ Q (some i) σ'
noncomputable def eCut (ns : List Int) (T : ET) (L U : Loc → View → (Option Int → View → Prop) → Prop) : ET := fun m σ Q => T m σ fun v σ₁ => L m σ₁ fun lo σ₂ => U m σ₂ fun hi σ₃ => opCut ns lo hi v σ₃ Q
end
end Mine


end
noncomputable section
set_option autoImplicit false
set_option linter.unusedVariables false
namespace Mine
open PySem

section
variable {C : Cx} {sc : Scope} {k : Nat}
/- the methods of built-in types -/
noncomputable def eMeth (ty : V → View → Prop) (op : Spec) (T : ET) (L : LT) : ET := fun m σ Q => T m σ fun o σ₁ => ty o σ₁ ∧ L m σ₁ fun vs σ₂ => op (o :: vs) σ₂ Q
noncomputable def TyOk (C : Cx) (T : String) (ty : V → View → Prop) : Prop := ∀ (o : V) (wo : Value) (σ : View) (s : Shared), RelG C σ s → VRel C.aS s.heap o wo → ty o σ → s.TypeIs wo T ∧ ∀ a, wo = .ref a → ∃ ob, s.heap.get? a = some ob ∧ ob.dict = Option.none
theorem HE.meth {T id : String} {name : Str} {o : Expr} {apos pos : Pos} {es : List Expr} {ty : V → View → Prop} {op : Spec} {To : ET} {L : LT} (hty : TyOk C T ty) (pa : PlainAttrs T) (slot : Slot T name id) (hmd : typeOf (.builtin id) = pure (.type "method_descriptor"))
    (hop : OpN C k (fun ws => PySem.call (.builtin id) ws) op) (ho : HE C sc k o To) (hl : HL C sc k es L) (hp : plainArgs es = true)
    (hbase : ∀ env, attributeBase o name env (eval o env) = eval o env) (hline : (apos.endLine == pos.line) = true) (hfew : es.length < 30) : HE C sc k (.Call (.Attribute o name apos) es [] pos) (eMeth ty op To L) := by
  refine ⟨?_⟩; intro env A s m σ Q P E en ao R F q hP
  have hall : (backTo pos (starEach es env)).all (fun x => !x.1) = true := by
    have := starEach_any (env := env) (pos := pos) hp
    rw [List.any_eq_false] at this
    rw [List.all_eq_true]
    intro x hx
    have := this x hx
    simp at this
    simp [this]
  refine wpAny_Call_method (hbase env) (by rw [hall]; simp [backToKw, keywordEach]; omega) hline pa slot hmd ?_
  refine ho.run env A s m σ _ _ E en ao R F q fun v w σ₁ s₁ hv R₁ S₁ q₁ => ?_
  obtain ⟨h1, h2⟩ := hty v w σ₁ s₁ R₁ hv q₁.1
  refine ⟨h1, h2, Calls.callWith_builtin (starEach_any hp) (evalArgs_of hp (hl.run env A s₁ m σ₁ pos _ _ E en ao R₁ (F.step R S₁) q₁.2 fun vs ws σ₂ s₂ hvs R₂ S₂ q₂ => ?_))⟩
  exact hop A s₂ σ₂ (v :: vs) (w :: ws) Q P E ao R₂ (.cons (hv.keep (S₂.tupsN R₁)) hvs) q₂ fun v' w' σ' s' hv' R' S' q' => hP v' w' σ' s' hv' R' ((S₁.trans S₂).trans S') q'
noncomputable def tyStr : V → View → Prop
  | .str _, _ => True
  | _, _ => False
theorem tyStr_ok : TyOk C "str" tyStr := by
  intro o wo σ s R hv h
  cases hv <;> first | exact h.elim | skip
  exact ⟨typeIs_str _ _ _, fun a e => by cases e⟩
noncomputable def tyList : V → View → Prop
  | .ref a, σ => ∃ xs, σ a = some (.list xs)
  | _, _ => False
theorem tyList_ok : TyOk C "list" tyList := by
  intro o wo σ s R hv h
  cases hv <;> first | exact h.elim | skip
  obtain ⟨xs, hx⟩ := h
  obtain ⟨_, ws, h1, h2⟩ := R.view _ _ hx
  refine ⟨h1.isList.typeIs, fun b e => ?_⟩
  cases e
  obtain ⟨n, hn⟩ := h1
  exact ⟨_, hn, rfl⟩

theorem VRels.inv1 {aS : Addr} {h : Heap} {a : V} {ws : List Value} (x : VRels aS h [a] ws) : ∃ wa, ws = [wa] ∧ VRel aS h a wa := by
  cases x with
  | cons h1 r => cases r; exact ⟨_, rfl, h1⟩
theorem VRels.inv2 {aS : Addr} {h : Heap} {a b : V} {ws : List Value} (x : VRels aS h [a, b] ws) : ∃ wa wb, ws = [wa, wb] ∧ VRel aS h a wa ∧ VRel aS h b wb := by
  cases x with
  | cons h1 r => obtain ⟨wb, rfl, h2⟩ := r.inv1; exact ⟨_, _, rfl, h1, h2⟩
/- texts -/
noncomputable def spStarts : Spec
  | [.str x, .str y], σ, Q => Q (.bool (Txt.startswith x y)) σ
  | _, _, _ => False
theorem ok_starts : OpN C k (fun ws => PySem.call (.builtin "str.startswith") ws) spStarts := by
  intro A s σ vs ws Q P E ao R hv q hP
  unfold spStarts at q
  split at q
  · obtain ⟨wa, wb, rfl, h1, h2⟩ := hv.inv2
    cases h1; cases h2
    exact SC.startswith (hP _ _ σ s (.bool _) R Step.refl q)
  · exact q.elim
theorem strs_of {aS : Addr} {h : Heap} : ∀ {ys : List Str} {ws : List Value}, VRels aS h (ys.map .str) ws → ∃ l : List (Str × Tok), ws = strValues l ∧ l.map (·.1) = ys
  | [], _, r => ⟨[], r.inv0, rfl⟩
  | y :: ys, _, r => by
    obtain ⟨w, ws, rfl, h1, r2⟩ := r.invC
    obtain ⟨t, rfl⟩ := h1.invStr
    obtain ⟨l, rfl, rfl⟩ := strs_of r2
    exact ⟨(y, t) :: l, rfl, rfl⟩
theorem strs_rel {aS : Addr} {h : Heap} : ∀ (l : List (Str × Tok)), VRels aS h ((l.map (·.1)).map .str) (strValues l)
  | [] => .nil
  | (x, t) :: l => .cons (.str x t) (strs_rel l)
/-- sep.join of a list of texts -/
noncomputable def spJoin : Spec
  | [.str x, .ref a], σ, Q => ∃ ys : List Str, σ a = some (.list (ys.map .str)) ∧ (ys.map (·.length)).sum + ys.length * x.length ≤ 16777216 ∧ Q (.str (Str.join x ys)) σ
  | _, _, _ => False
theorem foldl_len (x : Str) : ∀ (l : List Str) (n : Nat), l.foldl (fun a y => a + y.length + x.length) n = n + (l.map (·.length)).sum + l.length * x.length
  | [], n => by simp
  | y :: r, n => by
    rw [List.foldl_cons, foldl_len x r]
    simp [Nat.add_mul]; omega
theorem glued_join (x : Str) : ∀ ys : List Str, Builtin.Str.glued x ys = Str.join x ys := by
  have key : ∀ (r : List Str) (acc : Array Nat), (⟨r.foldl (fun acc p => acc ++ x.cps ++ p.cps) acc⟩ : Str) = match r with | [] => ⟨acc⟩ | _ => (⟨acc⟩ : Str) ++ x ++ Str.join x r := by
    intro r
    induction r with
    | nil => intro acc; rfl
    | cons y r ih =>
      intro acc
      rw [List.foldl_cons, ih]
      cases r with
      | nil => rfl
      | cons z r => 
        show (⟨acc ++ x.cps ++ y.cps⟩ : Str) ++ x ++ Str.join x (z :: r) = (⟨acc⟩ : Str) ++ x ++ (y ++ x ++ Str.join x (z :: r))
        have : ∀ a b : Str, a ++ b = ⟨a.cps ++ b.cps⟩ := fun _ _ => rfl
        simp only [this, Array.append_assoc]
  intro ys
  cases ys with
  | nil => rfl
  | cons y r =>
    unfold Builtin.Str.glued
    simp only [List.drop_one, List.tail_cons, List.headD_cons]
    rw [key]
    cases r with
    | nil => rfl
    | cons z r => rfl
theorem ok_join : OpN C k (fun ws => PySem.call (.builtin "str.join") ws) spJoin := by
  intro A s σ vs ws Q P E ao R hv q hP
  unfold spJoin at q
  split at q
  · rename_i x a
    obtain ⟨wa, wb, rfl, h1, h2⟩ := hv.inv2
    cases h1; cases h2
    obtain ⟨ys, hy, hl, q⟩ := q
    obtain ⟨_, ws, h3, h4⟩ := R.view a _ hy
    obtain ⟨l, rfl, e⟩ := strs_of h4
    refine SC.join (texts := ys) h3.isList e ?_ fun t' tk => ?_
    · unfold JoinOk Builtin.Str.tooLong
      rw [← Array.foldl_toList, foldl_len]
      rw [sizeLine_eq]
      simp
      omega
    · have : Txt.join x ys = Str.join x ys := glued_join x ys
      rw [this]
      exact hP _ _ σ _ (.str _ _) (R.tok _) Step.refl q
  · exact q.elim
/-- x.split(y) -/
noncomputable def spSplit : Spec
  | [.str x, .str y], σ, Q => (y.length = 1 ∧ x.length ≤ 1048576) ∧ newL ((Txt.split x y).map .str) σ Q
  | _, _, _ => False
theorem push_list {A : Around} {s : Shared} {σ : View} {xs : List V} {ws : List Value} {tk : Nat} {Q : V → View → Prop} {P : Value → Shared → Prop} (R : RelG C σ s) (hv : VRels C.aS s.heap xs ws) (hz : xs.length ≤ 16777216) (q : newL xs σ Q) (hP : Aft C σ s Q P) :
    P (.ref s.heap.objs.size) { s with heap := s.heap.push { cls := .type "list", data := .seq ws.toArray }, toks := tk } := by
  have hn := size_none s.heap
  exact hP _ _ (upd σ s.heap.objs.size (.list xs)) _ (.ref _) (R.add (tk := tk) push_old hn ⟨hz, ws, ⟨_, Heap.get?_push_size _ rfl⟩, hv.keep fun _ _ e _ => push_old _ _ e⟩) .addPush (q _ (R.freshNone hn))
theorem ok_split : OpN C k (fun ws => PySem.call (.builtin "str.split") ws) spSplit := by
  intro A s σ vs ws Q P E ao R hv q hP
  unfold spSplit at q
  split at q
  · rename_i x y
    obtain ⟨wa, wb, rfl, h1, h2⟩ := hv.inv2
    cases h1 with | str _ t => cases h2 with | str _ u =>
    obtain ⟨⟨hy, hx⟩, q⟩ := q
    have hy0 : (y.length == 0) = false := by simp [hy]
    have hsz : (Builtin.Str.partsBetween x (Builtin.Str.occurrences x y 0 x.length (x.length + 1)) y.length).length ≤ 1048578 := by
      rw [length_partsBetween]
      have := StrLaws.occ_length_le x y 0 x.length (x.length + 1)
      omega
    have single : Txt.split x y = [x] → P (.ref s.heap.objs.size) { s with heap := s.heap.push { cls := .type "list", data := .seq [Value.str x t].toArray } } := fun e => by
      rw [e] at q
      exact push_list (A := A) (tk := s.toks) R (.cons (.str x t) .nil) (by simp) q hP
    cases h1 : (decide (x.length < y.length) || decide (Builtin.Str.strKind x < Builtin.Str.strKind y))
    · cases hf : (Builtin.Str.occurrences x y 0 x.length (x.length + 1)).isEmpty
      · refine call_meets _root_.PySem.F.slot_str_split (typeIs_str _ _ _) _root_.PySem.F.entry_str_split (_root_.PySem.F.args_str_split_2 _ _) (meets_str_split_sep x y t u h1 hy0 hf (by rw [sizeLine_eq]; omega) (by rw [sizeLine_eq]; omega)) ?_
        have e : Txt.split x y = Builtin.Str.partsBetween x (Builtin.Str.occurrences x y 0 x.length (x.length + 1)) y.length := by unfold Txt.split; rw [h1, hf]; rfl
        rw [e] at q
        show wants P E _ { s with toks := _, heap := s.heap.push { cls := .type "list", data := .seq (strsFrom s.toks (Builtin.Str.partsBetween x (Builtin.Str.occurrences x y 0 x.length (x.length + 1)) y.length)).toArray } }
        rw [strsFrom_eq]
        refine push_list (A := A) R ?_ (by rw [List.length_map]; omega) q hP
        have := strs_rel (aS := C.aS) (h := s.heap) (numbered s.toks (Builtin.Str.partsBetween x (Builtin.Str.occurrences x y 0 x.length (x.length + 1)) y.length))
        rw [numbered_texts] at this
        exact this
      · exact call_meets _root_.PySem.F.slot_str_split (typeIs_str _ _ _) _root_.PySem.F.entry_str_split (_root_.PySem.F.args_str_split_2 _ _) (meets_str_split_not_found x y t u h1 hy0 hf) (single (by unfold Txt.split; rw [h1, hf]; rfl))
    · exact call_meets _root_.PySem.F.slot_str_split (typeIs_str _ _ _) _root_.PySem.F.entry_str_split (_root_.PySem.F.args_str_split_2 _ _) (meets_str_split_cannot_occur x y t u h1) (single (by unfold Txt.split; rw [h1]; rfl))
  · exact q.elim
/- lengths -/
noncomputable def spLen (ns : List Int) : Spec
  | [.str x], σ, Q => x.length ≤ 16777216 ∧ Q (.int x.length) σ
  | [.ref a], σ, Q => match σ a with
    | some (.list xs) => Q (.int xs.length) σ
    | some (.dict kvs _) => Q (.int kvs.length) σ
    | some (.idict kvs _) => Q (.int kvs.length) σ
    | _ => False
  | [.tup vs], σ, Q => vs.length ≤ 16777216 ∧ Q (.int vs.length) σ
  | [.script], σ, Q => Q (.int ns.length) σ
  | _, _, _ => False
theorem ok_len (O : C.Ok) : OpN C k (fun ws => PySem.call (.builtin "len") ws) (spLen C.ns) := by
  intro A s σ vs ws Q P E ao R hv q hP
  unfold spLen at q
  split at q
  · obtain ⟨wa, rfl, h1⟩ := hv.inv1
    cases h1
    exact _root_.PySem.P.len_str (by omega) (hP _ _ σ _ (.int _ _) (R.tok _) Step.refl q.2)
  · obtain ⟨wa, rfl, h1⟩ := hv.inv1
    cases h1
    split at q
    · rename_i hx
      obtain ⟨hz, ws, h1, h2⟩ := R.view _ _ hx
      have e := h2.length
      refine Calls.call_len_list h1.isList (by rw [List.size_toArray, ← e]; omega) ?_
      rw [List.size_toArray, ← e]
      exact hP _ _ σ _ (.int _ _) (R.tok _) Step.refl q
    · rename_i hx
      obtain ⟨hz, ws, h1, h2⟩ := R.view _ _ hx
      have e := h2.length
      refine call_len_dict (O.noMods (R.apart _ (by rw [hx]; simp))) h1.dictOf (by rw [← e]; omega) ?_
      rw [← e]
      exact hP _ _ σ _ (.int _ _) (R.tok _) Step.refl q
    · rename_i hx
      obtain ⟨hz, ws, h1, h2⟩ := R.view _ _ hx
      have e := h2.length
      refine call_len_dict (O.noMods (R.apart _ (by rw [hx]; simp))) h1.dictOf (by rw [← e]; omega) ?_
      rw [← e]
      exact hP _ _ σ _ (.int _ _) (R.tok _) Step.refl q
    · exact q.elim
  · obtain ⟨wa, rfl, h1⟩ := hv.inv1
    cases h1 with
    | @tup _ a ws ht hvs =>
      have e := hvs.length
      refine PyProof.Rows.len_tuple (show PyProof.Rows.IsTup s.heap a ws.toArray from ht) (by rw [List.size_toArray, ← e]; omega) ?_
      rw [List.size_toArray, ← e]
      exact hP _ _ σ _ (.int _ _) (R.tok _) Step.refl q.2
  · obtain ⟨wa, rfl, h1⟩ := hv.inv1
    cases h1
    obtain ⟨ws, h1, h2, h3⟩ := O.script
    have hl : s.heap.IsList C.aS ws := h1.at fun o e => R.base _ _ e
    have e : (ws.size : Int) = C.ns.length := by rw [← h2]; simp
    refine Calls.call_len_list hl (by rw [e]; have := O.few; omega) ?_
    rw [e]
    exact hP _ _ σ _ (.int _ _) (R.tok _) Step.refl q
  · exact q.elim
/- isinstance of a built-in type -/
noncomputable def isi : V → View → String → Option Bool
  | .bool _, _, T => if T = "bool" then some true else if T = "int" then some true else if T ∈ ["str", "list", "dict", "tuple"] then some false else Option.none
  | .int _, _, T => if T = "int" then some true else if T ∈ ["bool", "str", "list", "dict", "tuple"] then some false else Option.none
  | .str _, _, T => if T = "str" then some true else if T ∈ ["bool", "int", "list", "dict", "tuple"] then some false else Option.none
  | .tup _, _, T => if T = "tuple" then some true else if T ∈ ["bool", "int", "list", "dict", "str"] then some false else Option.none
  | .ref a, σ, T => match σ a with
    | some (.list _) => if T = "list" then some true else if T ∈ ["bool", "int", "tuple", "dict", "str"] then some false else Option.none
    | some (.dict _ _) => if T = "dict" then some true else if T ∈ ["bool", "int", "tuple", "list", "str"] then some false else Option.none
    | _ => Option.none
  | _, _, _ => Option.none
noncomputable def spIsi : Spec
  | [v, .ty T], σ, Q => ∃ r, isi v σ T = some r ∧ Q (.bool r) σ
  | _, _, _ => False
theorem ok_isi : OpN C k (fun ws => PySem.call (.builtin "isinstance") ws) spIsi := by
  intro A s σ vs ws Q P E ao R hv q hP
  unfold spIsi at q
  split at q
  · rename_i v T
    obtain ⟨wa, wb, rfl, h1, h2⟩ := hv.inv2
    cases h2
    obtain ⟨r, hr, q⟩ := q
    have p0 : r = true → P (.bool true) s := fun e => hP _ _ σ _ (.bool true) R Step.refl (e ▸ q)
    have p1 : r = false → P (.bool false) { s with toks := s.toks + 1 } := fun e => hP _ _ σ _ (.bool false) (R.tok _) Step.refl (e ▸ q)
    unfold isi at hr
    split at hr
    · cases h1
      split at hr
      · rename_i e; subst e; cases hr; exact IsiPair.bool_bool (p0 rfl)
      · split at hr
        · rename_i e; subst e; cases hr; exact IsiPair.bool_int (p0 rfl)
        · split at hr
          · rename_i e; cases hr
            simp only [List.mem_cons, List.not_mem_nil, or_false] at e
            rcases e with rfl | rfl | rfl | rfl
            · exact IsiPair.bool_str (p1 rfl)
            · exact IsiPair.bool_list (p1 rfl)
            · exact IsiPair.bool_dict (p1 rfl)
            · exact IsiPair.bool_tuple (p1 rfl)
          · cases hr
    · cases h1
      split at hr
      · rename_i e; subst e; cases hr; exact IsiPair.int_int (p0 rfl)
      · split at hr
        · rename_i e; cases hr
          simp only [List.mem_cons, List.not_mem_nil, or_false] at e
          rcases e with rfl | rfl | rfl | rfl | rfl
          · exact IsiPair.int_bool (p1 rfl)
          · exact IsiPair.int_str (p1 rfl)
          · exact IsiPair.int_list (p1 rfl)
          · exact IsiPair.int_dict (p1 rfl)
          · exact IsiPair.int_tuple (p1 rfl)
        · cases hr
    · cases h1
      split at hr
      · rename_i e; subst e; cases hr; exact IsiPair.str_str (p0 rfl)
      · split at hr
        · rename_i e; cases hr
          simp only [List.mem_cons, List.not_mem_nil, or_false] at e
          rcases e with rfl | rfl | rfl | rfl | rfl
          · exact IsiPair.str_bool (p1 rfl)
          · exact IsiPair.str_int (p1 rfl)
          · exact IsiPair.str_list (p1 rfl)
          · exact IsiPair.str_dict (p1 rfl)
          · exact IsiPair.str_tuple (p1 rfl)
        · cases hr
    · cases h1 with
      | @tup _ a ws ht hvs =>
      obtain ⟨o, ho, hc, _⟩ := ht
      split at hr
      · rename_i e; subst e; cases hr; exact IsiPair.tuple_tuple ho hc (p0 rfl)
      · split at hr
        · rename_i e; cases hr
          simp only [List.mem_cons, List.not_mem_nil, or_false] at e
          rcases e with rfl | rfl | rfl | rfl | rfl
          · exact IsiPair.tuple_bool ho hc (p1 rfl)
          · exact IsiPair.tuple_int ho hc (p1 rfl)
          · exact IsiPair.tuple_list ho hc (p1 rfl)
          · exact IsiPair.tuple_dict ho hc (p1 rfl)
          · exact IsiPair.tuple_str ho hc (p1 rfl)
        · cases hr
    · cases h1
      split at hr
      · rename_i hx
        obtain ⟨hz, ws, ⟨n, hn⟩, h2⟩ := R.view _ _ hx
        split at hr
        · rename_i e; subst e; cases hr; exact IsiPair.list_list hn rfl (p0 rfl)
        · split at hr
          · rename_i e; cases hr
            simp only [List.mem_cons, List.not_mem_nil, or_false] at e
            rcases e with rfl | rfl | rfl | rfl | rfl
            · exact IsiPair.list_bool hn rfl (p1 rfl)
            · exact IsiPair.list_int hn rfl (p1 rfl)
            · exact IsiPair.list_tuple hn rfl (p1 rfl)
            · exact IsiPair.list_dict hn rfl (p1 rfl)
            · exact IsiPair.list_str hn rfl (p1 rfl)
          · cases hr
      · rename_i hx
        obtain ⟨hz, ws, ⟨o, es, hn, hc, _⟩, h2⟩ := R.view _ _ hx
        split at hr
        · rename_i e; subst e; cases hr; exact IsiPair.dict_dict hn hc.1 (p0 rfl)
        · split at hr
          · rename_i e; cases hr
            simp only [List.mem_cons, List.not_mem_nil, or_false] at e
            rcases e with rfl | rfl | rfl | rfl | rfl
            · exact IsiPair.dict_bool hn hc.1 (p1 rfl)
            · exact IsiPair.dict_int hn hc.1 (p1 rfl)
            · exact IsiPair.dict_tuple hn hc.1 (p1 rfl)
            · exact IsiPair.dict_list hn hc.1 (p1 rfl)
            · exact IsiPair.dict_str hn hc.1 (p1 rfl)
          · cases hr
      · cases hr
    · cases hr
  · exact q.elim
/- min, max of two ints; int of a bool; str of an int -/
noncomputable def spMin : Spec
  | [.int a, .int b], σ, Q => Q (.int (min a b)) σ
  | _, _, _ => False
noncomputable def spMax : Spec
  | [.int a, .int b], σ, Q => Q (.int (max a b)) σ
  | _, _, _ => False
noncomputable def spInt : Spec
  | [.bool b], σ, Q => Q (.int (if b then 1 else 0)) σ
  | _, _, _ => False
theorem ok_int : OpN C k (fun ws => PySem.call (.type "int") ws) spInt := by
  intro A s σ vs ws Q P E ao R hv q hP
  unfold spInt at q
  split at q
  · obtain ⟨wa, rfl, h1⟩ := hv.inv1
    cases h1
    exact call_int_bool (hP _ _ σ _ (.int _ _) (R.tok _) Step.refl q)
  · exact q.elim
noncomputable def spStr : Spec
  | [.int i], σ, Q => i.natAbs.log2 < 1920 ∧ Q (.str (Str.ofString (toString i))) σ
  | _, _, _ => False
theorem ok_str : OpN C k (fun ws => PySem.call (.type "str") ws) spStr := by
  intro A s σ vs ws Q P E ao R hv q hP
  unfold spStr at q
  split at q
  · obtain ⟨wa, rfl, h1⟩ := hv.inv1
    cases h1
    exact _root_.PySem.P.str_of_int q.1 (hP _ _ σ _ (.str _ _) (R.tok _) Step.refl q.2)
  · exact q.elim
end
end Mine


end
noncomputable section
set_option autoImplicit false
set_option linter.unusedVariables false
namespace Mine
open PySem

section
variable {C : Cx} {sc : Scope} {k : Nat}
/- + -/
noncomputable def opAdd : O2
  | .int x, .int y, σ, Q => Q (.int (x + y)) σ
  | .str x, .str y, σ, Q => x.length + y.length ≤ 16777216 ∧ Q (.str (x ++ y)) σ
  | .ref a, .ref b, σ, Q => ∃ xs ys, σ a = some (.list xs) ∧ σ b = some (.list ys) ∧ xs.length + ys.length ≤ 16777216 ∧ newL (xs ++ ys) σ Q
  | _, _, _, _ => False
theorem ok_add : Op2 C k (binaryOp .Add) opAdd := by
  intro A s σ a b wa wb Q P E ao R va vb q hP
  cases a <;> first | exact q.elim | skip
  all_goals (cases b <;> first | exact q.elim | skip)
  · cases va; cases vb
    exact _root_.PySem.P.add_int (hP _ _ σ _ (.int _ _) (R.tok _) Step.refl q)
  · cases va; cases vb
    exact SB.add (fun t' tk => hP _ _ σ _ (.str _ _) (R.tok _) Step.refl q.2) (by rw [sizeLine_eq]; exact q.1)
  · rename_i a b
    cases va; cases vb
    obtain ⟨xs, ys, hx, hy, hz, q⟩ := q
    obtain ⟨_, ws, ⟨n, h1⟩, h2⟩ := R.view _ _ hx
    obtain ⟨_, us, ⟨n', h3⟩, h4⟩ := R.view _ _ hy
    have e1 := h2.length
    have e2 := h4.length
    have e : ws.toArray ++ us.toArray = (ws ++ us).toArray := by simp
    refine concat_meets ⟨_, h1, rfl⟩ ⟨_, h3, rfl⟩ noFill_list_add seq_list_add _root_.PySem.F.slot_list_add _root_.PySem.F.entry_list_add (_root_.PySem.F.args_list_add_2 _ _)
      (PyProof.Rows.list_addW a b ws.toArray us.toArray n n' Option.none Option.none #[] #[] (by rw [List.size_toArray, List.size_toArray, sizeLine_eq]; omega)) ⟨h1, h3, ?_⟩
    rw [e]
    exact push_list (A := A) (tk := s.toks) R (h2.append h4) (by rw [List.length_append]; exact hz) q hP
/- equality, deep -/
noncomputable def all2 (f : V → V → Option Bool) : List V → List V → Option Bool
  | [], [] => some true
  | a :: as, b :: bs => match f a b, all2 f as bs with
    | some x, some y => some (x && y)
    | _, _ => Option.none
  | _, _ => Option.none
theorem eqAt0 {A : Around} {s : Shared} {a b : V} {wa wb : Value} {r : Bool} (h : veq0 a b = some r) (va : VRel C.aS s.heap a wa) (vb : VRel C.aS s.heap b wb) : SeqAt.EqAt A s wa wb r := by
  unfold veq0 at h
  split at h <;> cases h <;> cases va <;> cases vb
  · exact SeqAt.EqAt.same _
  · exact SeqAt.EqAt.none_str _ _
  · exact SeqAt.EqAt.str_none _ _
  · exact SeqAt.EqAt.bool_bool _ _
  · rw [← beq_dec]; exact SeqAt.EqAt.int_int _ _ _ _
  · rw [← beq_dec]; exact SeqAt.EqAt.str_str _ _ _ _
theorem veq0_self {s : Shared} {a b : V} {w : Value} {r : Bool} (h : veq0 a b = some r) (va : VRel C.aS s.heap a w) (vb : VRel C.aS s.heap b w) : r = true := by
  unfold veq0 at h
  split at h <;> cases h <;> cases va <;> cases vb <;> simp
/- in a list, in a tuple -/
noncomputable def anyEq (x : V) : List V → Option Bool
  | [] => some false
  | y :: r => match veq0 y x, anyEq x r with
    | some a, some b => some (a || b)
    | _, _ => Option.none
noncomputable def eqv : Value → Value → Bool
  | .none, .none => true
  | .bool a, .bool b => a == b
  | .int a _, .int b _ => decide (a = b)
  | .str a _, .str b _ => decide (a = b)
  | _, _ => false
theorem eqv_of {s : Shared} {a b : V} {wa wb : Value} {r : Bool} (h : veq0 a b = some r) (va : VRel C.aS s.heap a wa) (vb : VRel C.aS s.heap b wb) : eqv wa wb = r := by
  unfold veq0 at h
  split at h <;> cases h <;> cases va <;> cases vb <;> rfl
theorem any_rel {s : Shared} {A : Around} {x : V} {wx : Value} (hx : VRel C.aS s.heap x wx) : ∀ {ys : List V} {ws : List Value} {r : Bool}, anyEq x ys = some r → VRels C.aS s.heap ys ws →
    (∀ w ∈ ws, SeqAt.EqAt A s w wx (eqv w wx)) ∧ ws.any (fun w => eqv w wx) = r
  | [], _, r, h, hn => by cases h; rw [hn.inv0]; exact ⟨fun _ hw => (nomatch hw), rfl⟩
  | y :: ys, _, r, h, hc => by
    obtain ⟨w, ws, rfl, hy, hr⟩ := hc.invC
    unfold anyEq at h
    split at h
    · rename_i a b h1 h2
      cases h
      obtain ⟨i1, i2⟩ := any_rel (A := A) hx h2 hr
      refine ⟨fun w' hw => ?_, ?_⟩
      · rcases List.mem_cons.mp hw with rfl | hw
        · rw [eqv_of h1 hy hx]; exact eqAt0 h1 hy hx
        · exact i1 w' hw
      · rw [List.any_cons, i2, eqv_of h1 hy hx]
    · cases h
noncomputable def opInL : O2
  | x, .ref a, σ, Q => ∃ ys r, σ a = some (.list ys) ∧ anyEq x ys = some r ∧ Q (.bool r) σ
  | x, .tup ys, σ, Q => ∃ r, anyEq x ys = some r ∧ Q (.bool r) σ
  | _, _, _, _ => False
theorem ok_inL : Op2 C k (compareOp .In) opInL := by
  intro A s σ a b wa wb Q P E ao R va vb q hP
  cases b <;> first | exact q.elim | skip
  · cases vb
    obtain ⟨ys, r, hy, hr, q⟩ := q
    obtain ⟨_, ws, h1, h2⟩ := R.view _ _ hy
    obtain ⟨i1, i2⟩ := any_rel (A := A.in1) va hr h2
    refine SeqAt.in_listAt (fun w => eqv w wa) h1.isList (fun y hy => i1 y (by simpa using hy)) ?_
    rw [← Array.any_toList, i2]
    exact hP _ _ σ s (.bool r) R Step.refl q
  · cases vb with | @tup _ p ws ht hvs =>
    obtain ⟨r, hr, q⟩ := q
    obtain ⟨i1, i2⟩ := any_rel (A := A.in1) va hr hvs
    refine SeqAt.in_tupleAt (fun w => eqv w wa) ht (fun y hy => i1 y (by simpa using hy)) ?_
    rw [← Array.any_toList, i2]
    exact hP _ _ σ s (.bool r) R Step.refl q
/- append -/
noncomputable def spAppend : Spec
  | [.ref a, v], σ, Q => ∃ xs, σ a = some (.list xs) ∧ xs.length < 16777216 ∧ Q .none (upd σ a (.list (xs ++ [v])))
  | _, _, _ => False
theorem ok_append : OpN C k (fun ws => PySem.call (.builtin "list.append") ws) spAppend := by
  intro A s σ vs ws Q P E ao R hv q hP
  unfold spAppend at q
  split at q
  · rename_i a v
    obtain ⟨wa, wb, rfl, h1, h2⟩ := hv.inv2
    cases h1
    obtain ⟨xs, hx, hz, q⟩ := q
    obtain ⟨_, ws, h3, h4⟩ := R.view _ _ hx
    have e := h4.length
    refine wpAny_list_append_plain h3 (fun h' hp' hs' => ?_) (by rw [List.size_toArray, ← e, sizeLine_eq]; omega)
    obtain ⟨n, hn⟩ := h3
    have kt : TupKeep s.heap h' := fun b o eb ht => hs'.extBut b o (by rintro rfl; rw [hn] at eb; cases eb; simp [IsT] at ht) eb
    refine hP .none .none (upd σ a (.list (xs ++ [v]))) _ .none (R.change (tk := s.toks) hx hs' ⟨by simp; omega, ws ++ [wb], by simpa using hp', (h4.append (.cons h2 .nil)).keep kt⟩) (.change hx hs') q
  · exact q.elim
/- xs[i] = v -/
noncomputable def sSetItem (op : V → V → V → View → (View → Prop) → Prop) (T To Ti : ET) : ST := fun m σ Q => T m σ fun v σ₁ => To m σ₁ fun o σ₂ => Ti m σ₂ fun i σ₃ => op o i v σ₃ fun σ₄ => Q .next m σ₄
noncomputable def OpSet (C : Cx) (k : Nat) (op : V → V → V → View → (View → Prop) → Prop) : Prop :=
  ∀ (A : Around) (s : Shared) (σ : View) (o i v : V) (wo wi w : Value) (Q : View → Prop) (P : Unit → Shared → Prop) (E : Value → Shared → Prop), AOk C A k → RelG C σ s → VRel C.aS s.heap o wo → VRel C.aS s.heap i wi → VRel C.aS s.heap v w → op o i v σ Q →
    (∀ σ' s', RelG C σ' s' → Step no σ σ' s.heap s'.heap → Q σ' → P () s') → wpAny (model C.prog C.w) A (setItem wo wi w) P E s
theorem HS1.setItem {o i value : Expr} {p pos : Pos} {op : V → V → V → View → (View → Prop) → Prop} {T To Ti : ET} (hop : OpSet C k op) (hv : HE C sc k value T) (ho : HE C sc k o To) (hi : HE C sc k i Ti)
    (hs : ∀ env, EnvOk env sc → swapsWith value (some (.Subscript o i p)) pos.line env = pure false) : HS1 C sc k (.Assign [.Subscript o i p] value pos) (sSetItem op T To Ti) := by
  refine ⟨?_⟩; intro env A s m σ Q P E en ao R F q hP
  refine wpAny_Assign_Subscript (hv.run env A s m σ _ _ E en ao R F q fun v w σ₁ s₁ v1 R₁ S₁ q₁ => ?_) (hs env en)
  have F₁ := F.step R S₁
  refine ho.run env A s₁ m σ₁ _ _ E en ao R₁ F₁ q₁ fun o wo σ₂ s₂ v2 R₂ S₂ q₂ => ?_
  have F₂ := F₁.step R₁ S₂
  refine hi.run env A s₂ m σ₂ _ _ E en ao R₂ F₂ q₂ fun i wi σ₃ s₃ v3 R₃ S₃ q₃ => ?_
  have F₃ := F₂.step R₂ S₃
  have k₂ := S₂.tupsN R₁
  have k₃ := S₃.tupsN R₂
  refine hop A s₃ σ₃ o i v wo wi w _ _ E ao R₃ (v2.keep k₃) v3 ((v1.keep k₂).keep k₃) q₃ fun σ₄ s₄ R₄ S₄ q₄ => ?_
  have S := ((S₁.trans S₂).trans S₃).trans S₄
  exact hP .next .next m σ₄ s₄ .next R₄ (F.step R S) S.own q₄
/- a, b = t -/
noncomputable def namesAt (l : List (String × Pos)) : List Expr := l.map fun p => Expr.Name (Str.ofString p.1) p.2
theorem each_cons (p : String × Pos) (l : List (String × Pos)) (env : Env) : assignEach (namesAt (p :: l)) env = (false, assign (.Name (Str.ofString p.1) p.2) env) :: assignEach (namesAt l) env := rfl
theorem each_len (env : Env) : ∀ (l : List (String × Pos)), (assignEach (namesAt l) env).length = l.length ∧ (assignEach (namesAt l) env).findIdx? (·.1) = Option.none
  | [] => ⟨rfl, rfl⟩
  | p :: r => by
    rw [each_cons]
    refine ⟨by simp [(each_len env r).1], ?_⟩
    rw [List.findIdx?_cons]
    simp [(each_len env r).2]
theorem assignNames {env : Env} {A : Around} {E : Value → Shared → Prop} (en : EnvOk env sc) (l : List (String × Pos)) : ∀ (vs : List V) (ws : List Value) (s : Shared) (m : Loc) (σ : View) (P : Unit → Shared → Prop), l.length = vs.length → (∀ x ∈ l, sc.names.lookup (Str.ofString x.1) = some .local) →
    RelG C σ s → FrameRel C env m σ s.heap → VRels C.aS s.heap vs ws →
    (∀ s', RelG C σ s' → FrameRel C env (bindM (l.map (·.1)) vs m) σ s'.heap → Step (fun b => b = env.locals) σ σ s.heap s'.heap → P () s') →
    wpAny (model C.prog C.w) A (assignInOrder ((assignEach (namesAt l) env).map (·.2)) ws) P E s := by
  induction l with
  | nil =>
    intro vs ws s m σ P h1 h2 R F hv h
    cases vs with
    | nil => cases hv; exact wpAny_pure (h s R F Step.refl)
    | cons => simp at h1
  | cons x l ih =>
    intro vs ws s m σ P h1 h2 R F hv h
    cases vs with
    | nil => simp at h1
    | cons v vs =>
      cases hv with | @cons _ w _ ws hv hvs =>
      rw [each_cons, List.map_cons]
      have e : assignInOrder (assign (.Name (Str.ofString x.1) x.2) env :: (assignEach (namesAt l) env).map (·.2)) (w :: ws) = (do holding ws (assign (.Name (Str.ofString x.1) x.2) env w); assignInOrder ((assignEach (namesAt l) env).map (·.2)) ws) := by rw [assignInOrder]
      show wpAny _ A (assignInOrder (assign (.Name (Str.ofString x.1) x.2) env :: (assignEach (namesAt l) env).map (·.2)) (w :: ws)) P E s
      rw [e]
      refine wpAny_bind (wpAny_holding (wpAny_assign_Name (store_local en R F (h2 x (.head _)) hv fun s₁ R₁ F₁ S₁ => ?_)))
      have kt : TupKeep s.heap s₁.heap := S₁.tups R fun b o z e => by subst z; exact F.ownT _ o (.inl rfl) e
      exact ih vs ws s₁ (put m x.1 v) σ P (by simpa using h1) (fun y hy => h2 y (.tail _ hy)) R₁ F₁ (hvs.keep kt) fun s₂ R₂ F₂ S₂ => h s₂ R₂ F₂ (S₁.trans S₂)
theorem FrameRel.grow {env : Env} {m : Loc} {σ : View} {h h' : Heap} (F : FrameRel C env m σ h) (keep : ∀ b o, h.get? b = some o → h'.get? b = some o) : FrameRel C env m σ h' := by
  have kt : TupKeep h h' := fun b o e _ => keep b o e
  have kc : ∀ c v, h.IsCell c v → h'.IsCell c v := fun c v ⟨o, ho, hd⟩ => ⟨o, keep c o ho, hd⟩
  obtain ⟨mm, hn, hv⟩ := F.ns
  refine ⟨⟨mm, hn.keeps keep, fun x v e k => ?_⟩, fun x v e => ?_, fun n c e => ?_, F.sepL, F.baseL, F.baseC, F.dist, F.has⟩
  · obtain ⟨w, h1, h2⟩ := hv x v e k; exact ⟨w, h1, h2.keep kt⟩
  · rcases F.cel x v e with q | ⟨q, c, w, h1, h2, h3⟩
    · exact .inl q
    · exact .inr ⟨q, c, w, h1, kc _ _ h2, h3.keep kt⟩
  · obtain ⟨v, hv⟩ := F.cells n c e; exact ⟨v, kc _ _ hv⟩
theorem HT.tup (O : C.Ok) {l : List (String × Pos)} {n : Nat} {pos : Pos} (hx : ∀ x ∈ l, sc.names.lookup (Str.ofString x.1) = some .local) : HT C sc k true (.Tuple (namesAt l) n pos) (.tup (l.map (·.1))) := by
  refine ⟨?_⟩; intro env A s m m' σ v w P E en ao R F hv hb hP
  cases v <;> simp only [bindT] at hb <;> first | cases hb | skip
  split at hb
  · rename_i vs hlen
    cases hb
    cases hv with | @tup _ t ws ht hvs =>
    have hlen' : l.length = vs.length := by simpa using hlen
    refine with_size (assignH (ao.hd O R) ht (by rw [(each_len env _).1, List.size_toArray, ← hvs.length, hlen']) (each_len env _).2 fun h' hx' => ?_)
    have keep : ∀ b o, s.heap.get? b = some o → h'.get? b = some o := fun b o e => hx' b o (Nat.ne_of_lt (Heap.lt_size e)) e
    have e : ws.toArray.toList = ws := by simp
    rw [e]
    refine assignNames en l vs ws _ m σ _ hlen' hx (R.grow (tk := s.toks) keep) (F.grow keep) (hvs.keep fun b o e _ => keep b o e) fun s₂ R₂ F₂ S₂ hsz => ?_
    exact hP s₂ R₂ F₂ ⟨fun b o e n q => S₂.keepL b o (keep b o e) n fun z => q (.inl z), hsz, fun _ a b => absurd a b⟩
  · cases hb
end
end Mine


end
noncomputable section
set_option autoImplicit false
namespace Mine
open PySem PySem.W PyProof.Rows PySem.Calls

/- the text's defs as they stand in the program -/
noncomputable def bodyAt (p : Program) (n : Nat) : List Stmt := match p.main.body[n]? with | some (.FunctionDef _ _ b _ _ _ _ _ _ _) => b | _ => []
noncomputable def scopeAt (p : Program) (n : Nat) : Scope := match p.main.body[n]? with | some (.FunctionDef _ _ _ _ _ _ s _ _ _) => s | _ => default
noncomputable def parsAt (p : Program) (n : Nat) : Arguments := match p.main.body[n]? with | some (.FunctionDef _ a _ _ _ _ _ _ _ _) => a | _ => default
noncomputable def posAt (p : Program) (n : Nat) : Pos := match p.main.body[n]? with | some (.FunctionDef _ _ _ _ _ _ _ _ _ q) => q | _ => default

/-- the def f of the text is at its place and keeps its contract -/
noncomputable def FnAt (C : Cx) (j : Nat) (f : String) (spec : Spec) : Prop :=
  ∃ a o fd, C.mg (Str.ofString f) = some (.ref a) ∧ C.hB.get? a = some o ∧ o.data = .func fd ∧ FnSound C j a spec

/-- what the walk knows of the globals -/
structure Gl (C : Cx) (p : Program) : Prop where
  ok : C.Ok
  mb : ∀ x : Str, x ≠ "__name__" → C.mb x = bootBuiltins x
  free : ∀ x ∈ ["len", "range", "min", "max", "isinstance", "bool", "str", "int", "list", "dict", "set", "sorted", "tuple", "sum", "type"], C.mg (Str.ofString x) = Option.none
  fn : ∀ d ∈ recsOf p, ∃ a o pm code doc, C.mg d.name = some (.ref a) ∧ C.hB.get? a = some o ∧ o.data = .func (docDef d.name d.params d.body d.scope pm code doc) ∧ C.hB.CodeRec code d.name

variable {C : Cx} {p : Program}
theorem Gl.blt (G : Gl C p) {x : String} {v : Value} (h : bootBuiltins (Str.ofString x) = some v) (hx : x ≠ "__name__") : C.mb (Str.ofString x) = some v := by
  rw [G.mb _ (fun e => hx (ofString_inj e)), h]

theorem HE.callAt (G : Gl C p) {sc : Scope} {k : Nat} {f : String} {np pos : Pos} {es : List Expr} {L : LT} {spec : Spec} {j : Nat} (hf : FnAt C j f spec) (hj : j < k)
    (hn : sc.names.lookup (Str.ofString f) = some .globalImplicit) (hdb : (Str.ofString f == ("__debug__" : Str)) = false)
    (hl : HL C sc k es L) (hp : plainArgs es = true) : HE C sc k (.Call (.Name (Str.ofString f) np) es [] pos) (eCall spec L) := by
  obtain ⟨a, o, fd, h1, h2, h3, h4⟩ := hf
  exact HE.call G.ok h4 hj hn h1 h2 h3 hdb hl hp

theorem FnAt.mk (G : Gl C p) (i n : Nat) {f : String} {xs : List String} {j : Nat} {spec : Spec} {T : ST}
    (hm : (recsOf p)[i]? = some ⟨Str.ofString f, parsAt p n, bodyAt p n, scopeAt p n, posAt p n⟩)
    (hk : (scopeAt p n).kind = .function) (hfr : ((scopeAt p n).names.all fun q => q.2 != .free) = true) (hco : (scopeAt p n).isCoroutine = false) (hgen : (scopeAt p n).isGenerator = false)
    (hbind : ∀ (ws : List Value) (pm code doc : Value), ws.length = xs.length → bindArgs (docDef (Str.ofString f) (parsAt p n) (bodyAt p n) (scopeAt p n) pm code doc) ⟨ws, []⟩ = pure ((xs.map Str.ofString).zip ws))
    (hloc : (xs.all fun x => (scopeAt p n).names.lookup (Str.ofString x) == some .local || (scopeAt p n).names.lookup (Str.ofString x) == some .cell) = true)
    (hT : HS C (scopeAt p n) j (bodyAt p n) T)
    (hspec : ∀ vs σ Q, spec vs σ Q → vs.length = xs.length ∧ T (bindM xs vs none') σ fun f _ σ' => match f with | .ret v => Q v σ' | .next => Q .none σ' | _ => False) : FnAt C j f spec := by
  obtain ⟨a, o, pm, code, doc, h1, h2, h3, h4⟩ := G.fn _ (List.mem_of_getElem? hm)
  refine ⟨a, o, _, h1, h2, h3, FnSound.mk G.ok (xs := xs) h2 h3 h4 rfl rfl rfl rfl rfl hk ?_ hco hgen (fun ws hw => hbind ws pm code doc hw) ?_ hT hspec⟩
  · intro q hq
    have := List.all_eq_true.mp hfr q hq
    simpa using this
  · intro x hx
    have := List.all_eq_true.mp hloc x hx
    simp only [Bool.or_eq_true, beq_iff_eq] at this
    exact this

theorem ints_get {vs : List Value} {ns : List Int} (h : IntsAre vs ns) : vs.length = ns.length ∧ ∀ (i : Nat) n, ns[i]? = some n → ∃ t, vs[i]? = some (Value.int n t) := by
  induction h with
  | nil => exact ⟨rfl, fun i n e => by simp at e⟩
  | cons a t h ih =>
    refine ⟨by simp [ih.1], fun i n e => ?_⟩
    cases i with
    | zero => simp at e; subst e; exact ⟨_, rfl⟩
    | succ i => simpa using ih.2 i n (by simpa using e)
theorem Cx.ok_of {C : Cx} (hz : C.held = none) {vs : List Value} {loose : List Str} {mean : ExcName → Option Value} (T : Top p loose mean C.mg C.mb C.hB) (hi : importsNone p = true) (hL : C.hB.IsList C.aS vs.toArray) (hI : IntsAre vs C.ns) (hn : ¬ (63 : Int) < (C.ns.length : Int)) : C.Ok where
  g := T.g
  b := T.b
  nolimit := T.nolimit
  mods := by obtain ⟨mm, ⟨o, _, _, ho, _⟩, _⟩ := (T.seer hi).mods; exact ⟨o, ho⟩
  few := by omega
  heldOk := fun e he => by rw [hz] at he; cases he
  script := ⟨_, hL, by simpa using (ints_get hI).1, by simpa using (ints_get hI).2⟩
theorem Gl.of {C : Cx} {loose : List Str} {mean : ExcName → Option Value} (T : Top p loose mean C.mg C.mb C.hB) (ok : C.Ok)
    (hf : (["len", "range", "min", "max", "isinstance", "bool", "str", "int", "list", "dict", "set", "sorted", "tuple", "sum", "type"].all fun x : String => !(startupNames ++ loose ++ (recsOf p).map (·.name) ++ (litsOf p).map (·.1) ++ (clssOf p loose).map (·.name)).contains (Str.ofString x)) = true) : Gl C p where
  ok := ok
  mb := T.builtins
  fn := T.fn
  free := fun x hx => by
    have := List.all_eq_true.mp hf x hx
    simp only [Bool.not_eq_true', List.contains_eq_mem, decide_eq_false_iff_not, List.mem_append, not_or] at this
    obtain ⟨⟨⟨⟨h1, h2⟩, h3⟩, h4⟩, h5⟩ := this
    exact T.free _ h1 h2 h3 h4 h5
end Mine


end
noncomputable section
set_option autoImplicit false
namespace Mine
open PySem PySem.W PyProof.Rows PySem.Calls

section
variable {C : Cx} {p : Program} {sc : Scope} {k : Nat}
theorem bb_len : bootBuiltins (Str.ofString "len") = some (.builtin "len") := by decide +kernel
theorem bb_max : bootBuiltins (Str.ofString "max") = some (.builtin "max") := by decide +kernel
theorem bb_isi : bootBuiltins (Str.ofString "isinstance") = some (.builtin "isinstance") := by decide +kernel
theorem bb_range : bootBuiltins (Str.ofString "range") = some (.type "range") := by decide +kernel
theorem bb_bool : bootBuiltins (Str.ofString "bool") = some (.type "bool") := by decide +kernel
theorem bb_str : bootBuiltins (Str.ofString "str") = some (.type "str") := by decide +kernel
theorem bb_int : bootBuiltins (Str.ofString "int") = some (.type "int") := by decide +kernel
theorem bb_list : bootBuiltins (Str.ofString "list") = some (.type "list") := by decide +kernel
theorem bb_dict : bootBuiltins (Str.ofString "dict") = some (.type "dict") := by decide +kernel
theorem HE.len (G : Gl C p) {np pos : Pos} {es : List Expr} {L : LT} (hn : sc.names.lookup (Str.ofString "len") = some .globalImplicit) (hl : HL C sc k es L) (hp : plainArgs es = true) : HE C sc k (.Call (.Name (Str.ofString "len") np) es [] pos) (eCall (spLen C.ns) L) :=
  HE.builtin G.ok (ok_len G.ok) hn (G.free _ (by decide)) (G.blt bb_len (by decide)) rfl hl hp
theorem HE.isi (G : Gl C p) {np pos : Pos} {es : List Expr} {L : LT} (hn : sc.names.lookup (Str.ofString "isinstance") = some .globalImplicit) (hl : HL C sc k es L) (hp : plainArgs es = true) : HE C sc k (.Call (.Name (Str.ofString "isinstance") np) es [] pos) (eCall spIsi L) :=
  HE.builtin G.ok ok_isi hn (G.free _ (by decide)) (G.blt bb_isi (by decide)) rfl hl hp
theorem HE.intC (G : Gl C p) {np pos : Pos} {es : List Expr} {L : LT} (hn : sc.names.lookup (Str.ofString "int") = some .globalImplicit) (hl : HL C sc k es L) (hp : plainArgs es = true) : HE C sc k (.Call (.Name (Str.ofString "int") np) es [] pos) (eCall spInt L) :=
  HE.btype G.ok ok_int hn (G.free _ (by decide)) (G.blt bb_int (by decide)) rfl hl hp
theorem HE.strC (G : Gl C p) {np pos : Pos} {es : List Expr} {L : LT} (hn : sc.names.lookup (Str.ofString "str") = some .globalImplicit) (hl : HL C sc k es L) (hp : plainArgs es = true) : HE C sc k (.Call (.Name (Str.ofString "str") np) es [] pos) (eCall spStr L) :=
  HE.btype G.ok ok_str hn (G.free _ (by decide)) (G.blt bb_str (by decide)) rfl hl hp
theorem HI.rng (G : Gl C p) (hz : C.held = Option.none) {np pos : Pos} {es : List Expr} {L : LT} (hn : sc.names.lookup (Str.ofString "range") = some .globalImplicit) (hl : HL C sc k es L) (hp : plainArgs es = true) : HI C sc k (.Call (.Name (Str.ofString "range") np) es [] pos) (iRange L) :=
  HI.range G.ok hz hl hp hn (G.free _ (by decide)) (G.blt bb_range (by decide))
/- types by name -/
theorem HE.gBool (G : Gl C p) {pos : Pos} (h : sc.names.lookup (Str.ofString "bool") = some .globalImplicit) : HE C sc k (.Name (Str.ofString "bool") pos) (eVal (.ty "bool")) := HE.gty G.ok h (G.free _ (by decide)) (G.blt bb_bool (by decide)) rfl
theorem HE.gInt (G : Gl C p) {pos : Pos} (h : sc.names.lookup (Str.ofString "int") = some .globalImplicit) : HE C sc k (.Name (Str.ofString "int") pos) (eVal (.ty "int")) := HE.gty G.ok h (G.free _ (by decide)) (G.blt bb_int (by decide)) rfl
/- methods -/
theorem HE.split {o : Expr} {apos pos : Pos} {es : List Expr} {To : ET} {L : LT} (ho : HE C sc k o To) (hl : HL C sc k es L) (hp : plainArgs es = true)
    (hbase : ∀ env, attributeBase o (Str.ofString "split") env (eval o env) = eval o env) (hline : (apos.endLine == pos.line) = true) (hfew : es.length < 30) : HE C sc k (.Call (.Attribute o (Str.ofString "split") apos) es [] pos) (eMeth tyStr spSplit To L) :=
  HE.meth tyStr_ok F.plainAttrs_str F.slot_str_split F.type_str_split ok_split ho hl hp hbase hline hfew
theorem HE.join {o : Expr} {apos pos : Pos} {es : List Expr} {To : ET} {L : LT} (ho : HE C sc k o To) (hl : HL C sc k es L) (hp : plainArgs es = true)
    (hbase : ∀ env, attributeBase o (Str.ofString "join") env (eval o env) = eval o env) (hline : (apos.endLine == pos.line) = true) (hfew : es.length < 30) : HE C sc k (.Call (.Attribute o (Str.ofString "join") apos) es [] pos) (eMeth tyStr spJoin To L) :=
  HE.meth tyStr_ok F.plainAttrs_str F.slot_str_join F.type_str_join ok_join ho hl hp hbase hline hfew
theorem HE.starts {o : Expr} {apos pos : Pos} {es : List Expr} {To : ET} {L : LT} (ho : HE C sc k o To) (hl : HL C sc k es L) (hp : plainArgs es = true)
    (hbase : ∀ env, attributeBase o (Str.ofString "startswith") env (eval o env) = eval o env) (hline : (apos.endLine == pos.line) = true) (hfew : es.length < 30) : HE C sc k (.Call (.Attribute o (Str.ofString "startswith") apos) es [] pos) (eMeth tyStr spStarts To L) :=
  HE.meth tyStr_ok F.plainAttrs_str F.slot_str_startswith F.type_str_startswith ok_starts ho hl hp hbase hline hfew
theorem HE.append {o : Expr} {apos pos : Pos} {es : List Expr} {To : ET} {L : LT} (ho : HE C sc k o To) (hl : HL C sc k es L) (hp : plainArgs es = true)
    (hbase : ∀ env, attributeBase o (Str.ofString "append") env (eval o env) = eval o env) (hline : (apos.endLine == pos.line) = true) (hfew : es.length < 30) : HE C sc k (.Call (.Attribute o (Str.ofString "append") apos) es [] pos) (eMeth tyList spAppend To L) :=
  HE.meth tyList_ok F.plainAttrs_list F.slot_list_append F.type_list_append ok_append ho hl hp hbase hline hfew
theorem HE.item (G : Gl C p) {value slice : Expr} {pos : Pos} {T U : ET} (hv : HE C sc k value T) (hi : HE C sc k slice U) (hs : isSlice slice = false) : HE C sc k (.Subscript value slice pos) (eBin (opItem C.ns) T U) :=
  HE.sub hv hi (ok_item G.ok hs)

/- the tables of a comprehension -/
noncomputable def compOk (sc cs : Scope) (fv gs : List String) : Bool :=
  cs.kind == .function && cs.names.all (fun y => y.2 != .cell) && cs.names.all (fun y => y.2 != .local || cs.names.lookup y.1 == some .local) && decide (cs.names.map (·.1)).Nodup &&
  cs.names.all (fun q => q.2 != .free || fv.any fun x => Str.ofString x == q.1) && fv.all (fun x => cs.names.contains (Str.ofString x, NameKind.free) && (sc.names.lookup (Str.ofString x) == some .cell || sc.names.lookup (Str.ofString x) == some .free)) && gs.all fun x => !fv.contains x
theorem CompOk.of {sc cs : Scope} {fv : List String} {g : Tgt} (h : compOk sc cs fv g.names = true) : CompOk sc cs fv g := by
  unfold compOk at h
  simp only [Bool.and_eq_true, List.all_eq_true, Bool.or_eq_true, bne_iff_ne, beq_iff_eq, decide_eq_true_eq, List.any_eq_true, Bool.not_eq_true', List.contains_eq_mem, decide_eq_false_iff_not] at h
  obtain ⟨⟨⟨⟨⟨⟨h1, h2⟩, h3⟩, h4⟩, h5⟩, h6⟩, h7⟩ := h
  refine ⟨h1, h2, fun y hy e => (h3 y hy).elim (fun n => absurd e n) id, h4, fun q hq e => (h5 q hq).elim (fun n => absurd e n) id, fun x hx => ⟨(h6 x hx).1, (h6 x hx).2⟩, h7⟩
theorem swaps_local {elt : Expr} {gens : List Comprehension} {cs : Scope} {pos : Pos} {t : Str} {q : Pos} {line : Nat} (h : sc.names.lookup t = some .local) (hl : (q.line == pos.line) = true) (hn : (cs.names.any fun y => y.1 == t && (y.2 == .local || y.2 == .cell)) = false) :
    ∀ env, EnvOk env sc → swapsWith (.ListComp elt gens cs pos) (some (.Name t q)) line env = pure true := by
  intro env en
  unfold swapsWith
  have e : env.kindOf t = some .local := en.of h
  have e2 : env.blockKind = .function := by unfold Env.blockKind; rw [en.k]; rfl
  have e3 : (Expr.ListComp elt gens cs pos).pos.line = pos.line := rfl
  simp only [e, e2, e3, hl, hn]
  rfl
end
end Mine


end
noncomputable section
set_option autoImplicit false
namespace Mine
open PySem PySem.W PyProof.Rows PySem.Calls

noncomputable def Grow (σ σ' : View) : Prop := ∀ b o, σ b = some o → σ' b = some o
theorem Grow.refl {σ : View} : Grow σ σ := fun _ _ e => e
theorem Grow.trans {σ₁ σ₂ σ₃ : View} (h : Grow σ₁ σ₂) (h' : Grow σ₂ σ₃) : Grow σ₁ σ₃ := fun b o e => h' b o (h b o e)
theorem Grow.upd {σ σ' : View} {a : Addr} {o : AObj} (h : Grow σ σ') (ha : σ' a = Option.none) : Grow σ (upd σ' a o) := fun b o' e => by
  rw [upd_old ha (h b o' e)]
/-- a new list in a view that has grown -/
noncomputable def newG (xs : List V) (σ : View) (Q : V → View → Prop) : Prop := ∀ a σ', Grow σ σ' → σ a = Option.none → σ' a = some (.list xs) → Q (.ref a) σ'
theorem Grow.none {σ σ' : View} (h : Grow σ σ') {a : Addr} (ha : σ' a = Option.none) : σ a = Option.none := by
  cases e : σ a with
  | none => rfl
  | some o => rw [h a o e] at ha; cases ha

theorem compL_filter {g : Tgt} {inv : View → Prop} {B : BT} {T : ET} {m : Loc} (P : View → Prop) (hinv : ∀ σ, P σ → inv σ) (f : V → Option V) :
    ∀ (items acc : List V) (σ : View) (Q : List V → View → Prop), acc.length + items.length ≤ 1048576 →
    (∀ v ∈ items, ∀ σ (Q₁ : V → View → Prop) (Q₂ : View → Prop), P σ → (∀ σ' y, P σ' → f v = some y → Q₁ y σ') → (∀ σ', P σ' → f v = Option.none → Q₂ σ') → ∃ m', bindT g v m = some m' ∧ B m' σ fun b σ₁ => if b then T m' σ₁ Q₁ else Q₂ σ₁) →
    P σ → (∀ σ', P σ' → Q (acc ++ items.filterMap f) σ') → compL g inv B T m items acc σ Q
  | [], acc, σ, Q, hz, step, p, q => by
    simp only [compL]
    exact ⟨hinv σ p, by simpa using q σ p⟩
  | v :: r, acc, σ, Q, hz, step, p, q => by
    simp only [compL]
    simp at hz
    obtain ⟨m', h1, h2⟩ := step v (.head _) σ (fun y σ₂ => acc.length < 1048576 ∧ compL g inv B T m r (acc ++ [y]) σ₂ Q) (fun σ₁ => compL g inv B T m r acc σ₁ Q) p
      (fun σ' y p' e => ⟨by exact Nat.lt_of_not_le fun hg => Mine.lin [(acc.length), (r.length)] [(1, (.a (.v 0) (.a (.v 1) (.n 1))), (.n 1048576)), (1, (.n 1048576), (.v 0))] rfl hz hg, compL_filter P hinv f r (acc ++ [y]) σ' Q (by simp; exact Nat.le_of_not_lt fun hg => Mine.lin [(acc.length), (r.length)] [(1, (.a (.v 0) (.a (.v 1) (.n 1))), (.n 1048576)), (1, (.a (.n 1048576) (.n 1)), (.a (.a (.v 0) (.n 1)) (.v 1)))] rfl hz hg) (fun v hv => step v (.tail _ hv)) p' fun σ'' p'' => by simpa [e] using q σ'' p''⟩)
      (fun σ' p' e => compL_filter P hinv f r acc σ' Q (by exact Nat.le_of_not_lt fun hg => Mine.lin [(acc.length), (r.length)] [(1, (.a (.v 0) (.a (.v 1) (.n 1))), (.n 1048576)), (1, (.a (.n 1048576) (.n 1)), (.a (.v 0) (.v 1)))] rfl hz hg) (fun v hv => step v (.tail _ hv)) p' fun σ'' p'' => by simpa [e] using q σ'' p'')
    exact ⟨hinv σ p, m', h1, h2⟩
theorem forL_inv {g : Tgt} {inv : View → Prop} {T : ST} (I : Nat → Loc → View → Prop) (R : V → Loc → View → Prop) (hinv : ∀ i m σ, I i m σ → inv σ) (items : List V) {Q : Fl → Loc → View → Prop}
    (step : ∀ i v m σ Q', items[i]? = some v → I i m σ → (∀ m' σ', I (i + 1) m' σ' → Q' .next m' σ') → (∀ m' σ', I (i + 1) m' σ' → Q' .cont m' σ') → (∀ u m' σ', R u m' σ' → Q' (.ret u) m' σ') → ∃ m', bindT g v m = some m' ∧ T m' σ Q')
    (done : ∀ m σ, I items.length m σ → Q .next m σ) (ret : ∀ u m σ, R u m σ → Q (.ret u) m σ) : ∀ (m : Loc) (σ : View), I 0 m σ → forL g inv T items m σ Q := by
  have key : ∀ (n : Nat) (i : Nat) (m : Loc) (σ : View), n = items.length - i → i ≤ items.length → I i m σ → forL g inv T (items.drop i) m σ Q := by
    intro n
    induction n with
    | zero =>
      intro i m σ hn hi h
      have : i = items.length := by exact Nat.le_antisymm (Nat.le_of_not_lt fun hg => Mine.lin [i, (items.length)] [(1, (.v 0), (.v 1)), (1, (.a (.v 1) (.n 1)), (.v 0))] rfl hi hg) (Nat.le_of_not_lt fun hg => Mine.lin [(items.length - i), i, (items.length)] [(1, (.v 0), (.n 0)), (1, (.v 2), (.a (.v 0) (.v 1))), (1, (.a (.v 1) (.n 1)), (.v 2))] rfl (Nat.le_of_eq (Eq.symm hn)) (Mine.sub_lo (items.length) (i)) hg)
      subst this
      rw [List.drop_length]
      exact ⟨hinv _ _ _ h, done m σ h⟩
    | succ n ih =>
      intro i m σ hn hi h
      have hlt : i < items.length := by exact Nat.lt_of_not_le fun hg => Mine.lin [n, (items.length - i), i, (items.length)] [(1, (.a (.v 0) (.n 1)), (.v 1)), (1, (.a (.v 1) (.v 2)), (.v 3)), (1, (.v 3), (.v 2))] rfl (Nat.le_of_eq hn) (Mine.sub_hi (Nat.le_of_not_lt fun hg => Mine.lin [i, (items.length)] [(1, (.v 0), (.v 1)), (1, (.a (.v 1) (.n 1)), (.v 0))] rfl hi hg)) hg
      rw [List.drop_eq_getElem_cons hlt]
      simp only [forL]
      refine ⟨hinv _ _ _ h, step i _ m σ _ (List.getElem?_eq_getElem hlt) h (fun m' σ' h' => ih (i + 1) m' σ' (by exact Nat.le_antisymm (Nat.le_of_not_lt fun hg => Mine.lin [n, (items.length - i), i, (items.length), (items.length - (i + 1))] [(1, (.a (.v 0) (.n 1)), (.v 1)), (1, (.a (.v 1) (.v 2)), (.v 3)), (1, (.v 3), (.a (.v 4) (.a (.v 2) (.n 1)))), (1, (.a (.v 4) (.n 1)), (.v 0))] rfl (Nat.le_of_eq hn) (Mine.sub_hi (Nat.le_of_not_lt fun hg => Mine.lin [i, (items.length)] [(1, (.a (.v 0) (.n 1)), (.v 1)), (1, (.a (.v 1) (.n 1)), (.v 0))] rfl hlt hg)) (Mine.sub_lo (items.length) (i + 1)) hg) (Nat.le_of_not_lt fun hg => Mine.lin [n, (items.length - i), i, (items.length), (items.length - (i + 1))] [(1, (.v 1), (.a (.v 0) (.n 1))), (1, (.v 3), (.a (.v 1) (.v 2))), (1, (.a (.v 4) (.a (.v 2) (.n 1))), (.v 3)), (1, (.a (.v 0) (.n 1)), (.v 4))] rfl (Nat.le_of_eq (Eq.symm hn)) (Mine.sub_lo (items.length) (i)) (Mine.sub_hi (Nat.le_of_not_lt fun hg => Mine.lin [i, (items.length)] [(1, (.a (.v 0) (.n 1)), (.v 1)), (1, (.a (.v 1) (.n 1)), (.a (.v 0) (.n 1)))] rfl hlt hg)) hg)) (by exact Nat.le_of_not_lt fun hg => Mine.lin [i, (items.length)] [(1, (.a (.v 0) (.n 1)), (.v 1)), (1, (.a (.v 1) (.n 1)), (.a (.v 0) (.n 1)))] rfl hlt hg) h') (fun m' σ' h' => ih (i + 1) m' σ' (by exact Nat.le_antisymm (Nat.le_of_not_lt fun hg => Mine.lin [n, (items.length - i), i, (items.length), (items.length - (i + 1))] [(1, (.a (.v 0) (.n 1)), (.v 1)), (1, (.a (.v 1) (.v 2)), (.v 3)), (1, (.v 3), (.a (.v 4) (.a (.v 2) (.n 1)))), (1, (.a (.v 4) (.n 1)), (.v 0))] rfl (Nat.le_of_eq hn) (Mine.sub_hi (Nat.le_of_not_lt fun hg => Mine.lin [i, (items.length)] [(1, (.a (.v 0) (.n 1)), (.v 1)), (1, (.a (.v 1) (.n 1)), (.v 0))] rfl hlt hg)) (Mine.sub_lo (items.length) (i + 1)) hg) (Nat.le_of_not_lt fun hg => Mine.lin [n, (items.length - i), i, (items.length), (items.length - (i + 1))] [(1, (.v 1), (.a (.v 0) (.n 1))), (1, (.v 3), (.a (.v 1) (.v 2))), (1, (.a (.v 4) (.a (.v 2) (.n 1))), (.v 3)), (1, (.a (.v 0) (.n 1)), (.v 4))] rfl (Nat.le_of_eq (Eq.symm hn)) (Mine.sub_lo (items.length) (i)) (Mine.sub_hi (Nat.le_of_not_lt fun hg => Mine.lin [i, (items.length)] [(1, (.a (.v 0) (.n 1)), (.v 1)), (1, (.a (.v 1) (.n 1)), (.a (.v 0) (.n 1)))] rfl hlt hg)) hg)) (by exact Nat.le_of_not_lt fun hg => Mine.lin [i, (items.length)] [(1, (.a (.v 0) (.n 1)), (.v 1)), (1, (.a (.v 1) (.n 1)), (.a (.v 0) (.n 1)))] rfl hlt hg) h') fun u m' σ' h' => ret u m' σ' h'⟩
  intro m σ h
  have := key items.length 0 m σ (by exact Nat.le_antisymm (Nat.le_of_not_lt fun hg => Mine.lin [(items.length)] [(1, (.a (.v 0) (.n 1)), (.v 0))] rfl hg) (Nat.le_of_not_lt fun hg => Mine.lin [(items.length)] [(1, (.a (.v 0) (.n 1)), (.v 0))] rfl hg)) (by exact Nat.le_of_not_lt fun hg => Mine.lin [(items.length)] [(1, (.a (.v 0) (.n 1)), (.n 0))] rfl hg) h
  simpa using this

@[simp] theorem put_at (m : Loc) (x y : String) (v : V) : put m x v y = if y = x then some v else m y := rfl
@[simp] theorem only_at (fv : List String) (m : Loc) (x : String) : only fv m x = if x ∈ fv then m x else Option.none := rfl
theorem len1 {ws : List Value} (h : ws.length = 1) : ∃ a, ws = [a] := by
  match ws, h with
  | [a], _ => exact ⟨a, rfl⟩
theorem len2 {ws : List Value} (h : ws.length = 2) : ∃ a b, ws = [a, b] := by
  match ws, h with
  | [a, b], _ => exact ⟨a, b, rfl⟩
theorem len3 {ws : List Value} (h : ws.length = 3) : ∃ a b c, ws = [a, b, c] := by
  match ws, h with
  | [a, b, c], _ => exact ⟨a, b, c, rfl⟩
theorem len4 {ws : List Value} (h : ws.length = 4) : ∃ a b c d, ws = [a, b, c, d] := by
  match ws, h with
  | [a, b, c, d], _ => exact ⟨a, b, c, d, rfl⟩
theorem range_get {a : Int} {n i : Nat} {v : V} (h : (rangeL a n)[i]? = some v) : i < n ∧ v = .int (a + i) := by
  unfold rangeL at h
  rw [List.getElem?_map] at h
  obtain ⟨j, hj, rfl⟩ := Option.map_eq_some_iff.mp h
  obtain ⟨hlt, hji⟩ := List.getElem?_eq_some_iff.mp hj
  simp at hji hlt
  subst hji
  exact ⟨hlt, rfl⟩
theorem range_len (a : Int) (n : Nat) : (rangeL a n).length = n := by simp [rangeL]
/-- the cell of the script -/
noncomputable def cell (ns : List Int) (k : Int) : Int := ns.getD k.toNat 0
/-- the rest of a block -/
noncomputable def kont (U : ST) (Q : Fl → Loc → View → Prop) : Fl → Loc → View → Prop := fun f m σ => match f with
  | .next => U m σ Q
  | f => Q f m σ
theorem seq_eq (T U : ST) (m : Loc) (σ : View) (Q : Fl → Loc → View → Prop) : sSeq T U m σ Q = T m σ (kont U Q) := by
  unfold sSeq kont; rfl
@[simp] theorem kont_next (U : ST) (Q : Fl → Loc → View → Prop) (m : Loc) (σ : View) : kont U Q .next m σ = U m σ Q := rfl
@[simp] theorem kont_cont (U : ST) (Q : Fl → Loc → View → Prop) (m : Loc) (σ : View) : kont U Q .cont m σ = Q .cont m σ := rfl
@[simp] theorem kont_brk (U : ST) (Q : Fl → Loc → View → Prop) (m : Loc) (σ : View) : kont U Q .brk m σ = Q .brk m σ := rfl
@[simp] theorem kont_ret (U : ST) (Q : Fl → Loc → View → Prop) (v : V) (m : Loc) (σ : View) : kont U Q (.ret v) m σ = Q (.ret v) m σ := rfl
/-- what the end of a def hands on -/
noncomputable def fin (Q : V → View → Prop) : Fl → Loc → View → Prop := fun f _ σ' => match f with | .ret v => Q v σ' | .next => Q .none σ' | _ => False
@[simp] theorem fin_ret (Q : V → View → Prop) (v : V) (m : Loc) (σ : View) : fin Q (.ret v) m σ = Q v σ := rfl
@[simp] theorem fin_next (Q : V → View → Prop) (m : Loc) (σ : View) : fin Q .next m σ = Q .none σ := rfl
section
variable {m : Loc} {σ : View} {Q : V → View → Prop} {R : Fl → Loc → View → Prop} {B : Bool → View → Prop} {K : List V → View → Prop} {J : List V → (View → Prop) → View → Prop} {O : Option Int → View → Prop} {ns : List Int}
@[simp] theorem sSet_eq {x : String} {T : ET} : sSet x T m σ R = T m σ fun v σ' => R .next (put m x v) σ' := rfl
@[simp] theorem sRet_eq {T : ET} : sRet T m σ R = T m σ fun v σ' => R (.ret v) m σ' := rfl
@[simp] theorem sIf_eq {b : BT} {T U : ST} : sIf b T U m σ R = b m σ fun b σ' => if b then T m σ' R else U m σ' R := rfl
@[simp] theorem sNil_eq : sNil m σ R = R .next m σ := rfl
@[simp] theorem sExpr_eq {T : ET} : sExpr T m σ R = T m σ fun _ σ' => R .next m σ' := rfl
@[simp] theorem sCont_eq : sCont m σ R = R .cont m σ := rfl
@[simp] theorem sFor_eq {g : Tgt} {I : IT} {T : ST} : sFor g I T m σ R = I m σ fun items inv σ' => forL g inv T items m σ' R := rfl
@[simp] theorem sSetItem_eq {op : V → V → V → View → (View → Prop) → Prop} {T To Ti : ET} : sSetItem op T To Ti m σ R = T m σ fun v σ₁ => To m σ₁ fun o σ₂ => Ti m σ₂ fun i σ₃ => op o i v σ₃ fun σ₄ => R .next m σ₄ := rfl
@[simp] theorem eName_eq {x : String} : eName x m σ Q = ∃ v, m x = some v ∧ Q v σ := rfl
@[simp] theorem eVal_eq {v : V} : eVal v m σ Q = Q v σ := rfl
@[simp] theorem eBin_eq {op : O2} {T U : ET} : eBin op T U m σ Q = T m σ fun a σ₁ => U m σ₁ fun b σ₂ => op a b σ₂ Q := rfl
@[simp] theorem eUn_eq {op : O1} {T : ET} : eUn op T m σ Q = T m σ fun a σ₁ => op a σ₁ Q := rfl
@[simp] theorem eCall_eq {spec : Spec} {L : LT} : eCall spec L m σ Q = L m σ fun vs σ' => spec vs σ' Q := rfl
@[simp] theorem eMeth_eq {ty : V → View → Prop} {op : Spec} {T : ET} {L : LT} : eMeth ty op T L m σ Q = T m σ fun o σ₁ => ty o σ₁ ∧ L m σ₁ fun vs σ₂ => op (o :: vs) σ₂ Q := rfl
@[simp] theorem lNil_eq : lNil m σ K = K [] σ := rfl
@[simp] theorem lCons_eq {T : ET} {L : LT} : lCons T L m σ K = T m σ fun v σ₁ => L m σ₁ fun vs σ₂ => K (v :: vs) σ₂ := rfl
@[simp] theorem eTup_eq {L : LT} : eTup L m σ Q = L m σ fun vs σ₁ => vs.length ≤ 1000 ∧ Q (.tup vs) σ₁ := rfl
@[simp] theorem eList_eq {L : LT} : eList L m σ Q = L m σ fun vs σ₁ => vs.length ≤ 1000 ∧ newL vs σ₁ Q := rfl
@[simp] theorem tNot_eq {T : BT} : tNot T m σ B = T m σ fun b σ' => B (!b) σ' := rfl
@[simp] theorem tAnd_eq {T U : BT} : tAnd T U m σ B = T m σ fun b σ' => if b then U m σ' B else B false σ' := rfl
@[simp] theorem tOr_eq {T U : BT} : tOr T U m σ B = T m σ fun b σ' => if b then B true σ' else U m σ' B := rfl
@[simp] theorem tT_eq : tT m σ B = B true σ := rfl
@[simp] theorem tF_eq : tF m σ B = B false σ := rfl
@[simp] theorem eComp_eq {fv : List String} {g : Tgt} {I : IT} {b : BT} {T : ET} : eComp fv g I b T m σ Q = I m σ fun items inv σ' => compL g inv b T (only fv m) items [] σ' fun ys σ'' => newL ys σ'' Q := rfl
@[simp] theorem iOf_eq {T : ET} : iOf ns T m σ J = T m σ fun v σ' => iterOf ns v σ' J := rfl
@[simp] theorem iRange_eq {L : LT} : iRange L m σ J = L m σ fun vs σ' => rangeOf vs σ' J := rfl
@[simp] theorem eCut_eq {T : ET} {L U : Loc → View → (Option Int → View → Prop) → Prop} : eCut ns T L U m σ Q = T m σ fun v σ₁ => L m σ₁ fun lo σ₂ => U m σ₂ fun hi σ₃ => opCut ns lo hi v σ₃ Q := rfl
@[simp] theorem pNone_eq : pNone m σ O = O Option.none σ := rfl
@[simp] theorem pSome_eq {T : ET} : pSome T m σ O = T m σ fun v σ' => ∃ i, v = .int i ∧ O (some i) σ' := rfl
@[simp] theorem bindT_name {x : String} {v : V} : bindT (.name x) v m = some (put m x v) := rfl
@[simp] theorem bindM_cons {x : String} {xs : List String} {v : V} {vs : List V} : bindM (x :: xs) (v :: vs) m = bindM xs vs (put m x v) := rfl
@[simp] theorem bindM_nil {vs : List V} : bindM [] vs m = m := by cases vs <;> rfl
@[simp] theorem none_at {x : String} : none' x = Option.none := rfl
end
noncomputable def isB (v : V) (F : Bool → Prop) : Prop := ∃ b, v = .bool b ∧ F b
@[simp] theorem isB_bool (c : Bool) (F : Bool → Prop) : isB (.bool c) F = F c := propext ⟨fun ⟨_, e, h⟩ => by cases e; exact h, fun h => ⟨c, rfl, h⟩⟩
@[simp] theorem tBool_eq (T : ET) (m : Loc) (σ : View) (Q : Bool → View → Prop) : tBool T m σ Q = T m σ (fun v σ' => isB v fun b => Q b σ') := rfl
@[simp] theorem eAnd_eq (T U : ET) (m : Loc) (σ : View) (Q : V → View → Prop) : eAnd T U m σ Q = T m σ (fun v σ' => isB v fun b => if b then U m σ' Q else Q (.bool false) σ') := rfl
@[simp] theorem eOr_eq (T U : ET) (m : Loc) (σ : View) (Q : V → View → Prop) : eOr T U m σ Q = T m σ (fun v σ' => isB v fun b => if b then Q (.bool true) σ' else U m σ' Q) := rfl
@[simp] theorem tCmp2_eq (o1 o2 : O2) (T U W : ET) (m : Loc) (σ : View) (Q : Bool → View → Prop) : tCmp2 o1 o2 T U W m σ Q = T m σ (fun a σ₁ => U m σ₁ fun b σ₂ => o1 a b σ₂ fun v σ₃ => isB v fun x => if x then W m σ₃ fun c σ₄ => o2 b c σ₄ fun u σ₅ => isB u fun y => Q y σ₅ else Q false σ₃) := rfl
section
variable {σ : View} {Q : V → View → Prop} {ns : List Int}
@[simp] theorem add_int {x y : Int} : opAdd (.int x) (.int y) σ Q = Q (.int (x + y)) σ := rfl
@[simp] theorem add_str {x y : Str} : opAdd (.str x) (.str y) σ Q = (x.length + y.length ≤ 16777216 ∧ Q (.str (x ++ y)) σ) := rfl
@[simp] theorem sub_int {x y : Int} : opSub (.int x) (.int y) σ Q = Q (.int (x - y)) σ := rfl
@[simp] theorem mul_int {x y : Int} : opMul (.int x) (.int y) σ Q = ((Short x ∨ Short y) ∧ Q (.int (x * y)) σ) := rfl
@[simp] theorem mod_int {x y : Int} : opMod (.int x) (.int y) σ Q = (0 < y ∧ Q (.int (x % y)) σ) := rfl
@[simp] theorem div_int {x y : Int} : opDiv (.int x) (.int y) σ Q = ((0 < y ∧ y < 1073741824) ∧ Q (.int (x / y)) σ) := rfl
@[simp] theorem lt_int {x y : Int} : opLt (.int x) (.int y) σ Q = Q (.bool (decide (x < y))) σ := rfl
@[simp] theorem le_int {x y : Int} : opLe (.int x) (.int y) σ Q = Q (.bool (decide (x ≤ y))) σ := rfl
@[simp] theorem gt_int {x y : Int} : opGt (.int x) (.int y) σ Q = Q (.bool (decide (y < x))) σ := rfl
@[simp] theorem ge_int {x y : Int} : opGe (.int x) (.int y) σ Q = Q (.bool (decide (y ≤ x))) σ := rfl
@[simp] theorem neg_int {x : Int} : opNeg (.int x) σ Q = Q (.int (-x)) σ := rfl
theorem eq_one {α : Type} {a : α} {F : α → Prop} : (∃ r, some a = some r ∧ F r) = F a := by simp
@[simp] theorem eq_int {x y : Int} : opEq0 (.int x) (.int y) σ Q = Q (.bool (decide (x = y))) σ := eq_one
@[simp] theorem eq_str {x y : Str} : opEq0 (.str x) (.str y) σ Q = Q (.bool (decide (x = y))) σ := eq_one
@[simp] theorem eq_bool {x y : Bool} : opEq0 (.bool x) (.bool y) σ Q = Q (.bool (x == y)) σ := eq_one
@[simp] theorem eq_nn : opEq0 .none .none σ Q = Q (.bool true) σ := eq_one
@[simp] theorem eq_ns {y : Str} : opEq0 .none (.str y) σ Q = Q (.bool false) σ := eq_one
@[simp] theorem eq_sn {y : Str} : opEq0 (.str y) .none σ Q = Q (.bool false) σ := eq_one
@[simp] theorem ne_int {x y : Int} : opNe0 (.int x) (.int y) σ Q = Q (.bool (!decide (x = y))) σ := eq_one
@[simp] theorem ne_str {x y : Str} : opNe0 (.str x) (.str y) σ Q = Q (.bool (!decide (x = y))) σ := eq_one
@[simp] theorem ne_bool {x y : Bool} : opNe0 (.bool x) (.bool y) σ Q = Q (.bool (!(x == y))) σ := eq_one
@[simp] theorem ne_nn : opNe0 .none .none σ Q = Q (.bool false) σ := eq_one
@[simp] theorem ne_ns {y : Str} : opNe0 .none (.str y) σ Q = Q (.bool true) σ := eq_one
@[simp] theorem ne_sn {y : Str} : opNe0 (.str y) .none σ Q = Q (.bool true) σ := eq_one
@[simp] theorem in_str {x y : Str} : opInS (.str y) (.str x) σ Q = Q (.bool (Txt.contains x y)) σ := rfl
@[simp] theorem notin_str {x y : Str} : opNotInS (.str y) (.str x) σ Q = Q (.bool (!Txt.contains x y)) σ := rfl
@[simp] theorem len_str {x : Str} : spLen ns [.str x] σ Q = (x.length ≤ 16777216 ∧ Q (.int x.length) σ) := rfl
@[simp] theorem len_script : spLen ns [.script] σ Q = Q (.int ns.length) σ := rfl
@[simp] theorem len_tup {vs : List V} : spLen ns [.tup vs] σ Q = (vs.length ≤ 16777216 ∧ Q (.int vs.length) σ) := rfl
theorem len_list {a : Addr} {xs : List V} (h : σ a = some (.list xs)) : spLen ns [.ref a] σ Q = Q (.int xs.length) σ := by unfold spLen; simp [h]
@[simp] theorem min_int {x y : Int} : spMin [.int x, .int y] σ Q = Q (.int (min x y)) σ := rfl
@[simp] theorem max_int {x y : Int} : spMax [.int x, .int y] σ Q = Q (.int (max x y)) σ := rfl
@[simp] theorem int_bool {b : Bool} : spInt [.bool b] σ Q = Q (.int (if b then 1 else 0)) σ := rfl
@[simp] theorem str_int {i : Int} : spStr [.int i] σ Q = (i.natAbs.log2 < 1920 ∧ Q (.str (Str.ofString (toString i))) σ) := rfl
@[simp] theorem starts_str {x y : Str} : spStarts [.str x, .str y] σ Q = Q (.bool (Txt.startswith x y)) σ := rfl
@[simp] theorem split_str {x y : Str} : spSplit [.str x, .str y] σ Q = ((y.length = 1 ∧ x.length ≤ 1048576) ∧ newL ((Txt.split x y).map .str) σ Q) := rfl
theorem join_list {x : Str} {a : Addr} {ys : List Str} (h : σ a = some (.list (ys.map .str))) (hl : (ys.map (·.length)).sum + ys.length * x.length ≤ 16777216) (q : Q (.str (Str.join x ys)) σ) : spJoin [.str x, .ref a] σ Q := ⟨ys, h, hl, q⟩
@[simp] theorem isi_bool {b : Bool} : spIsi [.bool b, .ty "bool"] σ Q = Q (.bool true) σ := by simp [spIsi, Mine.isi]
@[simp] theorem isi_str {b : Str} : spIsi [.str b, .ty "str"] σ Q = Q (.bool true) σ := by simp [spIsi, Mine.isi]
@[simp] theorem isi_int {b : Int} : spIsi [.int b, .ty "int"] σ Q = Q (.bool true) σ := by simp [spIsi, Mine.isi]
@[simp] theorem isi_tup {vs : List V} : spIsi [.tup vs, .ty "tuple"] σ Q = Q (.bool true) σ := by simp [spIsi, Mine.isi]
@[simp] theorem tyStr_str {x : Str} : tyStr (.str x) σ = True := rfl
theorem tyList_ref {a : Addr} {xs : List V} (h : σ a = some (.list xs)) : tyList (.ref a) σ = True := by simp [tyList, h]
@[simp] theorem range_1 {n : Int} {R : List V → (View → Prop) → View → Prop} : rangeOf [.int n] σ R = ((-(2 ^ 62) ≤ n ∧ n < 2 ^ 62) ∧ R (rangeL 0 n.toNat) (fun _ => True) σ) := rfl
@[simp] theorem range_2 {a b : Int} {R : List V → (View → Prop) → View → Prop} : rangeOf [.int a, .int b] σ R = ((-(2 ^ 62) ≤ a ∧ a < 2 ^ 62 ∧ -(2 ^ 62) ≤ b ∧ b < 2 ^ 62) ∧ R (rangeL a (b - a).toNat) (fun _ => True) σ) := rfl
@[simp] theorem iter_str {x : Str} {R : List V → (View → Prop) → View → Prop} : iterOf ns (.str x) σ R = R (signs x) (fun _ => True) σ := rfl
theorem iter_list {a : Addr} {xs : List V} (h : σ a = some (.list xs)) {R : List V → (View → Prop) → View → Prop} : iterOf ns (.ref a) σ R = R xs (fun σ => σ a = some (.list xs)) σ := by unfold iterOf; simp [h]
theorem item_list {a : Addr} {xs : List V} {i : Int} {v : V} (h : σ a = some (.list xs)) (h0 : 0 ≤ i) (hv : xs[i.toNat]? = some v) (q : Q v σ) : opItem ns (.ref a) (.int i) σ Q := by
  refine ⟨xs, i.toNat, v, h, ?_, hv, q⟩
  have hlt := (List.getElem?_eq_some_iff.mp hv).1
  unfold idx
  rw [if_pos h0, if_pos (by omega)]
theorem item_last {a : Addr} {xs : List V} {v : V} (h : σ a = some (.list (xs ++ [v]))) (q : Q v σ) : opItem ns (.ref a) (.int (-1)) σ Q := by
  refine ⟨xs ++ [v], xs.length, v, h, ?_, by simp, q⟩
  unfold idx
  rw [if_neg (by decide), if_pos (by simp; omega)]
  simp
  omega
theorem append_list {a : Addr} {xs : List V} {v : V} (h : σ a = some (.list xs)) (hz : xs.length < 16777216) (q : Q .none (upd σ a (.list (xs ++ [v])))) : spAppend [.ref a, v] σ Q := ⟨xs, h, hz, q⟩
/-- the script's cell -/
theorem cell_item {k : Int} (h0 : 0 ≤ k) (h : k < ns.length) (q : Q (.int (cell ns k)) σ) : opItem ns .script (.int k) σ Q := by
  refine ⟨k.toNat, ns.getD k.toNat 0, h0, ?_, ?_, q⟩
  · unfold idx; rw [if_pos h0, if_pos h]
  · rw [List.getD_eq_getElem?_getD]
    cases e : ns[k.toNat]? with
    | none => rw [List.getElem?_eq_none_iff] at e; omega
    | some n => rfl
theorem cell_out {k : Int} (h0 : 0 ≤ k) (h : ¬ k < ns.length) : cell ns k = 0 := by
  unfold cell
  rw [List.getD_eq_getElem?_getD, List.getElem?_eq_none (by omega)]; rfl
end
end Mine


end
noncomputable section
set_option autoImplicit false
namespace Mine
open PySem PySem.W PyProof.Rows PySem.Calls

/- texts as lists of signs -/
abbrev cl (x : Str) : List Nat := x.cps.toList
theorem sl_eq : Str.ofString "/" = ⟨#[47]⟩ := by decide +kernel
theorem sl_len : (Str.ofString "/").length = 1 := by rw [sl_eq]; rfl
end Mine


end
noncomputable section
set_option autoImplicit false
namespace Mine
open PySem PySem.W PyProof.Rows PySem.Calls

/- constants of the text -/
noncomputable def GStr (C : Cx) (x : String) (v : Str) : Prop := ∃ t, C.mg (Str.ofString x) = some (.str v t)
noncomputable def GInt (C : Cx) (x : String) (v : Int) : Prop := ∃ t, C.mg (Str.ofString x) = some (.int v t)
section
variable {C : Cx} {p : Program} {sc : Scope} {k : Nat}
theorem HE.gstr (O : C.Ok) {x : String} {pos : Pos} {v : Str} (h : sc.names.lookup (Str.ofString x) = some .globalImplicit) (hg : GStr C x v) (hd : (Str.ofString x == ("__debug__" : Str)) = false) : HE C sc k (.Name (Str.ofString x) pos) (eVal (.str v)) := by
  obtain ⟨t, e⟩ := hg
  exact HE.glob O h e (fun _ => .str v t) hd
theorem HE.gint (O : C.Ok) {x : String} {pos : Pos} {v : Int} (h : sc.names.lookup (Str.ofString x) = some .globalImplicit) (hg : GInt C x v) (hd : (Str.ofString x == ("__debug__" : Str)) = false) : HE C sc k (.Name (Str.ofString x) pos) (eVal (.int v)) := by
  obtain ⟨t, e⟩ := hg
  exact HE.glob O h e (fun _ => .int v t) hd
theorem GStr.of {loose : List Str} {mean : ExcName → Option Value} (T : Top p loose mean C.mg C.mb C.hB) {x : String} {v : Str} (h : valOf p (Str.ofString x) = some (.str v)) : GStr C x v := by
  obtain ⟨w, h1, h2⟩ := T.const _ _ h
  cases h2 C.hB with
  | str _ t => exact ⟨t, h1⟩
theorem GInt.of {loose : List Str} {mean : ExcName → Option Value} (T : Top p loose mean C.mg C.mb C.hB) {x : String} {v : Int} (h : valOf p (Str.ofString x) = some (.int v)) : GInt C x v := by
  obtain ⟨w, h1, h2⟩ := T.const _ _ h
  cases h2 C.hB with
  | int _ t => exact ⟨t, h1⟩
/- text times int -/
noncomputable def opMulS : O2
  | .str x, .int n, σ, Q => MulOk x n ∧ Q (.str (Txt.mul x n)) σ
  | _, _, _, _ => False
theorem ok_mulS : Op2 C k (binaryOp .Mult) opMulS := by
  intro A s σ a b wa wb Q P E ao R va vb q hP
  cases a <;> first | exact q.elim | skip
  cases b <;> first | exact q.elim | skip
  cases va; cases vb
  exact SB.mul q.1 fun t' k => hP _ _ σ _ (.str _ _) (R.tok _) Step.refl q.2
end
@[simp] theorem mulS_eq {σ : View} {Q : V → View → Prop} {x : Str} {n : Int} : opMulS (.str x) (.int n) σ Q = (MulOk x n ∧ Q (.str (Txt.mul x n)) σ) := rfl
end Mine


end
noncomputable section
set_option autoImplicit false
namespace Mine
open PySem PySem.W PyProof.Rows PySem.Calls

/- dicts with texts as keys -/
noncomputable def vstored (kvs : List (Str × V)) (k : Str) (v : V) : List (Str × V) :=
  if kvs.any (fun kv => kv.1 = k) then kvs.map (fun kv => if kv.1 = k then (kv.1, v) else kv) else kvs ++ [(k, v)]
noncomputable def vget (kvs : List (Str × V)) (k : Str) : Option V := (kvs.find? fun kv => kv.1 = k).map (·.2)
noncomputable def vout (kvs : List (Str × V)) (k : Str) : List (Str × V) := kvs.filter fun kv => decide (kv.1 ≠ k)
section
variable {aS : Addr} {h : Heap}
theorem PRel.any : ∀ {a : List (Str × V)} {b : List (Str × Value)} (k : Str), PRel aS h a b → (a.any fun kv => kv.1 = k) = (b.any fun kv => kv.1 = k)
  | [], [], _, _ => rfl
  | (_, _) :: _, (_, _) :: _, k, ⟨e, _, r⟩ => by simp only [List.any_cons, e, PRel.any k r]
theorem PRel.append : ∀ {a a' : List (Str × V)} {b b' : List (Str × Value)}, PRel aS h a b → PRel aS h a' b' → PRel aS h (a ++ a') (b ++ b')
  | [], _, [], _, _, x => x
  | (_, _) :: _, _, (_, _) :: _, _, ⟨e, v, r⟩, x => ⟨e, v, PRel.append r x⟩
theorem PRel.mapSet {k : Str} {v : V} {w : Value} (hv : VRel aS h v w) : ∀ {a : List (Str × V)} {b : List (Str × Value)}, PRel aS h a b → PRel aS h (a.map fun kv => if kv.1 = k then (kv.1, v) else kv) (b.map fun kv => if kv.1 = k then (kv.1, w) else kv)
  | [], [], _ => trivial
  | (x, u) :: _, (y, z) :: _, ⟨e, q, r⟩ => by
    simp only [List.map_cons]
    by_cases c : x = k
    · rw [if_pos c, if_pos (e ▸ c)]; exact ⟨e, hv, PRel.mapSet hv r⟩
    · rw [if_neg c, if_neg (e ▸ c)]; exact ⟨e, q, PRel.mapSet hv r⟩
theorem PRel.stored {k : Str} {v : V} {w : Value} {a : List (Str × V)} {b : List (Str × Value)} (x : PRel aS h a b) (hv : VRel aS h v w) : PRel aS h (vstored a k v) (PySem.stored b k w) := by
  unfold vstored PySem.stored
  rw [x.any k]
  split
  · exact x.mapSet hv
  · exact x.append ⟨rfl, hv, trivial⟩
theorem PRel.find {k : Str} : ∀ {a : List (Str × V)} {b : List (Str × Value)}, PRel aS h a b → ∀ {v : V}, vget a k = some v → ∃ w, valueAt b k = some w ∧ VRel aS h v w
  | [], [], _, v, e => by simp [vget] at e
  | (x, u) :: _, (y, z) :: _, ⟨e, q, r⟩, v, hv => by
    unfold vget at hv
    unfold valueAt
    by_cases c : x = k
    · rw [List.find?_cons_of_pos (by simpa using c)] at hv
      rw [List.find?_cons_of_pos (by simpa using e ▸ c)]
      cases hv; exact ⟨z, rfl, q⟩
    · rw [List.find?_cons_of_neg (by simpa using c)] at hv
      rw [List.find?_cons_of_neg (by simpa using e ▸ c)]
      exact PRel.find r hv
theorem PRel.none {k : Str} : ∀ {a : List (Str × V)} {b : List (Str × Value)}, PRel aS h a b → (vget a k).isSome = (valueAt b k).isSome
  | [], [], _ => rfl
  | (x, u) :: _, (y, z) :: _, ⟨e, q, r⟩ => by
    unfold vget valueAt
    by_cases c : x = k
    · rw [List.find?_cons_of_pos (by simpa using c), List.find?_cons_of_pos (by simpa using e ▸ c)]; rfl
    · rw [List.find?_cons_of_neg (by simpa using c), List.find?_cons_of_neg (by simpa using e ▸ c)]
      exact PRel.none r
theorem PRel.without {k : Str} : ∀ {a : List (Str × V)} {b : List (Str × Value)}, PRel aS h a b → PRel aS h (vout a k) (PySem.without b k)
  | [], [], _ => trivial
  | (x, u) :: _, (y, z) :: _, ⟨e, q, r⟩ => by
    unfold vout PySem.without
    have ih := PRel.without (k := k) r
    unfold vout PySem.without at ih
    by_cases c : x = k
    · rw [List.filter_cons_of_neg (by simpa using c), List.filter_cons_of_neg (by simpa using e ▸ c)]; exact ih
    · rw [List.filter_cons_of_pos (by simpa using c), List.filter_cons_of_pos (by simpa using e ▸ c)]; exact ⟨e, q, ih⟩
end
section
variable {C : Cx} {p : Program} {sc : Scope} {k : Nat}
theorem key_is (x : Str) (t : Tok) : (strKind C.prog C.w).is x (.str x t) = true := by
  show Value.isStrOf x (.str x t) = true
  simp [Value.isStrOf]
/- {} -/
noncomputable def newD (kvs : List (Str × V)) (σ : View) (Q : V → View → Prop) : Prop := ∀ a ep, σ a = Option.none → Q (.ref a) (upd σ a (.dict kvs ep))
noncomputable def eDict0 : ET := fun _ σ Q => newD [] σ Q
theorem HE.dict0 {pos : Pos} : HE C sc k (.Dict [] [] pos) eDict0 := by
  refine ⟨?_⟩; intro env A s m σ Q P E en ao R F q hP
  have hn := size_none s.heap
  obtain ⟨ep, hat⟩ := (Heap.DictOf.new (knd := strKind C.prog C.w) s.heap).dictAt
  refine wpAny_Dict_empty (hP (.ref s.heap.objs.size) (.ref s.heap.objs.size) (upd σ s.heap.objs.size (.dict [] ep)) _ (.ref _) ?_ .addPush (q _ ep (R.freshNone hn)))
  have := R.add (tk := s.toks) (a := s.heap.objs.size) (o := .dict [] ep) push_old hn (h' := s.heap.push { cls := .type "dict", data := .dict #[] }) ⟨by simp, [], hat, trivial⟩
  exact this
/- d[k] = v -/
noncomputable def setD : V → V → V → View → (View → Prop) → Prop
  | .ref a, .str k, v, σ, Q => ∃ kvs ep, σ a = some (.dict kvs ep) ∧ kvs.length < 16777216 ∧ ∀ ep', Q (upd σ a (.dict (vstored kvs k v) ep'))
  | _, _, _, _, _ => False
theorem dict_notT {h : Heap} {a : Addr} {kws : List (Str × Value)} {ep : Nat} (x : h.DictAt (strKind C.prog C.w) a kws ep) : ∀ o, h.get? a = some o → ¬ IsT o := by
  intro o ho
  obtain ⟨o', es, ho', hc, hd, _⟩ := x
  rw [ho] at ho'; cases ho'
  simp [IsT, hd]
theorem vstored_len (kvs : List (Str × V)) (x : Str) (v : V) : (vstored kvs x v).length ≤ kvs.length + 1 := by
  unfold vstored; split <;> simp
theorem ok_setD : OpSet C k setD := by
  intro A s σ o i v wo wi w Q P E ao R vo vi vv q hP
  unfold setD at q
  split at q
  · rename_i a x
    cases vo; cases vi
    obtain ⟨kvs, ep, hx, hz, q⟩ := q
    obtain ⟨_, kws, h1, h2⟩ := R.view _ _ hx
    have hl := h2.length
    refine wpAny_setItem_pairs (knd := strKind C.prog C.w) (key_is x _) h1.dictOf (fun h' hd' hs' => ?_) (by rw [sizeLine_eq, ← hl]; omega)
    obtain ⟨ep', hat⟩ := hd'.dictAt
    have kt : TupKeep s.heap h' := fun b o eb ht => hs'.extBut b o (by rintro rfl; exact dict_notT h1 o eb ht) eb
    have vl := vstored_len kvs x v
    exact hP (upd σ a (.dict (vstored kvs x v) ep')) _ (R.change (tk := s.toks + 1) hx hs' ⟨by omega, _, hat, (h2.stored vv).keep kt⟩) (.change hx hs') (q ep')
  · exact q.elim
theorem items_rel {aS : Addr} {h : Heap} : ∀ (vs : List V) (ws : List Value), ws.length = vs.length → (∀ (j : Nat) (v : V) w, vs[j]? = some v → ws[j]? = some w → VRel aS h v w) → VRels aS h vs ws
  | [], [], _, _ => .nil
  | [], _ :: _, h, _ => by simp at h
  | _ :: _, [], h, _ => by simp at h
  | v :: vs, w :: ws, hl, hj => .cons (hj 0 v w rfl rfl) (items_rel vs ws (by simpa using hl) fun j v w e1 e2 => hj (j + 1) v w (by simpa using e1) (by simpa using e2))
end
end Mine


end
noncomputable section
set_option autoImplicit false
namespace Mine
open PySem PySem.W PyProof.Rows PySem.Calls

section
variable {C : Cx} {p : Program} {sc : Scope} {k : Nat}
/- the methods -/
noncomputable def tyDict : V → View → Prop
  | .ref a, σ => ∃ kvs ep, σ a = some (.dict kvs ep)
  | _, _ => False
theorem tyDict_ok : TyOk C "dict" tyDict := by
  intro o wo σ s R hv h
  cases hv <;> first | exact h.elim | skip
  obtain ⟨kvs, ep, hx⟩ := h
  obtain ⟨_, ws, h1, h2⟩ := R.view _ _ hx
  exact ⟨h1.dictOf.typeIs, h1.dictOf.mapOf.noDict⟩
theorem vout_len (kvs : List (Str × V)) (x : Str) : (vout kvs x).length ≤ kvs.length := List.length_filter_le _ _
noncomputable def spPop : Spec
  | [.ref a, .str x], σ, Q => ∃ kvs ep v, σ a = some (.dict kvs ep) ∧ vget kvs x = some v ∧ ∀ ep', Q v (upd σ a (.dict (vout kvs x) ep'))
  | _, _, _ => False
theorem ok_pop : OpN C k (fun ws => PySem.call (.builtin "dict.pop") ws) spPop := by
  intro A s σ vs ws Q P E ao R hv q hP
  unfold spPop at q
  split at q
  · rename_i a x
    obtain ⟨wa, wb, rfl, h1, h2⟩ := hv.inv2
    cases h1; cases h2
    obtain ⟨kvs, ep, v, hx, hv, q⟩ := q
    obtain ⟨hz, kws, h1, h2⟩ := R.view _ _ hx
    obtain ⟨w, e1, e2⟩ := h2.find hv
    have hl := h2.length
    refine call_meetsIn F.slot_dict_pop h1.dictOf.typeIs F.entry_dict_pop (F.args_dict_pop_2 _ _) (meets_dict_pop_there (strKind C.prog C.w) a (key_is x _) [] (.inl rfl) rfl) ⟨kws, w, h1.dictOf, by rw [sizeLine_eq]; omega, e1, fun h' hd' hs' => ?_⟩
    obtain ⟨ep', hat⟩ := hd'.dictAt
    have kt : TupKeep s.heap h' := fun b o eb ht => hs'.extBut b o (by rintro rfl; exact dict_notT h1 o eb ht) eb
    have vl := vout_len kvs x
    exact hP v w (upd σ a (.dict (vout kvs x) ep')) _ (e2.keep kt) (R.change (tk := s.toks + 1) hx hs' ⟨by omega, _, hat, h2.without.keep kt⟩) (.change hx hs') (q ep')
  · exact q.elim
theorem HE.popD {o : Expr} {apos pos : Pos} {es : List Expr} {To : ET} {L : LT} (ho : HE C sc k o To) (hl : HL C sc k es L) (hp : plainArgs es = true)
    (hbase : ∀ env, attributeBase o (Str.ofString "pop") env (eval o env) = eval o env) (hline : (apos.endLine == pos.line) = true) (hfew : es.length < 30) : HE C sc k (.Call (.Attribute o (Str.ofString "pop") apos) es [] pos) (eMeth tyDict spPop To L) :=
  HE.meth tyDict_ok F.plainAttrs_dict F.slot_dict_pop F.type_dict_pop ok_pop ho hl hp hbase hline hfew
/- list(d.items()) -/
noncomputable def eItems (T : ET) : ET := fun m σ Q => T m σ fun v σ₁ => ∃ a kvs ep, v = .ref a ∧ σ₁ a = some (.dict kvs ep) ∧ newL (kvs.map fun q => .tup [.str q.1, q.2]) σ₁ Q
end
end Mine


end
noncomputable section
set_option autoImplicit false
namespace Mine
open PySem PySem.W PyProof.Rows PySem.Calls
section
variable {σ : View} {Q : V → View → Prop} {ns : List Int}
theorem add_list {a b : Addr} {xs ys : List V} (ha : σ a = some (.list xs)) (hb : σ b = some (.list ys)) (hz : xs.length + ys.length ≤ 16777216) (q : newL (xs ++ ys) σ Q) : opAdd (.ref a) (.ref b) σ Q := ⟨xs, ys, ha, hb, hz, q⟩
@[simp] theorem eDict0_eq {m : Loc} : eDict0 m σ Q = newD [] σ Q := rfl
@[simp] theorem eItems_eq {m : Loc} {T : ET} : eItems T m σ Q = T m σ fun v σ₁ => ∃ a kvs ep, v = .ref a ∧ σ₁ a = some (.dict kvs ep) ∧ newL (kvs.map fun q => .tup [.str q.1, q.2]) σ₁ Q := rfl
theorem set_dict {a : Addr} {kvs : List (Str × V)} {ep : Nat} {x : Str} {v : V} {R : View → Prop} (h : σ a = some (.dict kvs ep)) (hz : kvs.length < 16777216) (q : ∀ ep', R (upd σ a (.dict (vstored kvs x v) ep'))) : setD (.ref a) (.str x) v σ R := ⟨kvs, ep, h, hz, q⟩
theorem tyDict_ref {a : Addr} {kvs : List (Str × V)} {ep : Nat} (h : σ a = some (.dict kvs ep)) : tyDict (.ref a) σ = True := by simp [tyDict, h]
theorem iter_dict {a : Addr} {kvs : List (Str × V)} {ep : Nat} (h : σ a = some (.dict kvs ep)) {R : List V → (View → Prop) → View → Prop} : iterOf ns (.ref a) σ R = R (kvs.map fun q => .str q.1) (fun σ => σ a = some (.dict kvs ep)) σ := by unfold iterOf; simp [h]
end
/- keys -/
theorem vget_isSome (kvs : List (Str × V)) (x : Str) : (vget kvs x).isSome = decide (x ∈ kvs.map (·.1)) := by
  unfold vget
  rw [Option.isSome_map, Bool.eq_iff_iff, List.find?_isSome]
  simp
theorem vget_mem {kvs : List (Str × V)} {x : Str} (h : x ∈ kvs.map (·.1)) : ∃ v, vget kvs x = some v ∧ (x, v) ∈ kvs := by
  have := vget_isSome kvs x
  rw [decide_eq_true h] at this
  obtain ⟨v, hv⟩ := Option.isSome_iff_exists.mp this
  refine ⟨v, hv, ?_⟩
  unfold vget at hv
  obtain ⟨⟨k', v'⟩, h1, h2⟩ := Option.map_eq_some_iff.mp hv
  have h3 := List.find?_some h1
  have h4 := List.mem_of_find?_eq_some h1
  simp at h3 h2
  subst h3; subst h2; exact h4
theorem vstored_mem {kvs : List (Str × V)} {k : Str} {v : V} {q : Str × V} (h : q ∈ vstored kvs k v) : q = (k, v) ∨ q ∈ kvs := by
  unfold vstored at h
  split at h
  · obtain ⟨r, hr, rfl⟩ := List.mem_map.mp h
    by_cases c : r.1 = k
    · rw [if_pos c, c]; exact .inl rfl
    · rw [if_neg c]; exact .inr hr
  · rcases List.mem_append.mp h with h | h
    · exact .inr h
    · simp at h; exact .inl h
theorem vstored_nodup {kvs : List (Str × V)} {k : Str} {v : V} (h : (kvs.map (·.1)).Nodup) : ((vstored kvs k v).map (·.1)).Nodup := by
  unfold vstored
  split
  · have e : (kvs.map fun kv => if kv.1 = k then (kv.1, v) else kv).map (·.1) = kvs.map (·.1) := by
      rw [List.map_map]; apply List.map_congr_left; intro q _; simp only [Function.comp]; split <;> rfl
    rw [e]; exact h
  · rename_i hn
    rw [List.map_append, List.nodup_append]
    refine ⟨h, by simp, ?_⟩
    intro a ha b hb
    simp at hb
    subst hb
    rintro rfl
    obtain ⟨q, hq, e⟩ := List.mem_map.mp ha
    exact hn (List.any_eq_true.mpr ⟨q, hq, by simpa using e⟩)
end Mine


end
noncomputable section
set_option autoImplicit false
namespace Mine
open PySem AutoSeq1 MeetsSeq MeetsSeq2 MeetsSeq3 SeqRoads2

/-- == of two values in this world -/
noncomputable def EqW (C : Cx) (A : Around) (s : Shared) (y x : Value) (b : Bool) : Prop :=
  ∀ (E : Value → Shared → Prop) (Q : Bool → Shared → Prop), Q b s → wpAny (model C.prog C.w) A (eqBool y x) Q E s
/-- rows of values, item by item -/
noncomputable def EqWs (C : Cx) (A : Around) (s : Shared) : List Value → List Value → Bool → Prop
  | [], [], b => b = true
  | [], _ :: _, b => b = false
  | _ :: _, [], b => b = false
  | x :: xs, y :: ys, b => ∃ e, EqW C A s x y e ∧ ((e = true ∧ EqWs C A s xs ys b) ∨ (e = false ∧ b = false))
noncomputable def turnB (op : CmpOp) (b : Bool) : Bool := match op with | .Eq => b | _ => !b
/-- ==, != of two values in this world -/
noncomputable def CmpW (C : Cx) (A : Around) (s : Shared) (y x : Value) (b : Bool) : Prop :=
  ∀ (op : CmpOp) (E : Value → Shared → Prop) (Q : Value → Shared → Prop), op = .Eq ∨ op = .NotEq → Q (.bool (turnB op b)) s → wpAny (model C.prog C.w) A (richCompare op y x) Q E s

section
variable {C : Cx} {A : Around} {s : Shared}
theorem EqW.of_refs {l b : Addr} {k : Bool} (hne : l ≠ b) (h : CmpW C A s (.ref l) (.ref b) k) : EqW C A s (.ref l) (.ref b) k := fun E Q hq => by
  unfold eqBool
  refine wpAny_holding ?_
  refine wpAny_ite_split (fun hab => absurd (by have := eq_of_beq hab; injection this) hne) (fun _ => ?_)
  exact wpAny_bind (h .Eq E _ (.inl rfl) (wpAny_truthy_bool hq))
theorem EqW.at {y x : Value} {b : Bool} (h : SeqAt.EqAt A s y x b) : EqW C A s y x b := fun E Q hq => h C.prog C.w E Q hq
end
end Mine


end
noncomputable section
set_option autoImplicit false
namespace Mine
open PySem AutoSeq1 MeetsSeq MeetsSeq2 MeetsSeq3 SeqRoads2

section
variable {C : Cx}
theorem EqWs.fin {A : Around} {s : Shared} {r : Bool} : ∀ {us vs : List Value}, [] = us.zip vs → EqWs C A s us vs r → r = decide (us.length = vs.length)
  | [], [], _, h => by cases (h : r = true); rfl
  | [], _ :: _, _, h => by cases (h : r = false); rfl
  | _ :: _, [], _, h => by cases (h : r = false); rfl
  | _ :: _, _ :: _, e, _ => by simp at e

theorem tup_eqW {A : Around} {s : Shared} {R : Result → Shared → Prop} (l b : Addr) (xs ys : List Value) (n n2 : Nat) (dd dd2 : Option Addr) (sl sl2 : Array (Option Value)) {r : Bool}
    (hl : s.heap.get? l = some { cls := .type "tuple", dict := dd, data := .seq xs.toArray n, slots := sl }) (hb : s.heap.get? b = some { cls := .type "tuple", dict := dd2, data := .seq ys.toArray n2, slots := sl2 })
    (he : EqWs C A.in1 s xs ys r) (h : R (.ok (.ret (.bool r))) s) :
    wpAny (model C.prog C.w) A.in1 (Builtin.«tuple.__eq__» ⟨[.ref l, .ref b], []⟩) (fun fin s' => match fin with | .done f => R (.ok f) s' | .again c' => c'.quiet = true ∧ codeAny (model C.prog C.w) A c' R s') (fun e s' => R (.error e) s') s := by
  obtain ⟨hp, g, d, tk, os⟩ := s
  have f2 := AutoSeq1.sub_tuple_tuple
  wp_walk using wpAny_loadPart' hl, wpAny_loadPart' hb, wpAny_forIn_list _ (fun rest b s' => b.1 = none ∧ s' = ⟨hp, g, d, tk, os⟩ ∧ ∃ us vs, rest = us.zip vs ∧ EqWs C A.in1 ⟨hp, g, d, tk, os⟩ us vs r ∧ (xs.length = ys.length ↔ us.length = vs.length)) _
  case turn =>
    rintro ⟨x, y⟩ rest b s' ⟨hb', rfl, us, vs, hz, hr, hlen⟩
    match us, vs, hz, hr with
    | [], _, hz, _ => simp at hz
    | _ :: _, [], hz, _ => simp at hz
    | u :: us, v :: vs, hz, ⟨e, h1, h2⟩ =>
      simp only [List.zip_cons_cons, List.cons.injEq, Prod.mk.injEq] at hz
      obtain ⟨⟨rfl, rfl⟩, rfl⟩ := hz
      dsimp only
      refine wpAny_bind (h1 _ _ ?_)
      rcases h2 with ⟨rfl, h2⟩ | ⟨rfl, h2⟩
      · simp only [Bool.not_true, Bool.false_eq_true, if_false]
        exact wpAny_pure ⟨rfl, rfl, us, vs, rfl, h2, by simpa using hlen⟩
      · subst h2
        simp only [Bool.not_false, if_true]
        refine wpAny_bind (wpAny_pure (wpAny_pure ?_))
        exact wpAny_pure h
  case fin =>
    rintro ⟨b1, b2⟩ s' ⟨hb', rfl, us, vs, hz, hr, hlen⟩
    simp only at hb'
    subst hb'
    have e := EqWs.fin hz hr
    dsimp only
    refine wpAny_pure ?_
    have e2 : Builtin.Tuple.tupleCompareSizes CmpOp.Eq xs.toArray.size ys.toArray.size = .bool r := by
      show Value.bool (xs.toArray.size == ys.toArray.size) = _
      rw [e, List.size_toArray, List.size_toArray]
      by_cases hq : xs.length = ys.length
      · simp [hq, hlen.mp hq]
      · have : ¬ us.length = vs.length := fun z => hq (hlen.mpr z)
        simp [hq, this]
    rw [e2]
    exact h
  case h => exact ⟨rfl, rfl, xs, ys, by simp, he, Iff.rfl⟩

theorem loop_eqW (l b : Addr) (xs ys : List Value) (n n2 : Nat) (dd dd2 : Option Addr) (sl sl2 : Array (Option Value)) (hsz : xs.length = ys.length) : ∀ (us vs : List Value) (i : Nat) {A : Around} {s : Shared} {R : Result → Shared → Prop} {r : Bool},
    us = xs.drop i → vs = ys.drop i → i ≤ xs.length →
    s.heap.get? l = some { cls := .type "list", dict := dd, data := .seq xs.toArray n, slots := sl } → s.heap.get? b = some { cls := .type "list", dict := dd2, data := .seq ys.toArray n2, slots := sl2 } →
    EqWs C A.in1 s us vs r → R (.ok (.ret (.bool r))) s →
    wpAny (model C.prog C.w) A.in1 (Builtin.«list.__eq__.loop» ⟨[.ref l, .ref b, rawInt i, rawInt 2], []⟩) (fun fin s' => match fin with | .done f => R (.ok f) s' | .again c' => c'.quiet = true ∧ codeAny (model C.prog C.w) A c' R s') (fun e s' => R (.error e) s') s := by
  intro us
  induction us with
  | nil =>
    intro vs i A s R r e1 e2 hi hl hb he h
    obtain ⟨hp, g, d, tk, os⟩ := s
    have hil : i = xs.length := by have := congrArg List.length e1; simp at this; omega
    have hv : vs = [] := by rw [e2]; exact List.drop_of_length_le (by exact Nat.le_of_not_lt fun hg => Mine.lin [(xs.length), (ys.length), i] [(1, (.v 1), (.v 0)), (1, (.v 0), (.v 2)), (1, (.a (.v 2) (.n 1)), (.v 1))] rfl (Nat.le_of_eq (Eq.symm hsz)) (Nat.le_of_eq (Eq.symm hil)) hg)
    subst hv
    cases (he : r = true)
    wp_walk using wpAny_loadPart' hl, wpAny_loadPart' hb
    have hi1 : xs.toArray[((i : Nat) : Int).toNat]? = none := by simp; exact Nat.le_of_not_lt fun hg => Mine.lin [(xs.length), i] [(1, (.v 0), (.v 1)), (1, (.a (.v 1) (.n 1)), (.v 0))] rfl (Nat.le_of_eq (Eq.symm hil)) hg
    have hi2 : ys.toArray[((i : Nat) : Int).toNat]? = none := by simp; exact Nat.le_of_not_lt fun hg => Mine.lin [(xs.length), (ys.length), i] [(1, (.v 1), (.v 0)), (1, (.v 0), (.v 2)), (1, (.a (.v 2) (.n 1)), (.v 1))] rfl (Nat.le_of_eq (Eq.symm hsz)) (Nat.le_of_eq (Eq.symm hil)) hg
    rw [hi1, hi2]
    wp_walk using wpAny_loadPart' hl, wpAny_loadPart' hb
    show R (.ok (.ret (.bool (xs.toArray.size == ys.toArray.size)))) _
    simpa [hsz] using h
  | cons u us ih =>
    intro vs i A s R r e1 e2 hi hl hb he h
    obtain ⟨hp, g, d, tk, os⟩ := s
    have hlt : i < xs.length := by have := congrArg List.length e1; simp at this; omega
    have hlt2 : i < ys.length := by exact Nat.lt_of_not_le fun hg => Mine.lin [(xs.length), (ys.length), i] [(1, (.v 0), (.v 1)), (1, (.a (.v 2) (.n 1)), (.v 0)), (1, (.v 1), (.v 2))] rfl (Nat.le_of_eq hsz) hlt hg
    rw [List.drop_eq_getElem_cons hlt] at e1
    rw [List.drop_eq_getElem_cons hlt2] at e2
    injection e1 with e1 e3
    subst e2
    obtain ⟨e, h1, h2⟩ := he
    have hi1 : xs.toArray[((i : Nat) : Int).toNat]? = some u := by simp [hlt, e1]
    have hi2 : ys.toArray[((i : Nat) : Int).toNat]? = some ys[i] := by simp [hlt2]
    have hc : ((i : Int) + 1) = ((i + 1 : Nat) : Int) := by push_cast; rfl
    wp_walk using wpAny_loadPart' hl, wpAny_loadPart' hb
    rw [hi1, hi2]
    refine wpAny_bind (h1 _ _ ?_)
    rcases h2 with ⟨rfl, h2⟩ | ⟨rfl, h2⟩
    · wp_walk
      rw [hc]
      exact ⟨plainId_quiet plain_eq_loop _, codeAny_builtin entry_eq_loop (by
        rw [Around.under_plainId plain_eq_loop _]
        exact ih (ys.drop (i + 1)) (i + 1) e3 rfl (by exact Nat.le_of_not_lt fun hg => Mine.lin [(xs.length), i] [(1, (.a (.v 1) (.n 1)), (.v 0)), (1, (.a (.v 0) (.n 1)), (.a (.v 1) (.n 1)))] rfl hlt hg) hl hb h2 h)⟩
    · subst h2
      wp_walk using wpAny_loadPart' hl, wpAny_loadPart' hb
      rw [hi1, hi2]
      wp_walk
      simpa using h

theorem list_eqW {A : Around} {s : Shared} {R : Result → Shared → Prop} (l b : Addr) (xs ys : List Value) (n n2 : Nat) (dd dd2 : Option Addr) (sl sl2 : Array (Option Value)) {r : Bool}
    (hl : s.heap.get? l = some { cls := .type "list", dict := dd, data := .seq xs.toArray n, slots := sl }) (hb : s.heap.get? b = some { cls := .type "list", dict := dd2, data := .seq ys.toArray n2, slots := sl2 })
    (he : xs.length = ys.length → EqWs C A.in1 s xs ys r) (hne : xs.length ≠ ys.length → r = false) (h : R (.ok (.ret (.bool r))) s) :
    wpAny (model C.prog C.w) A.in1 (Builtin.«list.__eq__» ⟨[.ref l, .ref b], []⟩) (fun fin s' => match fin with | .done f => R (.ok f) s' | .again c' => c'.quiet = true ∧ codeAny (model C.prog C.w) A c' R s') (fun e s' => R (.error e) s') s := by
  obtain ⟨hp, g, d, tk, os⟩ := s
  have f3 := AutoSeq1.sub_list_list
  by_cases hsz : xs.length = ys.length
  · have hn' : ¬ (xs.toArray.size != ys.toArray.size) = true := by simp [hsz]
    wp_walk using wpAny_loadPart' hl, wpAny_loadPart' hb
    exact ⟨plainId_quiet plain_eq_loop _, codeAny_builtin entry_eq_loop (by
      rw [Around.under_plainId plain_eq_loop _]
      exact loop_eqW l b xs ys n n2 dd dd2 sl sl2 hsz xs ys 0 rfl rfl (Nat.zero_le _) hl hb (he hsz) h)⟩
  · have hc0 : (xs.toArray.size != ys.toArray.size) = true := by simpa using hsz
    cases hne hsz
    wp_walk using wpAny_loadPart' hl, wpAny_loadPart' hb
    exact h

theorem tup_neW {A : Around} {s : Shared} {R : Result → Shared → Prop} (l b : Addr) (xs ys : List Value) (n n2 : Nat) (dd dd2 : Option Addr) (sl sl2 : Array (Option Value)) {r : Bool}
    (hl : s.heap.get? l = some { cls := .type "tuple", dict := dd, data := .seq xs.toArray n, slots := sl }) (hb : s.heap.get? b = some { cls := .type "tuple", dict := dd2, data := .seq ys.toArray n2, slots := sl2 })
    (he : EqWs C A.in1 s xs ys r) (h : R (.ok (.ret (.bool (!r)))) s) :
    wpAny (model C.prog C.w) A.in1 (Builtin.«tuple.__ne__» ⟨[.ref l, .ref b], []⟩) (fun fin s' => match fin with | .done f => R (.ok f) s' | .again c' => c'.quiet = true ∧ codeAny (model C.prog C.w) A c' R s') (fun e s' => R (.error e) s') s := by
  obtain ⟨hp, g, d, tk, os⟩ := s
  have f2 := AutoSeq1.sub_tuple_tuple
  wp_walk using wpAny_loadPart' hl, wpAny_loadPart' hb, wpAny_forIn_list _ (fun rest b s' => b.1 = none ∧ s' = ⟨hp, g, d, tk, os⟩ ∧ ∃ us vs, rest = us.zip vs ∧ EqWs C A.in1 ⟨hp, g, d, tk, os⟩ us vs r ∧ (xs.length = ys.length ↔ us.length = vs.length)) _
  case turn =>
    rintro ⟨x, y⟩ rest b s' ⟨hb', rfl, us, vs, hz, hr, hlen⟩
    match us, vs, hz, hr with
    | [], _, hz, _ => simp at hz
    | _ :: _, [], hz, _ => simp at hz
    | u :: us, v :: vs, hz, ⟨e, h1, h2⟩ =>
      simp only [List.zip_cons_cons, List.cons.injEq, Prod.mk.injEq] at hz
      obtain ⟨⟨rfl, rfl⟩, rfl⟩ := hz
      dsimp only
      refine wpAny_bind (h1 _ _ ?_)
      rcases h2 with ⟨rfl, h2⟩ | ⟨rfl, h2⟩
      · simp only [Bool.not_true, Bool.false_eq_true, if_false]
        exact wpAny_pure ⟨rfl, rfl, us, vs, rfl, h2, by simpa using hlen⟩
      · subst h2
        simp only [Bool.not_false, if_true]
        refine wpAny_bind (wpAny_pure (wpAny_pure ?_))
        exact wpAny_pure h
  case fin =>
    rintro ⟨b1, b2⟩ s' ⟨hb', rfl, us, vs, hz, hr, hlen⟩
    simp only at hb'
    subst hb'
    have e := EqWs.fin hz hr
    dsimp only
    refine wpAny_pure ?_
    have e2 : Builtin.Tuple.tupleCompareSizes CmpOp.NotEq xs.toArray.size ys.toArray.size = .bool (!r) := by
      show Value.bool (xs.toArray.size != ys.toArray.size) = _
      rw [e, List.size_toArray, List.size_toArray]
      by_cases hq : xs.length = ys.length
      · simp [hq, hlen.mp hq]
      · have : ¬ us.length = vs.length := fun z => hq (hlen.mpr z)
        simp [hq, this]
    rw [e2]
    exact h
  case h => exact ⟨rfl, rfl, xs, ys, by simp, he, Iff.rfl⟩

theorem loop_neW (l b : Addr) (xs ys : List Value) (n n2 : Nat) (dd dd2 : Option Addr) (sl sl2 : Array (Option Value)) (hsz : xs.length = ys.length) : ∀ (us vs : List Value) (i : Nat) {A : Around} {s : Shared} {R : Result → Shared → Prop} {r : Bool},
    us = xs.drop i → vs = ys.drop i → i ≤ xs.length →
    s.heap.get? l = some { cls := .type "list", dict := dd, data := .seq xs.toArray n, slots := sl } → s.heap.get? b = some { cls := .type "list", dict := dd2, data := .seq ys.toArray n2, slots := sl2 } →
    EqWs C A.in1 s us vs r → R (.ok (.ret (.bool (!r)))) s →
    wpAny (model C.prog C.w) A.in1 (Builtin.«list.__eq__.loop» ⟨[.ref l, .ref b, rawInt i, rawInt 3], []⟩) (fun fin s' => match fin with | .done f => R (.ok f) s' | .again c' => c'.quiet = true ∧ codeAny (model C.prog C.w) A c' R s') (fun e s' => R (.error e) s') s := by
  intro us
  induction us with
  | nil =>
    intro vs i A s R r e1 e2 hi hl hb he h
    obtain ⟨hp, g, d, tk, os⟩ := s
    have hil : i = xs.length := by have := congrArg List.length e1; simp at this; omega
    have hv : vs = [] := by rw [e2]; exact List.drop_of_length_le (by exact Nat.le_of_not_lt fun hg => Mine.lin [(xs.length), (ys.length), i] [(1, (.v 1), (.v 0)), (1, (.v 0), (.v 2)), (1, (.a (.v 2) (.n 1)), (.v 1))] rfl (Nat.le_of_eq (Eq.symm hsz)) (Nat.le_of_eq (Eq.symm hil)) hg)
    subst hv
    cases (he : r = true)
    wp_walk using wpAny_loadPart' hl, wpAny_loadPart' hb
    have hi1 : xs.toArray[((i : Nat) : Int).toNat]? = none := by simp; exact Nat.le_of_not_lt fun hg => Mine.lin [(xs.length), i] [(1, (.v 0), (.v 1)), (1, (.a (.v 1) (.n 1)), (.v 0))] rfl (Nat.le_of_eq (Eq.symm hil)) hg
    have hi2 : ys.toArray[((i : Nat) : Int).toNat]? = none := by simp; exact Nat.le_of_not_lt fun hg => Mine.lin [(xs.length), (ys.length), i] [(1, (.v 1), (.v 0)), (1, (.v 0), (.v 2)), (1, (.a (.v 2) (.n 1)), (.v 1))] rfl (Nat.le_of_eq (Eq.symm hsz)) (Nat.le_of_eq (Eq.symm hil)) hg
    rw [hi1, hi2]
    wp_walk using wpAny_loadPart' hl, wpAny_loadPart' hb
    show R (.ok (.ret (.bool (xs.toArray.size != ys.toArray.size)))) _
    simpa [hsz] using h
  | cons u us ih =>
    intro vs i A s R r e1 e2 hi hl hb he h
    obtain ⟨hp, g, d, tk, os⟩ := s
    have hlt : i < xs.length := by have := congrArg List.length e1; simp at this; omega
    have hlt2 : i < ys.length := by exact Nat.lt_of_not_le fun hg => Mine.lin [(xs.length), (ys.length), i] [(1, (.v 0), (.v 1)), (1, (.a (.v 2) (.n 1)), (.v 0)), (1, (.v 1), (.v 2))] rfl (Nat.le_of_eq hsz) hlt hg
    rw [List.drop_eq_getElem_cons hlt] at e1
    rw [List.drop_eq_getElem_cons hlt2] at e2
    injection e1 with e1 e3
    subst e2
    obtain ⟨e, h1, h2⟩ := he
    have hi1 : xs.toArray[((i : Nat) : Int).toNat]? = some u := by simp [hlt, e1]
    have hi2 : ys.toArray[((i : Nat) : Int).toNat]? = some ys[i] := by simp [hlt2]
    have hc : ((i : Int) + 1) = ((i + 1 : Nat) : Int) := by push_cast; rfl
    wp_walk using wpAny_loadPart' hl, wpAny_loadPart' hb
    rw [hi1, hi2]
    refine wpAny_bind (h1 _ _ ?_)
    rcases h2 with ⟨rfl, h2⟩ | ⟨rfl, h2⟩
    · wp_walk
      rw [hc]
      exact ⟨plainId_quiet plain_eq_loop _, codeAny_builtin entry_eq_loop (by
        rw [Around.under_plainId plain_eq_loop _]
        exact ih (ys.drop (i + 1)) (i + 1) e3 rfl (by exact Nat.le_of_not_lt fun hg => Mine.lin [(xs.length), i] [(1, (.a (.v 1) (.n 1)), (.v 0)), (1, (.a (.v 0) (.n 1)), (.a (.v 1) (.n 1)))] rfl hlt hg) hl hb h2 h)⟩
    · subst h2
      wp_walk using wpAny_loadPart' hl, wpAny_loadPart' hb
      rw [hi1, hi2]
      wp_walk
      simpa using h

theorem list_neW {A : Around} {s : Shared} {R : Result → Shared → Prop} (l b : Addr) (xs ys : List Value) (n n2 : Nat) (dd dd2 : Option Addr) (sl sl2 : Array (Option Value)) {r : Bool}
    (hl : s.heap.get? l = some { cls := .type "list", dict := dd, data := .seq xs.toArray n, slots := sl }) (hb : s.heap.get? b = some { cls := .type "list", dict := dd2, data := .seq ys.toArray n2, slots := sl2 })
    (he : xs.length = ys.length → EqWs C A.in1 s xs ys r) (hne : xs.length ≠ ys.length → r = false) (h : R (.ok (.ret (.bool (!r)))) s) :
    wpAny (model C.prog C.w) A.in1 (Builtin.«list.__ne__» ⟨[.ref l, .ref b], []⟩) (fun fin s' => match fin with | .done f => R (.ok f) s' | .again c' => c'.quiet = true ∧ codeAny (model C.prog C.w) A c' R s') (fun e s' => R (.error e) s') s := by
  obtain ⟨hp, g, d, tk, os⟩ := s
  have f3 := AutoSeq1.sub_list_list
  by_cases hsz : xs.length = ys.length
  · have hn' : ¬ (xs.toArray.size != ys.toArray.size) = true := by simp [hsz]
    wp_walk using wpAny_loadPart' hl, wpAny_loadPart' hb
    exact ⟨plainId_quiet plain_eq_loop _, codeAny_builtin entry_eq_loop (by
      rw [Around.under_plainId plain_eq_loop _]
      exact loop_neW l b xs ys n n2 dd dd2 sl sl2 hsz xs ys 0 rfl rfl (Nat.zero_le _) hl hb (he hsz) h)⟩
  · have hc0 : (xs.toArray.size != ys.toArray.size) = true := by simpa using hsz
    cases hne hsz
    wp_walk using wpAny_loadPart' hl, wpAny_loadPart' hb
    exact h
end
end Mine


end
noncomputable section
set_option autoImplicit false
namespace Mine
open PySem PyProof.Rows

noncomputable def dfl : Keyed := (.none, .none)
noncomputable def tk {O : KeyOrd} (key : Keyed → O.α) (xs : Array Keyed) (i : Nat) : O.α := key (xs[i]?.getD dfl)
noncomputable def SIn {O : KeyOrd} (key : Keyed → O.α) (xs : Array Keyed) (i j : Nat) : Prop := ∀ p q, i ≤ p → p ≤ q → q < j → O.kle (tk key xs p) (tk key xs q)
structure SB (kd : SortKind) (a₀ : Array Keyed) (st : SortSt) : Prop where
  perm : (arrOf st).Perm a₀
  kind : kindOf st = kd
  failed : failedOf st = none

/-- what a part of the sort leaves: the row of runs, and all cells below lo -/
structure Kept (lo : Nat) (st st' : SortSt) : Prop where
  pend : pendingOf st' = pendingOf st
  low : ∀ k, k < lo → (arrOf st')[k]? = (arrOf st)[k]?

section pure
variable {O : KeyOrd} {key : Keyed → O.α} {kd : SortKind} {a₀ : Array Keyed}

end pure

section walk
variable {prog : Program} {w : World} {A : Around} {E : Value → Shared → Prop} {s : Shared} {kd : SortKind} {O : KeyOrd} {key : Keyed → O.α} {a₀ : Array Keyed}

end walk
end Mine


end
noncomputable section
set_option autoImplicit false
namespace Mine
open PySem PyProof.Rows

end Mine


end
noncomputable section
set_option autoImplicit false
namespace Mine
open PySem PyProof.Rows

section walk
variable {prog : Program} {w : World} {A : Around} {E : Value → Shared → Prop} {s : Shared} {kd : SortKind} {O : KeyOrd} {key : Keyed → O.α} {a₀ : Array Keyed}

end walk
end Mine


end
noncomputable section
set_option autoImplicit false
namespace Mine
open PySem PyProof.Rows

section walk
variable {prog : Program} {w : World} {A : Around} {E : Value → Shared → Prop} {s : Shared} {kd : SortKind} {O : KeyOrd} {key : Keyed → O.α} {a₀ : Array Keyed}

end walk
end Mine


end
noncomputable section
set_option autoImplicit false
namespace Mine
open PySem PyProof.Rows

abbrev Srt {O : KeyOrd} (key : Keyed → O.α) (l : List Keyed) : Prop := l.Pairwise fun x y => O.kle (key x) (key y)

structure Same (st st' : SortSt) : Prop where
  arr : arrOf st' = arrOf st
  kind : kindOf st' = kindOf st
  failed : failedOf st' = failedOf st
  pend : pendingOf st' = pendingOf st

section pure
variable {O : KeyOrd} {key : Keyed → O.α}

/-- what a merge owes -/
structure Good (key : Keyed → O.α) (a b m : Array Keyed) : Prop where
  perm : m.toList.Perm (a.toList ++ b.toList)
  srt : Srt key m.toList

/-- the middle of a merge from below -/
structure Mid (key : Keyed → O.α) (a b out : Array Keyed) (ia ib : Nat) : Prop where
  perm : (out.toList ++ (a.toList.drop ia ++ b.toList.drop ib)).Perm (a.toList ++ b.toList)
  srt : Srt key out.toList
  low : ∀ x ∈ out.toList, (∀ i, ia ≤ i → i < a.size → O.kle (key x) (tk key a i)) ∧ (∀ j, ib ≤ j → j < b.size → O.kle (key x) (tk key b j))

variable {a b out : Array Keyed} {ia ib : Nat}

end pure
end Mine


end
noncomputable section
set_option autoImplicit false
namespace Mine
open PySem PyProof.Rows

section walk
variable {prog : Program} {w : World} {A : Around} {E : Value → Shared → Prop} {s : Shared} {kd : SortKind} {O : KeyOrd} {key : Keyed → O.α} {a₀ : Array Keyed}

end walk
end Mine


end
noncomputable section
set_option autoImplicit false
namespace Mine
open PySem PyProof.Rows

section pure
variable {O : KeyOrd} {key : Keyed → O.α}

/-- the middle of a merge from above -/
structure MidH (key : Keyed → O.α) (a b out : Array Keyed) (na nb : Nat) : Prop where
  perm : (a.toList.take na ++ (b.toList.take nb ++ out.toList.reverse)).Perm (a.toList ++ b.toList)
  srt : Srt key out.toList.reverse
  high : ∀ x ∈ out.toList, (∀ i, i < na → i < a.size → O.kle (tk key a i) (key x)) ∧ (∀ j, j < nb → j < b.size → O.kle (tk key b j) (key x))

variable {a b out : Array Keyed} {na nb : Nat}

end pure
end Mine


end
noncomputable section
set_option autoImplicit false
namespace Mine
open PySem PyProof.Rows

section walk
variable {prog : Program} {w : World} {A : Around} {E : Value → Shared → Prop} {s : Shared} {kd : SortKind} {O : KeyOrd} {key : Keyed → O.α} {a₀ : Array Keyed}

end walk
end Mine


end
noncomputable section
set_option autoImplicit false
namespace Mine
open PySem PyProof.Rows

section pure
variable {O : KeyOrd} {key : Keyed → O.α}

end pure

section walk
variable {prog : Program} {w : World} {A : Around} {E : Value → Shared → Prop} {s : Shared} {kd : SortKind} {O : KeyOrd} {key : Keyed → O.α} {a₀ : Array Keyed}

end walk
end Mine


end
noncomputable section
set_option autoImplicit false
namespace Mine
open PySem PyProof.Rows

section pure
variable {O : KeyOrd} {key : Keyed → O.α}

/-- the row of runs covers the cells from a up to b, each run sorted -/
noncomputable def Runs (key : Keyed → O.α) (arr : Array Keyed) : List (Nat × Nat × Nat) → Nat → Nat → Prop
  | [], a, b => a = b
  | r :: rs, a, b => r.1 = a ∧ 0 < r.2.1 ∧ SIn key arr a (a + r.2.1) ∧ Runs key arr rs (a + r.2.1) b

end pure

section walk
variable {prog : Program} {w : World} {A : Around} {E : Value → Shared → Prop} {s : Shared} {kd : SortKind} {O : KeyOrd} {key : Keyed → O.α} {a₀ : Array Keyed}

end walk
end Mine


end
noncomputable section
set_option autoImplicit false
namespace Mine
open PySem PyProof.Rows

section
variable {prog : Program} {w : World} {A : Around} {E : Value → Shared → Prop} {s : Shared} {kd : SortKind} {O : KeyOrd} {key : Keyed → O.α}

end
end Mine


end
noncomputable section
set_option autoImplicit false
namespace Mine
open PySem PyProof.Rows

section
variable {prog : Program} {w : World} {A : Around} {E : Value → Shared → Prop} {s : Shared}
end
end Mine


end
noncomputable section
set_option autoImplicit false
namespace Mine
open PySem PyProof.Rows

section
variable {prog : Program} {w : World} {E : Value → Shared → Prop}
end
end Mine


end
noncomputable section
set_option autoImplicit false
namespace Mine
open PySem PyProof.Rows

section
variable {prog : Program} {w : World} {A : Around} {E : Value → Shared → Prop}
end
end Mine


end
noncomputable section
set_option autoImplicit false
namespace Mine
open PySem PyProof.Rows

end Mine


end
noncomputable section
set_option autoImplicit false
namespace Mine
open PySem PyProof.Rows

section
variable {prog : Program} {w : World} {A : Around} {E : Value → Shared → Prop}
end
end Mine


end
noncomputable section
set_option autoImplicit false
namespace Mine
open PySem PySem.W PyProof.Rows

section
variable {prog : Program} {w : World} {A : Around} {E : Value → Shared → Prop}
end
end Mine


end
noncomputable section
set_option autoImplicit false
namespace Mine
open PySem PySem.W PyProof.Rows

section
variable {prog : Program} {w : World} {E : Value → Shared → Prop}
end
end Mine


end
noncomputable section
set_option autoImplicit false
set_option linter.unusedVariables false
namespace Mine
open PySem PySem.W PyProof.Rows PySem.Calls

/- equality, deep, with dicts -/
noncomputable def rowq (f : V → V → Option Bool) : List V → List V → Option Bool
  | [], [] => some true
  | [], _ :: _ => some false
  | _ :: _, [] => some false
  | a :: as, b :: bs => match f a b with
    | some true => rowq f as bs
    | some false => some false
    | Option.none => Option.none
noncomputable def dictq (k2 : List (Str × V)) : List (Str × V) → Option Bool
  | [] => some true
  | (k, v) :: r => match vget k2 k with
    | Option.none => some false
    | some y => match veq0 v y, dictq k2 r with
      | some e, some b => some (e && b)
      | _, _ => Option.none
noncomputable def dq : Nat → View → V → V → Option Bool
  | 0, _, a, b => veq0 a b
  | n + 1, σ, .tup xs, .tup ys => rowq (dq n σ) xs ys
  | n + 1, σ, .ref a, .ref b => match σ a, σ b with
    | some (.list xs), some (.list ys) => if xs.length = ys.length then rowq (dq n σ) xs ys else some false
    | some (.dict k1 _), some (.dict k2 _) => if k1.length = k2.length then dictq k2 k1 else some false
    | _, _ => Option.none
  | _ + 1, _, a, b => veq0 a b

section
variable {C : Cx} {sc : Scope} {k : Nat}
theorem CmpW.tuples {A : Around} {s : Shared} {l b : Addr} {xs ys : List Value} {r : Bool} (hl : s.heap.IsTuple l xs.toArray) (hb : s.heap.IsTuple b ys.toArray) (hu : A.units < cLine) (he : EqWs C A.in1 s xs ys r) : CmpW C A s (.ref l) (.ref b) r := by
  obtain ⟨⟨cls, dd, data, sl⟩, ho, hc, n, hd⟩ := id hl
  obtain ⟨⟨cls2, dd2, data2, sl2⟩, ho2, hc2, n2, hd2⟩ := id hb
  simp only at hc hd hc2 hd2
  subst hc hd hc2 hd2
  intro op E Q hop h
  rcases hop with rfl | rfl
  · exact wpAny_richCompare_same_room (op := .Eq) ⟨_, ho, rfl⟩ ⟨_, ho2, rfl⟩ _root_.PySem.F.slot_tuple_eq (call_meetsIn _root_.PySem.F.slot_tuple_eq ⟨_, ho, rfl⟩ _root_.PySem.F.entry_tuple_eq (_root_.PySem.F.args_tuple_eq_2 _ _)
      (S := fun A' R s' => A' = A ∧ s' = s ∧ R (.ok (.ret (.bool r))) s) (fun A' R s' ⟨e1, e2, hR⟩ => by subst e1 e2; exact tup_eqW l b xs ys n n2 dd dd2 sl sl2 ho ho2 he hR) ⟨rfl, rfl, (fun x => nomatch x), h⟩) hu
  · exact wpAny_richCompare_same_room (op := .NotEq) ⟨_, ho, rfl⟩ ⟨_, ho2, rfl⟩ _root_.PySem.F.slot_tuple_ne (call_meetsIn _root_.PySem.F.slot_tuple_ne ⟨_, ho, rfl⟩ _root_.PySem.F.entry_tuple_ne (_root_.PySem.F.args_tuple_ne_2 _ _)
      (S := fun A' R s' => A' = A ∧ s' = s ∧ R (.ok (.ret (.bool (!r)))) s) (fun A' R s' ⟨e1, e2, hR⟩ => by subst e1 e2; exact tup_neW l b xs ys n n2 dd dd2 sl sl2 ho ho2 he hR) ⟨rfl, rfl, (fun x => nomatch x), h⟩) hu
theorem CmpW.lists {A : Around} {s : Shared} {l b : Addr} {xs ys : List Value} {r : Bool} (hl : s.heap.IsList l xs.toArray) (hb : s.heap.IsList b ys.toArray) (hu : A.units < cLine) (he : xs.length = ys.length → EqWs C A.in1 s xs ys r) (hne : xs.length ≠ ys.length → r = false) : CmpW C A s (.ref l) (.ref b) r := by
  obtain ⟨⟨cls, dd, data, sl⟩, ho, hc, n, hd⟩ := id hl
  obtain ⟨⟨cls2, dd2, data2, sl2⟩, ho2, hc2, n2, hd2⟩ := id hb
  simp only at hc hd hc2 hd2
  subst hc hd hc2 hd2
  intro op E Q hop h
  rcases hop with rfl | rfl
  · exact wpAny_richCompare_same_room (op := .Eq) ⟨_, ho, rfl⟩ ⟨_, ho2, rfl⟩ _root_.PySem.F.slot_list_eq (call_meetsIn _root_.PySem.F.slot_list_eq ⟨_, ho, rfl⟩ _root_.PySem.F.entry_list_eq (_root_.PySem.F.args_list_eq_2 _ _)
      (S := fun A' R s' => A' = A ∧ s' = s ∧ R (.ok (.ret (.bool r))) s) (fun A' R s' ⟨e1, e2, hR⟩ => by subst e1 e2; exact list_eqW l b xs ys n n2 dd dd2 sl sl2 ho ho2 he hne hR) ⟨rfl, rfl, (fun x => nomatch x), h⟩) hu
  · exact wpAny_richCompare_same_room (op := .NotEq) ⟨_, ho, rfl⟩ ⟨_, ho2, rfl⟩ _root_.PySem.F.slot_list_ne (call_meetsIn _root_.PySem.F.slot_list_ne ⟨_, ho, rfl⟩ _root_.PySem.F.entry_list_ne (_root_.PySem.F.args_list_ne_2 _ _)
      (S := fun A' R s' => A' = A ∧ s' = s ∧ R (.ok (.ret (.bool (!r)))) s) (fun A' R s' ⟨e1, e2, hR⟩ => by subst e1 e2; exact list_neW l b xs ys n n2 dd dd2 sl sl2 ho ho2 he hne hR) ⟨rfl, rfl, (fun x => nomatch x), h⟩) hu

theorem hits_of {A : Around} {s : Shared} {k2 : List (Str × V)} {w2 : List (Str × Value)} (h2 : PRel C.aS s.heap k2 w2) : ∀ {k1 : List (Str × V)} {w1 : List (Str × Value)} {r : Bool}, PRel C.aS s.heap k1 w1 → dictq k2 k1 = some r → KeqHits A s w2 w1 r
  | [], [], r, _, h => by cases h; exact .nil
  | (k, v) :: k1, (k', w) :: w1, r, ⟨e, hv, hr⟩, h => by
    subst e
    unfold dictq at h
    cases hg : vget k2 k with
    | none =>
      rw [hg] at h
      cases h
      have : (valueAt w2 k).isSome = false := by rw [← h2.none (k := k), hg]; rfl
      exact .miss (by cases e : valueAt w2 k with | none => rfl | some _ => rw [e] at this; cases this)
    | some y =>
      rw [hg] at h
      obtain ⟨wy, e1, e2⟩ := h2.find hg
      dsimp only at h
      split at h
      · rename_i e b h3 h4
        cases h
        exact .hit e1 (eqAt0 h3 hv e2) (hits_of h2 hr h4)
      · cases h

theorem row_self {f : V → V → Option Bool} {s : Shared} (hf : ∀ a b w r, f a b = some r → VRel C.aS s.heap a w → VRel C.aS s.heap b w → r = true) : ∀ {as bs : List V} {ws : List Value} {r : Bool}, rowq f as bs = some r → VRels C.aS s.heap as ws → VRels C.aS s.heap bs ws → r = true
  | [], bs, ws, r, h, ha, hb => by
    have := hb.length
    rw [ha.inv0] at this
    rw [List.length_eq_zero_iff.mp this] at h
    cases h; rfl
  | a :: as, bs, ws, r, h, ha, hb => by
    obtain ⟨w, ws', rfl, va, ra⟩ := ha.invC
    match bs, hb with
    | [], hb => exact absurd hb.inv0 (by simp)
    | b :: bs, hb =>
      obtain ⟨w2, ws2, e, vb, rb⟩ := hb.invC
      cases e
      unfold rowq at h
      split at h
      · exact row_self hf h ra rb
      · rename_i h1
        have := hf _ _ _ _ h1 va vb
        cases this
      · cases h
theorem dict_self {k0 : List (Str × V)} (hn : (k0.map (·.1)).Nodup) : ∀ {k1 : List (Str × V)} {r : Bool}, (∀ q ∈ k1, q ∈ k0) → dictq k0 k1 = some r → r = true
  | [], r, _, h => by cases h; rfl
  | (k, v) :: k1, r, hm, h => by
    have hg : vget k0 k = some v := by
      have hq := hm _ (List.mem_cons_self ..)
      unfold vget
      rw [Option.map_eq_some_iff]
      refine ⟨(k, v), ?_, rfl⟩
      clear h hm
      induction k0 with
      | nil => cases hq
      | cons p k0 ih =>
        rw [List.map_cons, List.nodup_cons] at hn
        rcases List.mem_cons.mp hq with e | hq
        · rw [← e, List.find?_cons_of_pos (by simp)]
        · rw [List.find?_cons_of_neg]
          · exact ih hn.2 hq
          · intro z
            have z' : p.1 = k := by simpa using z
            exact hn.1 (by rw [z']; exact List.mem_map.mpr ⟨_, hq, rfl⟩)
    unfold dictq at h
    rw [hg] at h
    dsimp only at h
    split at h
    · rename_i e b h3 h4
      cases h
      have h5 := dict_self hn (fun q hq => hm q (List.mem_cons_of_mem _ hq)) h4
      have h6 : e = true := by
        cases v <;> simp [veq0] at h3 <;> exact h3
      rw [h5, h6]; rfl
    · cases h
theorem PRel.keys {aS : Addr} {h : Heap} : ∀ {a : List (Str × V)} {b : List (Str × Value)}, PRel aS h a b → a.map (·.1) = b.map (·.1)
  | [], [], _ => rfl
  | (_, _) :: _, (_, _) :: _, ⟨e, _, r⟩ => by rw [List.map_cons, List.map_cons, PRel.keys r, e]
theorem dict_nodup {σ : View} {s : Shared} (R : RelG C σ s) {a : Addr} {kvs : List (Str × V)} {ep : Nat} (h : σ a = some (.dict kvs ep)) : (kvs.map (·.1)).Nodup := by
  obtain ⟨_, kws, h1, h2⟩ := R.view _ _ h
  rw [h2.keys]
  exact let ⟨_, _, _, _, _, _, _, _, hn⟩ := h1.dictOf; hn
theorem dq_self {σ : View} {s : Shared} (R : RelG C σ s) : ∀ (n : Nat) (a b : V) (w : Value) (r : Bool), dq n σ a b = some r → VRel C.aS s.heap a w → VRel C.aS s.heap b w → r = true
  | 0, a, b, w, r, h, va, vb => veq0_self h va vb
  | n + 1, a, b, w, r, h, va, vb => by
    cases a <;> cases b <;> simp only [dq] at h <;> first | exact veq0_self h va vb | skip
    · rename_i p q
      cases va; cases vb
      split at h
      · rename_i xs ys hx hy
        rw [hx] at hy; cases hy
        obtain ⟨_, ws, h1, h2⟩ := R.view _ _ hx
        rw [if_pos rfl] at h
        exact row_self (dq_self R n) h h2 h2
      · rename_i k1 _ k2 _ hx hy
        rw [hx] at hy; cases hy
        rw [if_pos rfl] at h
        exact dict_self (dict_nodup R hx) (fun q hq => hq) h
      · cases h
    · rename_i xs ys
      cases va with | @tup _ p ws ht hvs => cases vb with | @tup _ _ us ht' hus =>
      obtain ⟨o, ho, _, n1, hd⟩ := ht
      obtain ⟨o', ho', _, n2, hd'⟩ := ht'
      rw [ho] at ho'; cases ho'
      rw [hd] at hd'
      injection hd' with e1 _
      have e2 : ws = us := by simpa using congrArg Array.toList e1
      subst e2
      exact row_self (dq_self R n) h hvs hus
theorem cmpW {σ : View} {s : Shared} (O : C.Ok) (R : RelG C σ s) : ∀ (n : Nat) {A : Around} {a b : V} {wa wb : Value} {r : Bool}, dq n σ a b = some r → VRel C.aS s.heap a wa → VRel C.aS s.heap b wb → A.units + n < cLine →
    (veq0 a b = some r) ∨ ∃ p q, wa = .ref p ∧ wb = .ref q ∧ CmpW C A s (.ref p) (.ref q) r
  | 0, A, a, b, wa, wb, r, h, va, vb, hu => .inl h
  | n + 1, A, a, b, wa, wb, r, h, va, vb, hu => by
    have elem : ∀ {xs ys : List V} {ws us : List Value} {r : Bool}, rowq (dq n σ) xs ys = some r → VRels C.aS s.heap xs ws → VRels C.aS s.heap ys us → EqWs C A.in1 s ws us r := by
      intro xs
      induction xs with
      | nil =>
        intro ys ws us r h hx hy
        cases hx
        cases hy with
        | nil => cases h; rfl
        | cons _ _ => cases h; rfl
      | cons x xs ih =>
        intro ys ws us r h hx hy
        cases hx with | cons vx rx =>
        cases hy with
        | nil => cases h; rfl
        | cons vy ry =>
          rename_i w0 ws0 y0 u0 ys0 us0
          have one : ∀ e, dq n σ x y0 = some e → EqW C A.in1 s w0 u0 e := fun e hj => by
            rcases cmpW O R n (A := A.in1) hj vx vy (by show A.units + 1 + n < _; omega) with z | ⟨p, q, e1, e2, hr⟩
            · exact EqW.at (eqAt0 z vx vy)
            · subst e1 e2
              by_cases hne : p = q
              · subst hne; rw [dq_self R n x y0 _ _ hj vx vy]; exact EqW.at (SeqAt.EqAt.same _)
              · exact EqW.of_refs hne hr
          unfold rowq at h
          split at h
          · rename_i h1
            exact ⟨true, one _ h1, .inl ⟨rfl, ih h rx ry⟩⟩
          · rename_i h1
            cases h
            exact ⟨false, one _ h1, .inr ⟨rfl, rfl⟩⟩
          · cases h
    cases a <;> cases b <;> simp only [dq] at h <;> first | exact .inl h | skip
    · rename_i p q
      cases va; cases vb
      split at h
      · rename_i xs ys hx hy
        obtain ⟨_, ws, h1, h2⟩ := R.view _ _ hx
        obtain ⟨_, us, h3, h4⟩ := R.view _ _ hy
        refine .inr ⟨p, q, rfl, rfl, CmpW.lists h1.isList h3.isList (by omega) (fun hl => ?_) fun hl => ?_⟩
        · rw [← h2.length, ← h4.length] at hl
          rw [if_pos hl] at h
          exact elem h h2 h4
        · rw [← h2.length, ← h4.length] at hl
          rw [if_neg hl] at h
          cases h; rfl
      · rename_i k1 _ k2 _ hx hy
        obtain ⟨_, w1, h1, h2⟩ := R.view _ _ hx
        obtain ⟨_, w2, h3, h4⟩ := R.view _ _ hy
        have n1 := O.noMods (R.apart p (by rw [hx]; simp))
        have n2 := O.noMods (R.apart q (by rw [hy]; simp))
        refine .inr ⟨p, q, rfl, rfl, fun op E Q hop hq => ?_⟩
        by_cases hl : k1.length = k2.length
        · rw [if_pos hl] at h
          have hh := hits_of (A := A.in1) h4 h2 h
          have e : (w1.length == w2.length && r) = r := by rw [← h2.length, ← h4.length]; simp [hl]
          rcases hop with rfl | rfl
          · exact keq_eq n1 n2 h1.dictOf h3.dictOf (by omega) (fun _ => hh) (by rw [e]; exact hq)
          · exact keq_ne n1 n2 h1.dictOf h3.dictOf (by omega) (fun _ => hh) (by rw [e]; exact hq)
        · rw [if_neg hl] at h
          cases h
          have hl' : ¬ w1.length = w2.length := by rw [← h2.length, ← h4.length]; exact hl
          have e : (w1.length == w2.length && true) = false := by simp [hl']
          rcases hop with rfl | rfl
          · exact keq_eq (r := true) n1 n2 h1.dictOf h3.dictOf (by omega) (fun z => absurd z hl') (by rw [e]; exact hq)
          · exact keq_ne (r := true) n1 n2 h1.dictOf h3.dictOf (by omega) (fun z => absurd z hl') (by rw [e]; exact hq)
      · cases h
    · rename_i xs ys
      cases va with | @tup _ p ws ht hvs => cases vb with | @tup _ q us ht' hus =>
      exact .inr ⟨p, q, rfl, rfl, CmpW.tuples ht ht' (by omega) (elem h hvs hus)⟩
/-- ==, != of anything, to the depth 4 -/
noncomputable def opEqD : O2 := fun a b σ Q => ∃ r, dq 4 σ a b = some r ∧ Q (.bool r) σ
noncomputable def opNe : O2 := fun a b σ Q => ∃ r, dq 4 σ a b = some r ∧ Q (.bool (!r)) σ
theorem ok_eqD (O : C.Ok) : Op2 C k (compareOp .Eq) opEqD := by
  intro A s σ a b wa wb Q P E ao R va vb ⟨r, hr, q⟩ hP
  rcases cmpW O R 4 (A := A) hr va vb (by have := ao.units; omega) with z | ⟨p, p', rfl, rfl, h⟩
  · exact ok_eq0 A s σ a b wa wb Q P E ao R va vb ⟨r, z, q⟩ hP
  · exact h .Eq E P (.inl rfl) (hP _ _ σ s (.bool r) R Step.refl q)
theorem ok_neD (O : C.Ok) : Op2 C k (compareOp .NotEq) opNe := by
  intro A s σ a b wa wb Q P E ao R va vb ⟨r, hr, q⟩ hP
  rcases cmpW O R 4 (A := A) hr va vb (by have := ao.units; omega) with z | ⟨p, p', rfl, rfl, h⟩
  · exact ok_ne0 A s σ a b wa wb Q P E ao R va vb ⟨r, z, q⟩ hP
  · exact h .NotEq E P (.inr rfl) (hP _ _ σ s (.bool (!r)) R Step.refl q)
end
end Mine


end
noncomputable section
set_option autoImplicit false
set_option linter.unusedVariables false
namespace Mine
open PySem PySem.W PyProof.Rows PySem.Calls

noncomputable def srt (xs : List Str) : List Str := xs.mergeSort fun a b => !decide (cl b < cl a)
section
variable {C : Cx} {p : Program} {sc : Scope} {k : Nat}
theorem bb_sorted : bootBuiltins (Str.ofString "sorted") = some (.builtin "sorted") := by decide +kernel
end
end Mine


end
noncomputable section
set_option autoImplicit false
set_option linter.unusedVariables false
namespace Mine
open PySem PySem.W PyProof.Rows PySem.Calls

section
variable {C : Cx} {p : Program} {sc : Scope} {k : Nat}
/- dict(d) -/
noncomputable def spDictC : Spec
  | [.ref a], σ, Q => ∃ kvs ep, σ a = some (.dict kvs ep) ∧ newD kvs σ Q
  | _, _, _ => False
theorem ok_dictC (O : C.Ok) : OpN C k (fun ws => PySem.call (.type "dict") ws) spDictC := by
  intro A s σ vs ws Q P E ao R hv q hP
  unfold spDictC at q
  split at q
  · rename_i a
    obtain ⟨wa, rfl, h1⟩ := hv.inv1
    cases h1
    obtain ⟨kvs, ep, hx, q⟩ := q
    obtain ⟨hz, kws, h1, h2⟩ := R.view _ _ hx
    have hl := h2.length
    refine with_size (kt_call_dict (knd := PySem.strKind C.prog C.w) (O.noMods (R.apart a (by rw [hx]; simp))) h1.dictOf (by rw [sizeLine_eq]; omega) fun h' hd' hs' => ?_)
    intro hsz
    obtain ⟨ep', hat⟩ := hd'.dictAt
    have hn := size_none s.heap
    have hk : ∀ b o, s.heap.get? b = some o → h'.get? b = some o := fun b o e => hs'.extBut b o (Nat.ne_of_lt (Heap.lt_size e)) (Heap.get?_push_of_some _ e)
    exact hP _ _ (upd σ s.heap.objs.size (.dict kvs ep')) _ (.ref _) (R.add (tk := s.toks) hk hn ⟨hz, kws, hat, h2.keep fun b o e _ => hk b o e⟩) (.add hk hsz (Nat.le_refl _)) (q _ ep' (R.freshNone hn))
  · exact q.elim
theorem HE.dictC (G : Gl C p) {np pos : Pos} {es : List Expr} {L : LT} (hn : sc.names.lookup (Str.ofString "dict") = some .globalImplicit) (hl : HL C sc k es L) (hp : plainArgs es = true) : HE C sc k (.Call (.Name (Str.ofString "dict") np) es [] pos) (eCall spDictC L) :=
  HE.btype G.ok (ok_dictC G.ok) hn (G.free _ (by decide)) (G.blt bb_dict (by decide)) rfl hl hp
/- d.get(k) -/
noncomputable def spGet : Spec
  | [.ref a, .str x], σ, Q => ∃ kvs ep, σ a = some (.dict kvs ep) ∧ Q ((vget kvs x).getD .none) σ
  | _, _, _ => False
theorem ok_get (O : C.Ok) : OpN C k (fun ws => PySem.call (.builtin "dict.get") ws) spGet := by
  intro A s σ vs ws Q P E ao R hv q hP
  unfold spGet at q
  split at q
  · rename_i a x
    obtain ⟨wa, wb, rfl, h1, h2⟩ := hv.inv2
    cases h1; cases h2 with | str _ t =>
    obtain ⟨kvs, ep, hx, q⟩ := q
    obtain ⟨hz, kws, h1, h2⟩ := R.view _ _ hx
    refine call_meetsIn _root_.PySem.F.slot_dict_get h1.dictOf.typeIs _root_.PySem.F.entry_dict_get (_root_.PySem.F.args_dict_get_2 _ _) (meets_dict_get (PySem.strKind C.prog C.w) a (key_is x t) (O.noMods (R.apart a (by rw [hx]; simp)))) ⟨_, h1.dictOf.mapOf, ?_⟩
    cases hg : vget kvs x with
    | none =>
      rw [hg] at q
      have e : valueAt kws x = Option.none := by
        have : (valueAt kws x).isSome = false := by rw [← h2.none (k := x), hg]; rfl
        cases e : valueAt kws x with
        | none => rfl
        | some _ => rw [e] at this; cases this
      show P ((valueAt kws x).getD .none) _
      rw [e]
      exact hP _ _ σ _ .none (R.tok _) Step.refl q
    | some v =>
      rw [hg] at q
      obtain ⟨w, e1, e2⟩ := h2.find hg
      show P ((valueAt kws x).getD .none) _
      rw [e1]
      exact hP _ _ σ _ e2 (R.tok _) Step.refl q
  · exact q.elim
theorem HE.getD (G : Gl C p) {o : Expr} {apos pos : Pos} {es : List Expr} {To : ET} {L : LT} (ho : HE C sc k o To) (hl : HL C sc k es L) (hp : plainArgs es = true)
    (hbase : ∀ env, attributeBase o (Str.ofString "get") env (eval o env) = eval o env) (hline : (apos.endLine == pos.line) = true) (hfew : es.length < 30) : HE C sc k (.Call (.Attribute o (Str.ofString "get") apos) es [] pos) (eMeth tyDict spGet To L) :=
  HE.meth tyDict_ok F.plainAttrs_dict F.slot_dict_get F.type_dict_get (ok_get G.ok) ho hl hp hbase hline hfew
/- k not in d -/
noncomputable def opNotInD : O2
  | .str x, .ref a, σ, Q => ∃ kvs ep, σ a = some (.dict kvs ep) ∧ Q (.bool (!(vget kvs x).isSome)) σ
  | _, _, _, _ => False
theorem ok_notInD (O : C.Ok) : Op2 C k (compareOp .NotIn) opNotInD := by
  intro A s σ a b wa wb Q P E ao R va vb q hP
  unfold opNotInD at q
  split at q
  · rename_i x a
    cases va; cases vb
    obtain ⟨kvs, ep, hx, q⟩ := q
    obtain ⟨_, kws, h1, h2⟩ := R.view _ _ hx
    refine wpAny_notIn_of (knd := PySem.strKind C.prog C.w) (key_is x _) (O.noMods (R.apart a (by rw [hx]; simp))) h1.dictOf.mapOf ?_
    rw [← h2.none]
    exact hP _ _ σ _ (.bool _) (R.tok _) Step.refl q
  · exact q.elim
/- is None, is True -/
noncomputable def vNone : V → Bool
  | .none => true
  | _ => false
noncomputable def opIs : O2
  | .bool a, .bool b, σ, Q => Q (.bool (a == b)) σ
  | v, .none, σ, Q => Q (.bool (vNone v)) σ
  | _, _, _, _ => False
noncomputable def opIsNot : O2
  | .bool a, .bool b, σ, Q => Q (.bool (a != b)) σ
  | v, .none, σ, Q => Q (.bool (!vNone v)) σ
  | _, _, _, _ => False
theorem none_rel {h : Heap} {v : V} {w : Value} (hv : VRel C.aS h v w) : (w == Value.none) = vNone v := by
  cases hv <;> rfl
theorem ok_isNot : Op2 C k (compareOp .IsNot) opIsNot := by
  intro A s σ a b wa wb Q P E ao R va vb q hP
  unfold opIsNot at q
  split at q
  · cases va; cases vb
    exact isnot_bool (hP _ _ σ s (.bool _) R Step.refl q)
  · cases vb
    exact isnot_none_gen (by rw [none_rel va]; exact hP _ _ σ s (.bool _) R Step.refl q)
  · exact q.elim
/- a, b = v -/
noncomputable def sSetT (g : Tgt) (T : ET) : ST := fun m σ Q => T m σ fun v σ' => ∃ m', bindT g v m = some m' ∧ Q .next m' σ'
end
section
variable {m : Loc} {σ : View} {Q : V → View → Prop} {R : Fl → Loc → View → Prop} {ns : List Int}
@[simp] theorem sSetT_eq {g : Tgt} {T : ET} : sSetT g T m σ R = T m σ fun v σ' => ∃ m', bindT g v m = some m' ∧ R .next m' σ' := rfl
theorem dictc_dict {a : Addr} {kvs : List (Str × V)} {ep : Nat} (h : σ a = some (.dict kvs ep)) (q : newD kvs σ Q) : spDictC [.ref a] σ Q := ⟨kvs, ep, h, q⟩
theorem get_dict {a : Addr} {kvs : List (Str × V)} {ep : Nat} {x : Str} (h : σ a = some (.dict kvs ep)) (q : Q ((vget kvs x).getD .none) σ) : spGet [.ref a, .str x] σ Q := ⟨kvs, ep, h, q⟩
@[simp] theorem is_none {v : V} : opIs v .none σ Q = Q (.bool (vNone v)) σ := by cases v <;> rfl
@[simp] theorem isnot_none {v : V} : opIsNot v .none σ Q = Q (.bool (!vNone v)) σ := by cases v <;> rfl
@[simp] theorem is_bb {a b : Bool} : opIs (.bool a) (.bool b) σ Q = Q (.bool (a == b)) σ := rfl
@[simp] theorem isnot_bb {a b : Bool} : opIsNot (.bool a) (.bool b) σ Q = Q (.bool (a != b)) σ := rfl
/-- a value without addresses, to the depth n -/
noncomputable def Flat0 : V → Prop
  | .none | .bool _ | .int _ | .str _ => True
  | _ => False
noncomputable def FlatN : Nat → V → Prop
  | 0, v => Flat0 v
  | n + 1, .tup vs => ∀ v ∈ vs, FlatN n v
  | _ + 1, v => Flat0 v
theorem veq0_flat {v : V} (h : Flat0 v) : veq0 v v = some true := by
  cases v <;> first | exact h.elim | simp [veq0]
theorem rowq_same {f : V → V → Option Bool} : ∀ {xs : List V}, (∀ x ∈ xs, f x x = some true) → rowq f xs xs = some true
  | [], _ => rfl
  | x :: xs, h => by
    unfold rowq
    rw [h x (List.mem_cons_self ..)]
    exact rowq_same fun y hy => h y (List.mem_cons_of_mem _ hy)
theorem dq_flat : ∀ {n : Nat} {v : V}, FlatN n v → dq n σ v v = some true
  | 0, v, h => veq0_flat h
  | n + 1, v, h => by
    cases v <;> first | exact veq0_flat h | exact (h : False).elim | skip
    exact rowq_same fun x hx => dq_flat (h x hx)
theorem dq_list {n : Nat} {a b : Addr} {xs : List V} (ha : σ a = some (.list xs)) (hb : σ b = some (.list xs)) (h : ∀ x ∈ xs, FlatN n x) : dq (n + 1) σ (.ref a) (.ref b) = some true := by
  simp only [dq, ha, hb, if_true]
  exact rowq_same fun x hx => dq_flat (h x hx)
theorem dictq_same {k0 : List (Str × V)} (hn : (k0.map (·.1)).Nodup) (hf : ∀ q ∈ k0, Flat0 q.2) : ∀ {k1 : List (Str × V)}, (∀ q ∈ k1, q ∈ k0) → dictq k0 k1 = some true
  | [], _ => rfl
  | (k, v) :: k1, hm => by
    have hg : ∃ y, vget k0 k = some y ∧ (k, y) ∈ k0 := vget_mem (List.mem_map.mpr ⟨_, hm _ (List.mem_cons_self ..), rfl⟩)
    obtain ⟨y, hy, hmem⟩ := hg
    have e : y = v := by
      have hq := hm _ (List.mem_cons_self ..)
      clear hy hm
      induction k0 with
      | nil => cases hq
      | cons p k0 ih =>
        rw [List.map_cons, List.nodup_cons] at hn
        rcases List.mem_cons.mp hq with e1 | hq
        · rcases List.mem_cons.mp hmem with e2 | hmem
          · rw [← e1] at e2; exact congrArg (·.2) e2
          · exact absurd (List.mem_map.mpr ⟨_, hmem, by rw [← e1]⟩) hn.1
        · rcases List.mem_cons.mp hmem with e2 | hmem
          · exact absurd (List.mem_map.mpr ⟨_, hq, by rw [← e2]⟩) hn.1
          · exact ih hn.2 (fun q hq => hf q (List.mem_cons_of_mem _ hq)) hmem hq
    subst e
    unfold dictq
    rw [hy]
    dsimp only
    rw [veq0_flat (hf _ hmem), dictq_same hn hf fun q hq => hm q (List.mem_cons_of_mem _ hq)]
    rfl
theorem dq_dict {n : Nat} {a b : Addr} {kvs : List (Str × V)} {e1 e2 : Nat} (ha : σ a = some (.dict kvs e1)) (hb : σ b = some (.dict kvs e2)) (hn : (kvs.map (·.1)).Nodup) (hf : ∀ q ∈ kvs, Flat0 q.2) : dq (n + 1) σ (.ref a) (.ref b) = some true := by
  simp only [dq, ha, hb, if_true]
  exact dictq_same hn hf fun q hq => hq
theorem dq_tup {n : Nat} {xs ys : List V} (h : rowq (dq n σ) xs ys = some true) : dq (n + 1) σ (.tup xs) (.tup ys) = some true := h
theorem rowq_cons {f : V → V → Option Bool} {x y : V} {xs ys : List V} (h : f x y = some true) (h' : rowq f xs ys = some true) : rowq f (x :: xs) (y :: ys) = some true := by
  unfold rowq
  rw [h]
  exact h'
theorem eqD_true {a b : V} (h : dq 4 σ a b = some true) (q : Q (.bool true) σ) : opEqD a b σ Q := ⟨true, h, q⟩
theorem neD_false {a b : V} (h : dq 4 σ a b = some true) (q : Q (.bool false) σ) : opNe a b σ Q := ⟨true, h, q⟩
end
end Mine


end
noncomputable section
set_option autoImplicit false
namespace Mine
open PySem

/-- the frames ahead: function frames whose names lie in dicts of no view -/
noncomputable def FrsOk (C : Cx) (σ : View) (h : Heap) (fs : List Env) : Prop := ∀ x ∈ fs, x.scope.kind ≠ .module ∧ ∃ L, x.frame = some L ∧ C.hB.get? L = none ∧ σ L = none ∧ ∃ o es ep, h.get? L = some o ∧ o.data = .dict es ep
structure FOk (C : Cx) (A : Around) (env : Env) (σ : View) (h : Heap) : Prop where
  frames : ∃ outer, A.frames = some (env :: outer) ∧ FrsOk C σ h outer ∧ ∀ x ∈ outer, ∀ L, x.frame = some L → ¬ Own env L
  frame : env.frame = some env.locals
/-- its traceback -/
inductive FlyB (n : Nat) (σ : View) (h : Heap) (e : Addr) (ok : Option Value → Prop) (vs : Array Value) : Prop
  | mk (T : Addr) (oT : Obj) (ts : Array Value) (fl : Value) (h1 : vs[1]? = some (.ref T)) (hn : n ≤ T) (hs : σ T = none) (hne : T ≠ e) (ho : h.get? T = some oT) (hd : oT.data = .fields ts) (h3 : ts[3]? = some fl) (hk : ok (some fl)) : FlyB n σ h e ok vs
inductive FlyTb (n : Nat) (σ : View) (h : Heap) (e : Addr) (ok : Option Value → Prop) (vs : Array Value) : Prop
  | inl (x : ok none ∧ vs[1]? = some .none) : FlyTb n σ h e ok vs
  | inr (x : FlyB n σ h e ok vs) : FlyTb n σ h e ok vs
inductive FlyO (C : Cx) (c : String) (n : Nat) (σ : View) (h : Heap) (e : Addr) (ok : Option Value → Prop) : Prop
  | mk (oe : Obj) (vs : Array Value) (Cl : Addr) (he : h.get? e = some oe) (hg : C.mg (Str.ofString c) = some (.ref Cl)) (hc : oe.cls = .ref Cl) (hd : oe.data = .fields vs) (h2 : vs[2]? = some .none) (h2s : 2 < vs.size) (tb : FlyTb n σ h e ok vs) : FlyO C c n σ h e ok
/-- an exception under way in the frame at L; what is changed on its way lies from n on, and in no view -/
structure Fly (C : Cx) (c : String) (n : Nat) (σ : View) (h : Heap) (e : Addr) (ok : Option Value → Prop) : Prop where
  obj : FlyO C c n σ h e ok
  new : n ≤ e
  sep : σ e = none
/-- what an exception's way changes -/
structure Moved (n : Nat) (σ : View) (S : List Addr) (h h' : Heap) : Prop where
  size : h.objs.size ≤ h'.objs.size
  keep : ∀ b o, h.get? b = some o → (b < n ∨ σ b ≠ none ∨ ∀ vs, o.data ≠ .fields vs) → b ∉ S → h'.get? b = some o
  slots : ∀ b o, h.get? b = some o → b ∈ S → ∃ sl, h'.get? b = some { o with slots := sl }
theorem Moved.trans {n : Nat} {σ : View} {S : List Addr} {h₁ h₂ h₃ : Heap} (x : Moved n σ S h₁ h₂) (y : Moved n σ S h₂ h₃) : Moved n σ S h₁ h₃ where
  size := Nat.le_trans x.size y.size
  keep := fun b o e z q => y.keep b o (x.keep b o e z q) z q
  slots := fun b o e q => by
    obtain ⟨sl, h1⟩ := x.slots b o e q
    obtain ⟨sl', h2⟩ := y.slots b _ h1 q
    exact ⟨sl', h2⟩
theorem Moved.refl {n : Nat} {σ : View} {S : List Addr} {h : Heap} : Moved n σ S h h := ⟨Nat.le_refl _, fun _ _ e _ _ => e, fun _ o e _ => ⟨o.slots, e⟩⟩
section
variable {C : Cx} {M : Model} {A : Around} {E : Value → Shared → Prop} {s : Shared} {env : Env} {σ : View} {m : Loc} {c : String} {n : Nat} {e : Addr} {ok : Option Value → Prop}
noncomputable def frs (env : Env) (outer : List Env) : List Addr := (env :: outer).filterMap (·.frame)
theorem fun_frames {outer : List Env} (hf : env.frame = some env.locals) (hk : env.scope.kind = .function) (F : FrameRel C env m σ s.heap) (ho : FrsOk C σ s.heap outer) : s.heap.FunFrames C.hB (env :: outer) := by
  obtain ⟨mm, ⟨oL, es, ep, hoL, hdL, _⟩, _⟩ := F.ns
  refine ⟨by rw [hk]; decide, ⟨_, oL, hf, F.baseL, hoL, fun vs q => by rw [hdL] at q; cases q⟩, ?_⟩
  clear F hoL hdL
  induction outer with
  | nil => trivial
  | cons x r ih =>
    obtain ⟨h1, L, h2, h3, h4, o, es', ep', h5, h6⟩ := ho x (.head _)
    exact ⟨h1, ⟨L, o, h2, h3, h5, fun vs q => by rw [h6] at q; cases q⟩, ih fun y hy => ho y (.tail _ hy)⟩
/-- a new entry of the traceback -/
theorem newEntryX {outer : List Env} {oe : Obj} {vs : Array Value} {Cl : Addr} {head : Value} {had : Bool} {Q : Unit → Shared → Prop} (hfr : A.frames = some (env :: outer)) (hl : s.heap.FunFrames C.hB (env :: outer)) (hf : env.frame = some env.locals)
    (he : s.heap.get? e = some oe) (hmg : C.mg (Str.ofString c) = some (.ref Cl)) (hcls : oe.cls = .ref Cl) (hd : oe.data = .fields vs) (h2 : vs[2]? = some .none) (hn : n ≤ e) (hnz : n ≤ s.heap.objs.size) (hs : σ e = none) (hsT : σ s.heap.objs.size = none)
    (h : ∀ h', Fly C c n σ h' e (fun x => x = some (rawInt env.locals)) → Moved n σ (frs env outer) s.heap h' → Q () { s with heap := h' }) :
    wpAny M A (do let a ← frameOf env; let pl ← entryPlaceOf env.locals had; let b ← EntryCells.newEntry head a .none (rawInt env.locals) .none pl; setField (.ref e) 1 b) Q E s := by
  have hene : e ∉ frs env outer := fun hm => by
    obtain ⟨_, o, ho, hnf⟩ := hl.mem hm
    rw [he] at ho; cases ho; exact hnf vs hd
  have h1sz : 2 < vs.size := (Array.getElem?_eq_some_iff.mp h2).1
  refine wpAny_bind (wpAny_frameOf_fun hfr hl hf fun h₁ hs₁ => ?_)
  refine wpAny_bind (wpAny_entryPlaceOf fun pl hpl => ?_)
  unfold EntryCells.newEntry newFields
  refine wpAny_bind (wpAny_newObj_type ?_ (hpl.sizeOk5 _ _ _ _ _))
  generalize hot : ({ cls := .type "traceback", dict := none, data := .fields ([head, .ref env.locals, .none, rawInt env.locals, .none] ++ (if pl.isEmpty then List.replicate 6 Value.none else pl)).toArray } : Obj) = ot
  have hdt : ot.data = .fields ([head, .ref env.locals, .none, rawInt env.locals, .none] ++ (if pl.isEmpty then List.replicate 6 Value.none else pl)).toArray := by rw [← hot]
  have he₁ : h₁.get? e = some oe := (hs₁.2.1 e hene).trans he
  have he₂ := Heap.get?_push_of_some (h := h₁) ot he₁
  have hTe : h₁.objs.size ≠ e := Nat.ne_of_gt (Heap.lt_size he₁)
  have hd₃ := Obj.data_mapFields hd (·.setIfInBounds 1 (Value.ref h₁.objs.size))
  refine wpAny_setField he₂ hd (by omega) (h _ ?_ ?_)
  · have he₃ := Heap.get?_update_self (Obj.mapFields (·.setIfInBounds 1 (Value.ref h₁.objs.size))) he₂ (Obj.isFreed_of_fields hd₃)
    have hT₃ := (Heap.get?_update_other (h₁.push ot) (Obj.mapFields (·.setIfInBounds 1 (Value.ref h₁.objs.size))) (Ne.symm hTe)).trans (Heap.get?_push_size h₁ (by rw [← hot]; rfl))
    refine ⟨⟨_, _, Cl, he₃, hmg, (Obj.cls_mapFields _ _).trans hcls, hd₃, by rw [Array.getElem?_setIfInBounds_ne (by decide)]; exact h2, by rw [Array.size_setIfInBounds]; exact h1sz, .inr ⟨h₁.objs.size, ot, _, rawInt env.locals, by rw [Array.getElem?_setIfInBounds_self_of_lt (by omega)], by rw [hs₁.1]; exact hnz, by rw [hs₁.1]; exact hsT, hTe, hT₃, hdt, by rfl, rfl⟩⟩, hn, hs⟩
  · refine ⟨?_, fun b o hb hz hq => ?_, fun b o hb hq => ?_⟩
    · rw [Heap.size_after_update, Heap.size_push, hs₁.1]; exact Nat.le_succ _
    · have hbe : b ≠ e := by
        rintro rfl
        rw [he] at hb; cases hb
        rcases hz with z | z | z
        · exact absurd hn (Nat.not_le.mpr z)
        · exact z hs
        · exact z vs hd
      rw [Heap.get?_update_other _ _ (Ne.symm hbe)]
      exact Heap.get?_push_of_some _ ((hs₁.2.1 b hq).trans hb)
    · obtain ⟨sl, h3⟩ := hs₁.2.2 b o hb
      have hbe : b ≠ e := fun q => hene (q ▸ hq)
      exact ⟨sl, by rw [Heap.get?_update_other _ _ (Ne.symm hbe)]; exact Heap.get?_push_of_some _ h3⟩
/-- the traceback's head is written -/
theorem Fly.head {T : Addr} {oe oT : Obj} {vs ts : Array Value} {Cl : Addr} {h : Heap} {S : List Addr} (v : Value) (he : h.get? e = some oe) (hmg : C.mg (Str.ofString c) = some (.ref Cl)) (hcls : oe.cls = .ref Cl) (hd : oe.data = .fields vs) (h2 : vs[2]? = some .none) (h2s : 2 < vs.size)
    (h1 : vs[1]? = some (.ref T)) (hT : n ≤ T) (hσ : σ T = none) (hTe : T ≠ e) (hoT : h.get? T = some oT) (hdT : oT.data = .fields ts) (h3 : 3 < ts.size) (hn : n ≤ e) (hs : σ e = none) (hTS : T ∉ S) :
    Fly C c n σ (h.update T (Obj.mapFields (·.setIfInBounds 3 v))) e (fun x => x = some v) ∧ Moved n σ S h (h.update T (Obj.mapFields (·.setIfInBounds 3 v))) := by
  have other : ∀ b, b ≠ T → (h.update T (Obj.mapFields (·.setIfInBounds 3 v))).get? b = h.get? b := fun b hb => Heap.get?_update_other _ _ (Ne.symm hb)
  have hd₃ := Obj.data_mapFields hdT (·.setIfInBounds 3 v)
  have self := Heap.get?_update_self (Obj.mapFields (·.setIfInBounds 3 v)) hoT (Obj.isFreed_of_fields hd₃)
  refine ⟨⟨⟨oe, vs, Cl, (other e (Ne.symm hTe)).trans he, hmg, hcls, hd, h2, h2s, .inr ⟨T, _, _, v, h1, hT, hσ, hTe, self, hd₃, by rw [Array.getElem?_setIfInBounds_self_of_lt h3], rfl⟩⟩, hn, hs⟩, ?_⟩
  refine ⟨by rw [Heap.size_after_update]; exact Nat.le_refl _, fun b o hb hz hq => ?_, fun b o hb hq => ⟨o.slots, (other b (fun q => hTS (q ▸ hq))).trans hb⟩⟩
  refine (other b ?_).trans hb
  rintro rfl
  rw [hoT] at hb; cases hb
  rcases hz with z | z | z
  · exact absurd hT (Nat.not_le.mpr z)
  · exact z hσ
  · exact z ts hdT
theorem noteX {outer : List Env} {Q : Unit → Shared → Prop} (hfr : A.frames = some (env :: outer)) (hl : s.heap.FunFrames C.hB (env :: outer)) (hf : env.frame = some env.locals) (hnz : n ≤ s.heap.objs.size) (hsT : σ s.heap.objs.size = none)
    (X : Fly C c n σ s.heap e (fun x => x = none ∨ x = some .none ∨ x = some (rawInt env.locals)))
    (h : ∀ h', Fly C c n σ h' e (fun x => x = some (rawInt env.locals)) → Moved n σ (frs env outer) s.heap h' → Q () { s with heap := h' }) : wpAny M A (noteFrame (.ref e) env) Q E s := by
  obtain ⟨⟨oe, vs, Cl, he, hmg, hcls, hd, h2, h2s, hT⟩, hn, hs⟩ := X
  unfold noteFrame
  simp only [hf]
  rcases hT with ⟨_, h1⟩ | ⟨T, oT, ts, fl, h1, hT, hσ, hTe, hoT, hdT, h3, hok⟩
  · refine wpAny_bind (wpAny_field he hd h1 ?_)
    rw [if_neg (by decide)]
    exact newEntryX hfr hl hf he hmg hcls hd h2 hn hnz hs hsT h
  · refine wpAny_bind (wpAny_field he hd h1 ?_)
    rw [if_pos (show (Value.ref T != Value.none) = true from by simp)]
    refine wpAny_bind (wpAny_field hoT hdT h3 ?_)
    have h3s : 3 < ts.size := (Array.getElem?_eq_some_iff.mp h3).1
    have hTS : T ∉ frs env outer := fun hm => by
      obtain ⟨_, o, ho, hnf⟩ := hl.mem hm
      rw [hoT] at ho; cases ho; exact hnf ts hdT
    rcases hok with hok | hok | hok
    · cases hok
    · cases hok
      rw [if_neg (show ¬ ((Value.none == rawInt env.locals) = true) from by simp [rawInt])]
      refine wpAny_bind (wpAny_setField hoT hdT h3s ?_)
      obtain ⟨⟨⟨oe', vs', Cl', he', hmg', hcls', hd', h2', _, _⟩, _, _⟩, Mv⟩ := Fly.head (S := frs env outer) (c := c) .none he hmg hcls hd h2 h2s h1 hT hσ hTe hoT hdT h3s hn hs hTS
      refine newEntryX hfr (hl.of_keeps fun b o hb hnf => ⟨o, ?_, rfl⟩) hf he' hmg' hcls' hd' h2' hn (by rw [Heap.size_after_update]; exact hnz) hs (by rw [Heap.size_after_update]; exact hsT) fun h' F' M' => h h' F' (Mv.trans M')
      rw [Heap.get?_update_other _ _ (fun q => by rw [← q, hoT] at hb; cases hb; exact hnf ts hdT)]
      exact hb
    · cases hok
      rw [if_pos (show (rawInt env.locals == rawInt env.locals) = true from by simp)]
      exact wpAny_pure (h s.heap ⟨⟨oe, vs, Cl, he, hmg, hcls, hd, h2, h2s, .inr ⟨T, oT, ts, _, h1, hT, hσ, hTe, hoT, hdT, h3, rfl⟩⟩, hn, hs⟩ .refl)
theorem flightX {fr : Option Addr} {S : List Addr} {Q : Unit → Shared → Prop} (X : Fly C c n σ s.heap e (fun x => x ≠ none)) (hS : ∀ b o, s.heap.get? b = some o → b ∈ S → ∀ vs, o.data ≠ .fields vs)
    (h : ∀ h', Fly C c n σ h' e (fun x => x = some (fr.elim .none fun f => rawInt f)) → Moved n σ S s.heap h' → Q () { s with heap := h' }) : wpAny M A (setFlight (.ref e) fr) Q E s := by
  obtain ⟨⟨oe, vs, Cl, he, hmg, hcls, hd, h2, h2s, hT⟩, hn, hs⟩ := X
  rcases hT with ⟨h0, _⟩ | ⟨T, oT, ts, fl, h1, hT, hσ, hTe, hoT, hdT, h3, _⟩
  · exact absurd rfl h0
  have h3s : 3 < ts.size := (Array.getElem?_eq_some_iff.mp h3).1
  unfold setFlight
  refine wpAny_bind (wpAny_field he hd h1 ?_)
  rw [if_pos (show (Value.ref T != Value.none) = true from by simp)]
  obtain ⟨F', M'⟩ := Fly.head (S := S) (c := c) (fr.elim .none fun f => rawInt f) he hmg hcls hd h2 h2s h1 hT hσ hTe hoT hdT h3s hn hs fun hm => hS T oT hoT hm ts hdT
  exact wpAny_setField hoT hdT h3s (h _ F' M')
theorem Fly.mono {ok' : Option Value → Prop} {h : Heap} (X : Fly C c n σ h e ok) (k : ∀ x, ok x → ok' x) : Fly C c n σ h e ok' := by
  obtain ⟨⟨oe, vs, Cl, he, hmg, hcls, hd, h2, h2s, hT⟩, hn, hs⟩ := X
  refine ⟨⟨oe, vs, Cl, he, hmg, hcls, hd, h2, h2s, ?_⟩, hn, hs⟩
  rcases hT with ⟨h0, h1⟩ | ⟨T, oT, ts, fl, h1, hT, hσ, hTe, hoT, hdT, h3, hk⟩
  · exact .inl ⟨k _ h0, h1⟩
  · exact .inr ⟨T, oT, ts, fl, h1, hT, hσ, hTe, hoT, hdT, h3, k _ hk⟩
theorem Fly.less {n' : Nat} {h : Heap} (X : Fly C c n σ h e ok) (k : n' ≤ n) : Fly C c n' σ h e ok := by
  obtain ⟨⟨oe, vs, Cl, he, hmg, hcls, hd, h2, h2s, hT⟩, hn, hs⟩ := X
  refine ⟨⟨oe, vs, Cl, he, hmg, hcls, hd, h2, h2s, ?_⟩, Nat.le_trans k hn, hs⟩
  rcases hT with ⟨h0, h1⟩ | ⟨T, oT, ts, fl, h1, hT, hσ, hTe, hoT, hdT, h3, hk⟩
  · exact .inl ⟨h0, h1⟩
  · exact .inr ⟨T, oT, ts, fl, h1, Nat.le_trans k hT, hσ, hTe, hoT, hdT, h3, hk⟩
end
end Mine


end
noncomputable section
set_option autoImplicit false
set_option linter.unusedVariables false
namespace Mine
open PySem
section
variable {C : Cx} {env : Env} {m : Loc} {σ σ' : View} {n : Nat} {S : List Addr}
/-- the addresses of frames -/
noncomputable def DS (h : Heap) (S : List Addr) : Prop := ∀ b ∈ S, ∀ o, h.get? b = some o → ∃ es ep, o.data = .dict es ep
theorem Moved.tups {h h' : Heap} (M : Moved n σ S h h') (d : DS h S) : TupKeep h h' := fun b o e ht => by
  obtain ⟨_, it, k, hd⟩ := ht
  refine M.keep b o e (.inr (.inr fun vs q => by rw [hd] at q; cases q)) fun hb => ?_
  obtain ⟨es, ep, q⟩ := d b hb o e
  rw [hd] at q; cases q
theorem RelG.moved {s : Shared} {h' : Heap} (R : RelG C σ s) (M : Moved n σ S s.heap h') (d : DS s.heap S) (hS : ∀ b ∈ S, C.hB.get? b = none ∧ σ b = none) (hn : ∀ b o, C.hB.get? b = some o → b < n) : RelG C σ { s with heap := h' } := by
  refine ⟨let ⟨_, tk, dr, e⟩ := R.rest; ⟨h', tk, dr, by rw [e]⟩, fun b o e => ?_, fun a o e => ?_, R.apart⟩
  · exact M.keep b o (R.base b o e) (.inl (hn b o e)) fun hb => by rw [(hS b hb).1] at e; cases e
  · refine (R.view a o e).keep (M.tups d) fun o' e' => M.keep a o' e' (.inr (.inl (by rw [e]; simp))) fun hb => by rw [(hS a hb).2] at e; cases e
theorem Moved.like {h h' : Heap} {b : Addr} {o : Obj} (M : Moved n σ S h h') (d : DS h S) (e : h.get? b = some o) (z : b < n ∨ σ b ≠ none ∨ ∀ vs, o.data ≠ .fields vs) : ∃ o', h'.get? b = some o' ∧ Like o o' := by
  by_cases hb : b ∈ S
  · obtain ⟨sl, h1⟩ := M.slots b o e hb
    exact ⟨_, h1, .inr ⟨d b hb o e, sl, rfl⟩⟩
  · exact ⟨o, M.keep b o e z hb, .refl o⟩
theorem FrameRel.moved {h h' : Heap} (F : FrameRel C env m σ h) (M : Moved n σ S h h') (d : DS h S) : FrameRel C env m σ h' := by
  have kt := M.tups d
  have kc : ∀ c v, h.IsCell c v → h'.IsCell c v := fun c v ⟨o, ho, hd⟩ => ⟨o, M.keep c o ho (.inr (.inr fun vs q => by rw [hd] at q; cases q)) (fun hb => by
    obtain ⟨es, ep, q⟩ := d c hb o ho
    rw [hd] at q; cases q), hd⟩
  obtain ⟨mm, hn, hv⟩ := F.ns
  refine ⟨⟨mm, Like.ns hn fun o e => M.like d e (.inr (.inr fun vs q => ?_)), fun x v e k => ?_⟩, fun x v e => ?_, fun n c e => ?_, F.sepL, F.baseL, F.baseC, F.dist, F.has⟩
  · obtain ⟨oL, es, ep, ho, hd, _⟩ := hn
    rw [ho] at e; cases e; rw [hd] at q; cases q
  · obtain ⟨w, h1, h2⟩ := hv x v e k; exact ⟨w, h1, h2.keep kt⟩
  · rcases F.cel x v e with q | ⟨q, c, w, h1, h2, h3⟩
    · exact .inl q
    · exact .inr ⟨q, c, w, h1, kc _ _ h2, h3.keep kt⟩
  · obtain ⟨v, hv⟩ := F.cells n c e; exact ⟨v, kc _ _ hv⟩
theorem Step.moved {own : Addr → Prop} {σ₀ : View} {h₀ h h' : Heap} (x : Step own σ₀ σ h₀ h) (M : Moved n σ S h h') (d : DS h S) (hn : h₀.objs.size ≤ n) : Step own σ₀ σ h₀ h' where
  keepL := fun b o e z q => by
    obtain ⟨o', h1, h2⟩ := x.keepL b o e z q
    obtain ⟨o'', h3, h4⟩ := M.like d h1 (.inl (Nat.lt_of_lt_of_le (Heap.lt_size e) hn))
    exact ⟨o'', h3, h2.trans h4⟩
  size := Nat.le_trans x.size M.size
  new := x.new
theorem Like.dict {o o' : Obj} (x : Like o o') {es : Array DictEntry} {ep : Nat} (h : o.data = .dict es ep) : o'.data = .dict es ep := by
  rcases x with rfl | ⟨_, sl, rfl⟩ <;> exact h
theorem FrsOk.step {own : Addr → Prop} {h h' : Heap} {fs : List Env} (x : FrsOk C σ h fs) (S : Step own σ σ' h h') (ho : ∀ y ∈ fs, ∀ L, y.frame = some L → ¬ own L) : FrsOk C σ' h' fs := fun y hy => by
  obtain ⟨h1, L, h2, h3, h4, o, es, ep, h5, h6⟩ := x y hy
  obtain ⟨o', h7, h8⟩ := S.keepL L o h5 h4 (ho y hy L h2)
  refine ⟨h1, L, h2, h3, ?_, o', es, ep, h7, h8.dict h6⟩
  cases z : σ' L with
  | none => rfl
  | some q => exact absurd (Heap.lt_size h5) (Nat.not_lt.mpr (S.new L h4 (by rw [z]; simp)))
theorem FOk.step {A : Around} {h h' : Heap} (x : FOk C A env σ h) (S : Step (Own env) σ σ' h h') : FOk C A env σ' h' := by
  obtain ⟨⟨outer, h1, h2, h3⟩, h4⟩ := x
  exact ⟨⟨outer, h1, h2.step S h3, h3⟩, h4⟩
/-- the frames as a list of addresses -/
theorem frs_ok {s : Shared} {outer : List Env} (F : FrameRel C env m σ s.heap) (hf : env.frame = some env.locals) (ho : FrsOk C σ s.heap outer) : DS s.heap (frs env outer) ∧ ∀ b ∈ frs env outer, C.hB.get? b = none ∧ σ b = none := by
  have key : ∀ b ∈ frs env outer, (C.hB.get? b = none ∧ σ b = none) ∧ ∃ o es ep, s.heap.get? b = some o ∧ o.data = .dict es ep := by
    intro b hb
    unfold frs at hb
    rw [List.filterMap_cons, hf] at hb
    rcases List.mem_cons.mp hb with rfl | hb
    · obtain ⟨mm, ⟨oL, es, ep, hoL, hdL, _⟩, _⟩ := F.ns
      exact ⟨⟨F.baseL, F.sepL⟩, oL, es, ep, hoL, hdL⟩
    · obtain ⟨y, hy, hyb⟩ := List.mem_filterMap.mp hb
      obtain ⟨_, L, h2, h3, h4, h5⟩ := ho y hy
      rw [h2] at hyb; cases hyb
      exact ⟨⟨h3, h4⟩, h5⟩
  refine ⟨fun b hb o e => ?_, fun b hb => (key b hb).1⟩
  obtain ⟨_, o', es, ep, h1, h2⟩ := key b hb
  rw [e] at h1; cases h1; exact ⟨es, ep, h2⟩
end
abbrev XT := String → Loc → View → Prop
abbrev STX := Loc → View → (Fl → Loc → View → Prop) → XT → Prop
noncomputable def okIn (env : Env) : Option Value → Prop := fun x => x = none ∨ x = some .none ∨ x = some (rawInt env.locals)
abbrev AftX (C : Cx) (env : Env) (σ : View) (s : Shared) (X : XT) (E : Value → Shared → Prop) : Prop :=
  ∀ c e m' σ' s', Fly C c s.heap.objs.size σ' s'.heap e (okIn env) → RelG C σ' s' → FrameRel C env m' σ' s'.heap → Step (Own env) σ σ' s.heap s'.heap → X c m' σ' → E (.ref e) s'
structure HSX (C : Cx) (sc : Scope) (k : Nat) (b : List Stmt) (T : STX) : Prop where
  run : ∀ (env : Env) (A : Around) (s : Shared) (m : Loc) (σ : View) (Q : Fl → Loc → View → Prop) (X : XT) (P : Flow → Shared → Prop) (E : Value → Shared → Prop),
    EnvOk env sc → AOk C A k → RelG C σ s → FrameRel C env m σ s.heap → FOk C A env σ s.heap → T m σ Q X → AftS C env σ s Q P → AftX C env σ s X E → wpAny (model C.prog C.w) A (execs b env) P E s
structure HSX1 (C : Cx) (sc : Scope) (k : Nat) (b : Stmt) (T : STX) : Prop where
  run : ∀ (env : Env) (A : Around) (s : Shared) (m : Loc) (σ : View) (Q : Fl → Loc → View → Prop) (X : XT) (P : Flow → Shared → Prop) (E : Value → Shared → Prop),
    EnvOk env sc → AOk C A k → RelG C σ s → FrameRel C env m σ s.heap → FOk C A env σ s.heap → T m σ Q X → AftS C env σ s Q P → AftX C env σ s X E → wpAny (model C.prog C.w) A (exec b env) P E s
section
variable {C : Cx} {sc : Scope} {k : Nat}
noncomputable def xP (T : ST) : STX := fun m σ Q _ => T m σ Q
theorem HSX1.plain {st : Stmt} {T : ST} (h : HS1 C sc k st T) : HSX1 C sc k st (xP T) := ⟨fun env A s m σ Q X P E en ao R F _ q hP _ => h.run env A s m σ Q P E en ao R F q hP⟩
theorem HSX.plain {b : List Stmt} {T : ST} (h : HS C sc k b T) : HSX C sc k b (xP T) := ⟨fun env A s m σ Q X P E en ao R F _ q hP _ => h.run env A s m σ Q P E en ao R F q hP⟩
noncomputable def xSeq (T U : STX) : STX := fun m σ Q X => T m σ (fun f m₁ σ₁ => match f with
  | .next => U m₁ σ₁ Q X
  | f => Q f m₁ σ₁) X
theorem AftX.later {env : Env} {σ σ₁ : View} {s s₁ : Shared} {X : XT} {E : Value → Shared → Prop} (h : AftX C env σ s X E) (S : Step (Own env) σ σ₁ s.heap s₁.heap) : AftX C env σ₁ s₁ X E := fun c e m' σ' s' fl R F S' x => h c e m' σ' s' (fl.less S.size) R F (S.trans S') x
theorem HSX.cons {st : Stmt} {b : List Stmt} {T U : STX} (h1 : HSX1 C sc k st T) (h2 : HSX C sc k b U) : HSX C sc k (st :: b) (xSeq T U) := by
  refine ⟨?_⟩; intro env A s m σ Q X P E en ao R F W q hP hX
  refine wpAny_execs_cons (h1.run env A s m σ _ X _ E en ao R F W q (fun f g m₁ σ₁ s₁ hf R₁ F₁ S₁ q₁ => ?_) hX)
  cases hf with
  | next => exact h2.run env A s₁ m₁ σ₁ Q X P E en ao R₁ F₁ (W.step S₁) q₁ (fun f g m₂ σ₂ s₂ hf R₂ F₂ S₂ q₂ => hP f g m₂ σ₂ s₂ hf R₂ F₂ (S₁.trans S₂) q₂) (AftX.later hX S₁)
  | brk => exact hP _ _ m₁ σ₁ s₁ .brk R₁ F₁ S₁ q₁
  | cont => exact hP _ _ m₁ σ₁ s₁ .cont R₁ F₁ S₁ q₁
  | ret hv => exact hP _ _ m₁ σ₁ s₁ (.ret hv) R₁ F₁ S₁ q₁
noncomputable def xIf (B : BT) (T U : STX) : STX := fun m σ Q X => B m σ fun b σ' => if b then T m σ' Q X else U m σ' Q X
theorem HSX1.ite {pos : Pos} {test : Expr} {a b : List Stmt} {B : BT} {T U : STX} (hb : HB C sc k test B) (h1 : HSX C sc k a T) (h2 : HSX C sc k b U) : HSX1 C sc k (.If test a b pos) (xIf B T U) := by
  refine ⟨?_⟩; intro env A s m σ Q X P E en ao R F W q hP hX
  refine wpAny_If (hb.run env A s m σ _ _ E en ao R F q fun b σ₁ s₁ R₁ S₁ q₁ => ?_)
  have S := S₁.own (env := env)
  have hP' : AftS C env σ₁ s₁ Q P := fun f g m₂ σ₂ s₂ hf R₂ F₂ S₂ q₂ => hP f g m₂ σ₂ s₂ hf R₂ F₂ (S.trans S₂) q₂
  cases b with
  | true => exact h1.run env A s₁ m σ₁ Q X P E en ao R₁ (F.step R S₁) (W.step S) q₁ hP' (AftX.later hX S)
  | false => exact h2.run env A s₁ m σ₁ Q X P E en ao R₁ (F.step R S₁) (W.step S) q₁ hP' (AftX.later hX S)
end
end Mine


end
noncomputable section
set_option autoImplicit false
set_option linter.unusedVariables false
namespace Mine
open PySem
/-- an exception under way in a frame, since the heap h₀ -/
structure Way (C : Cx) (A : Around) (env : Env) (c : String) (e : Addr) (σ₀ : View) (h₀ : Heap) (m : Loc) (σ : View) (s : Shared) (ok : Option Value → Prop) : Prop where
  fly : Fly C c h₀.objs.size σ s.heap e ok
  rel : RelG C σ s
  frame : FrameRel C env m σ s.heap
  step : Step (Own env) σ₀ σ h₀ s.heap
  fok : FOk C A env σ s.heap
section
variable {C : Cx} {sc : Scope} {k : Nat} {A A' : Around} {env : Env} {c : String} {e : Addr} {σ₀ σ : View} {h₀ : Heap} {m : Loc} {s : Shared} {ok : Option Value → Prop} {M : Model} {E : Value → Shared → Prop}
theorem Way.move {outer : List Env} {h' : Heap} {ok' : Option Value → Prop} (W : Way C A env c e σ₀ h₀ m σ s ok) (hb : ∀ b o, C.hB.get? b = some o → b < h₀.objs.size) (ho : A.frames = some (env :: outer)) (fl : Fly C c h₀.objs.size σ h' e ok') (Mv : Moved h₀.objs.size σ (frs env outer) s.heap h') : Way C A env c e σ₀ h₀ m σ { s with heap := h' } ok' := by
  obtain ⟨outer', h1, h2, h3⟩ := W.fok.frames
  rw [ho] at h1; cases h1
  obtain ⟨d, hS⟩ := frs_ok W.frame W.fok.frame h2
  refine ⟨fl, W.rel.moved Mv d hS hb, W.frame.moved Mv d, W.step.moved Mv d (Nat.le_refl _), ⟨⟨outer, ho, fun y hy => ?_, h3⟩, W.fok.frame⟩⟩
  obtain ⟨k1, L, k2, k3, k4, o, es, ep, k5, k6⟩ := h2 y hy
  obtain ⟨o', k7, k8⟩ := Mv.like d k5 (.inr (.inr fun vs q => by rw [k6] at q; cases q))
  exact ⟨k1, L, k2, k3, k4, o', es, ep, k7, k8.dict k6⟩
theorem Way.note {Q : Unit → Shared → Prop} (W : Way C A env c e σ₀ h₀ m σ s (okIn env)) (hk : env.scope.kind = .function) (hb : ∀ b o, C.hB.get? b = some o → b < h₀.objs.size) (hA : A'.frames = A.frames)
    (h : ∀ s', Way C A env c e σ₀ h₀ m σ s' (fun x => x = some (rawInt env.locals)) → Q () s') : wpAny M A' (noteFrame (.ref e) env) Q E s := by
  obtain ⟨outer, h1, h2, h3⟩ := W.fok.frames
  exact noteX (hA.trans h1) (fun_frames W.fok.frame hk W.frame h2) W.fok.frame W.step.size (W.rel.freshNone (size_none s.heap)) W.fly fun h' fl Mv => h _ (W.move hb h1 fl Mv)
theorem Way.flight {fr : Option Addr} {Q : Unit → Shared → Prop} (W : Way C A env c e σ₀ h₀ m σ s (fun x => x ≠ none)) (hk : env.scope.kind = .function) (hb : ∀ b o, C.hB.get? b = some o → b < h₀.objs.size)
    (h : ∀ s', Way C A env c e σ₀ h₀ m σ s' (fun x => x = some (fr.elim .none fun f => rawInt f)) → Q () s') : wpAny M A' (setFlight (.ref e) fr) Q E s := by
  obtain ⟨outer, h1, h2, h3⟩ := W.fok.frames
  refine flightX (S := frs env outer) W.fly (fun b o ho hm vs q => ?_) fun h' fl Mv => h _ (W.move hb h1 fl Mv)
  obtain ⟨es, ep, z⟩ := (frs_ok W.frame W.fok.frame h2).1 b hm o ho
  rw [q] at z; cases z
theorem Way.mono {ok' : Option Value → Prop} (W : Way C A env c e σ₀ h₀ m σ s ok) (k : ∀ x, ok x → ok' x) : Way C A env c e σ₀ h₀ m σ s ok' := ⟨W.fly.mono k, W.rel, W.frame, W.step, W.fok⟩
/-- out of a loop -/
theorem Way.back (W : Way C A env c e σ₀ h₀ m σ s (fun x => x = some (rawInt env.locals))) (hk : env.scope.kind = .function) (hb : ∀ b o, C.hB.get? b = some o → b < h₀.objs.size)
    (h : ∀ s', Way C A env c e σ₀ h₀ m σ s' (okIn env) → E (.ref e) s') : cameBackBy M A env E (.ref e) s := by
  unfold cameBackBy
  obtain ⟨oe, vs, Cl, he, hmg, hcls, hd, h2, h2s, hT⟩ := W.fly.obj
  rcases hT with ⟨h0, _⟩ | ⟨T, oT, ts, fl, h1, _⟩
  · cases h0
  refine wpAny_bind (wpAny_field he hd h1 ?_)
  rw [if_neg (show ¬ ((Value.ref T == Value.none) = true) from by simp)]
  exact (W.mono fun x hx => by rw [hx]; simp).flight hk hb fun s' W' => h s' (W'.mono fun x hx => by rw [hx, W.fok.frame]; exact .inr (.inr rfl))
noncomputable def xforL (g : Tgt) (inv : View → Prop) (T : STX) : List V → STX
  | [] => fun m σ Q X => inv σ ∧ Q .next m σ
  | v :: r => fun m σ Q X => inv σ ∧ ∃ m', bindT g v m = some m' ∧ T m' σ (fun f m₁ σ₁ => match f with
    | .next => xforL g inv T r m₁ σ₁ Q X
    | .cont => xforL g inv T r m₁ σ₁ Q X
    | .brk => Q .next m₁ σ₁
    | .ret u => Q (.ret u) m₁ σ₁) X
noncomputable def xFor (g : Tgt) (I : IT) (T : STX) : STX := fun m σ Q X => I m σ fun items inv σ' => xforL g inv T items m σ' Q X
theorem HSX1.for {target iter : Expr} {body : List Stmt} {pos : Pos} {g : Tgt} {I : IT} {T : STX} {loc : Bool} (ht : HT C sc k loc target g) (hi : HI C sc k iter I) (hb : HSX C sc k body T)
    (hf : ∀ env x, foldedSetIterable iter env x = pure x) : HSX1 C sc k (.For target iter body [] pos) (xFor g I T) := by
  refine ⟨?_⟩; intro env A s m σ Q X P E en ao R F W q hP hX
  have hbase : ∀ b o, C.hB.get? b = some o → b < s.heap.objs.size := fun b o e => Heap.lt_size (R.base b o e)
  rw [exec_For]
  refine wpAny_bind (wpAny_standAt ?_)
  have start : wpAny (model C.prog C.w) A (eval iter env) (fun x s₁ => wpAny (model C.prog C.w) A (pyIter x) (fun it s₂ => codeAny (model C.prog C.w) A (.forLoop target it body [] env) (fun r s' => match r with | .ok f => P f s' | .error e => cameBackBy (model C.prog C.w) A env E e s') s₂) E s₁) E s := by
    refine hi.run env A s m σ _ _ E en ao R F q fun items inv I St σ₀ s₀ hit st₀ hI hσ₀ R₀ S₀ q₀ => ?_
    have F₀ := F.step R S₀
    obtain ⟨mm, hn, _⟩ := F.ns
    have hIL : I ≠ env.locals := fun e => absurd hn.lt (Nat.not_lt.mpr (e ▸ hI))
    have hIb : C.hB.get? I = Option.none := R.baseNone (get_none_of_size hI)
    have back : ∀ {σ' : View} {h' : Heap}, Step (fun b => Own env b ∨ b = I) σ σ' s.heap h' → Step (Own env) σ σ' s.heap h' := fun S =>
      S.mono fun b o e z => z.elim id fun z => absurd (Heap.lt_size e) (Nat.not_lt.mpr (z ▸ hI))
    refine codeAny_forLoop_any
      (ForInv C env σ s.heap I items St fun rest m' σ' => xforL g inv T rest m' σ' Q X) ?_ _
      ⟨0, m, σ₀, items, by simp, by simp, rfl, st₀, hσ₀, R₀, F₀, S₀.mono fun _ _ _ z => z.elim, q₀⟩
    rintro n s' ⟨i, m', σ', rest, e1, e2, rfl, st, hσ', R', F', S', q'⟩
    have drew : ∀ {h' : Heap}, Heap.ExtBut I s'.heap h' → s'.heap.objs.size ≤ h'.objs.size → Step (fun b => Own env b ∨ b = I) σ' σ' s'.heap h' := fun hx hsz =>
      .of (fun b o e _ q => hx b o (fun z => q (.inr z)) e) hsz fun _ a b => absurd a b
    cases rest with
    | nil =>
      have hil : i = items.length := by
        have := congrArg List.length e1
        simp at this; omega
      subst hil
      refine with_size (hit.done A σ' s' _ _ ao R' q'.1 st fun h' tk hx hsz => ?_)
      exact wpAny_execs_nil (hP .next .next m' σ' _ .next (draw_rel (tk := tk) R' hx hσ' hIb (hit.live _ _ st)) (draw_frame F' hx (hit.live _ _ st) hIL) (back (S'.trans (drew hx hsz))) q'.2)
    | cons v r =>
      obtain ⟨hinv, m₁, hm₁, q'⟩ := q'
      have hiv : items[i]? = some v := by
        have : (items.drop i)[0]? = some v := by rw [e1]; rfl
        simpa using this
      have hilt : i < items.length := by
        have := congrArg List.length e1
        simp at this; omega
      refine with_size (hit.next A σ' s' i v _ _ ao R' hinv st hiv fun w h₁ tk₁ hv st₁ hx hsz => ?_)
      have R₁ := draw_rel (tk := tk₁) R' hx hσ' hIb (hit.live _ _ st)
      have F₁ := draw_frame F' hx (hit.live _ _ st) hIL
      have S₁ := S'.trans (drew hx hsz)
      refine hit.own A _ (i + 1) target w _ _ st₁ ?_
      refine ht.run env A _ m' m₁ σ' v w _ _ en ao R₁ F₁ hv hm₁ fun s₂ R₂ F₂ S₂L => ?_
      have S₂ : Step (Own env) σ' σ' h₁ s₂.heap := S₂L.mono fun _ _ _ z => z.imp id fun z => z.2
      have S₂' : Step (fun b => Own env b ∨ b = I) σ' σ' h₁ s₂.heap := S₂.mono fun _ _ _ z => .inl z
      have st₂ : St (i + 1) s₂.heap := hit.frame _ _ _ st₁ (fun o e => S₂.keep I o e hσ' (fun z => by
        rcases z with z | ⟨n, z⟩
        · exact hIL z
        · obtain ⟨u, ou, hou, hdu⟩ := F₁.cells n I z
          obtain ⟨o', ho', _, hc'⟩ := hit.live _ _ st₁
          have : ou = o' := Option.some.inj (hou.symm.trans ho')
          exact hc' u (this ▸ hdu)) (hit.flds _ _ st₁ o e)) (S₂.tupsO F₁ R₁)
      have S02 := back (S₁.trans S₂')
      refine hb.run env A s₂ m₁ σ' _ X _ _ en ao R₂ F₂ (W.step S02) q' (fun f fl m₃ σ₃ s₃ hf R₃ F₃ S₃ q₃ => ?_) (fun c e m₃ σ₃ s₃ fl R₃ F₃ S₃ x => by
        have WW : Way C A env c e σ s.heap m₃ σ₃ s₃ (okIn env) := ⟨fl.less S02.size, R₃, F₃, S02.trans S₃, (W.step S02).step S₃⟩
        exact WW.note en.k hbase rfl fun s₄ W₄ => W₄.back en.k hbase fun s₅ W₅ => hX c e m₃ σ₃ s₅ W₅.fly W₅.rel W₅.frame W₅.step x)
      have S₃' : Step (fun b => Own env b ∨ b = I) σ' σ₃ s₂.heap s₃.heap := S₃.mono fun _ _ _ z => .inl z
      have SS := (S₁.trans S₂').trans S₃'
      have go : xforL g inv T r m₃ σ₃ Q X → ∃ k', k' < (v :: r).length + 1 ∧ ForInv C env σ s.heap I items St (fun rest m' σ' => xforL g inv T rest m' σ' Q X) k' s₃ := fun q₃ => by
        refine ⟨r.length + 1, Nat.lt_succ_self _, i + 1, m₃, σ₃, r, ?_, hilt, rfl, ?_, ?_, R₃, F₃, SS, q₃⟩
        · rw [← List.tail_drop, e1]; rfl
        · refine hit.frame _ _ _ st₂ (fun o e => S₃.keep I o e hσ' (fun z => ?_) (hit.flds _ _ st₂ o e)) (S₃.tupsO F₂ R₂)
          rcases z with z | ⟨n, z⟩
          · exact hIL z
          · obtain ⟨u, ou, hou, hdu⟩ := F₂.cells n I z
            obtain ⟨o', ho', _, hc'⟩ := hit.live _ _ st₂
            have : ou = o' := Option.some.inj (hou.symm.trans ho')
            exact hc' u (this ▸ hdu)
        · cases z : σ₃ I with
          | none => rfl
          | some o =>
            obtain ⟨o', ho', _⟩ := hit.live _ _ st₂
            exact absurd (Heap.lt_size ho') (Nat.not_lt.mpr (S₃.new I hσ' (by rw [z]; simp)))
      cases hf with
      | next => exact go q₃
      | cont => exact go q₃
      | brk => exact hP .next .next m₃ σ₃ s₃ .next R₃ F₃ (back SS) q₃
      | ret hv => exact hP _ _ m₃ σ₃ s₃ (.ret hv) R₃ F₃ (back SS) q₃
  refine wpAny_bind (wpAny_mono start (fun x s₁ h₁ => wpAny_bind (wpAny_of_eq (hf env x) (wpAny_bind (wpAny_standAt (wpAny_bind (wpAny_holding (wpAny_mono h₁ (fun it s₂ h₂ => wpAny_runOwn h₂) fun _ _ h' => h'))))))) fun _ _ h' => h')
end
end Mine


end
noncomputable section
set_option autoImplicit false
set_option linter.unusedVariables false
namespace Mine
open PySem PySem.W PyProof.Rows PySem.Calls
abbrev SpecX := List V → View → (V → View → Prop) → (String → View → Prop) → Prop
abbrev AftXc (C : Cx) (σ : View) (s : Shared) (X : String → View → Prop) (E : Value → Shared → Prop) : Prop :=
  ∀ c e σ' s', Fly C c s.heap.objs.size σ' s'.heap e (fun x => x = some .none) → RelG C σ' s' → Step no σ σ' s.heap s'.heap → X c σ' → E (.ref e) s'
/-- the function at f answers or raises by its contract -/
noncomputable def FnSoundX (C : Cx) (j : Nat) (f : Addr) (spec : SpecX) : Prop :=
  ∀ (A : Around) (s : Shared) (σ : View) (vs : List V) (ws : List Value) (Q : V → View → Prop) (X : String → View → Prop) (P : Value → Shared → Prop) (E : Value → Shared → Prop),
    AOk C A (j + 1) → (∃ fs, A.frames = some fs ∧ FrsOk C σ s.heap fs) → RelG C σ s → VRels C.aS s.heap vs ws → spec vs σ Q X → Aft C σ s Q P → AftXc C σ s X E → codeAny (model C.prog C.w) A (.call (.ref f) ⟨ws, []⟩) (fun r s' => match r with | .ok (.ret v) => P v s' | .ok _ => False | .error e => E e s') s
section
variable {C : Cx}
theorem FnSoundX.mk (O : C.Ok) {f : Addr} {o : Obj} {fd : FuncData} {body : List Stmt} {xs : List String} {sc : Scope} {j : Nat} {spec : SpecX} {T : STX}
    (ho : C.hB.get? f = some o) (hd : o.data = .func fd) (hcd : C.hB.CodeRec fd.code fd.qualname) (hb : fd.body = .stmts body) (hsc : fd.scope = sc) (hcl : fd.closure = []) (hg : fd.globals = mainGlobals) (hbi : fd.builtins = builtinsNs)
    (hk : sc.kind = .function) (hfr : ∀ p ∈ sc.names, p.2 ≠ .free) (hco : sc.isCoroutine = false) (hgen : sc.isGenerator = false)
    (hbind : ∀ ws : List Value, ws.length = xs.length → bindArgs fd ⟨ws, []⟩ = pure ((xs.map Str.ofString).zip ws))
    (hloc : ∀ x ∈ xs, sc.names.lookup (Str.ofString x) = some .local ∨ sc.names.lookup (Str.ofString x) = some .cell)
    (hT : HSX C sc j body T)
    (hspec : ∀ vs σ Q X, spec vs σ Q X → vs.length = xs.length ∧ T (bindM xs vs none') σ (fun f _ σ' => match f with | .ret v => Q v σ' | .next => Q .none σ' | _ => False) (fun c _ σ' => X c σ')) : FnSoundX C j f spec := by
  intro A s σ vs ws Q X P E ao ⟨fs, hfs, hfo⟩ R hvs hs hP hX
  subst hsc
  obtain ⟨hlen, q⟩ := hspec vs σ Q X hs
  have hlw : ws.length = xs.length := by rw [← hvs.length]; exact hlen
  refine (codeAny_call_cells (fd := fd) (body := body) (binds := (xs.map Str.ofString).zip ws) (by have := ao.depth; omega) (R.base _ _ ho) hd (O.nolimit.keeps R.base) (hcd.keeps R.base) hb (hbind ws hlw) hcl ?_ ?_ hco hgen hk)
  · intro x hx
    have : x.1 ∈ xs.map Str.ofString := (List.of_mem_zip (a := x.1) (b := x.2) hx).1
    obtain ⟨y, hy, e⟩ := List.mem_map.mp this
    rw [← e]
    refine (hloc y hy).imp id fun z => ⟨z, ?_⟩
    obtain ⟨c, hc⟩ := cellsFrom_has (x := Str.ofString y) fd.scope.names (s.heap.objs.size + 1) [] (.inl z)
    rw [hc]; rfl
  · intro s₁ x
    generalize henv : callEnvC fd s.heap.objs.size f = env at x ⊢
    have eS : env.scope = fd.scope := by rw [← henv]; rfl
    have eL : env.locals = s.heap.objs.size := by rw [← henv]; rfl
    have eC : env.cells = cellsFrom (s.heap.objs.size + 1) fd.scope.names [] := by rw [← henv]; rfl
    have en : EnvOk env fd.scope := ⟨eS, hk, by rw [← henv]; exact hg, by rw [← henv]; exact hbi⟩
    obtain ⟨h₁, tk₁, e₁⟩ := x.toInCall.same
    have keep := x.toInCall.keep
    have R₁ : RelG C σ s₁ := by
      rw [e₁]
      exact R.grow (fun b o e => by have := keep b o e; rw [e₁] at this; exact this)
    have hz : s.heap.objs.size ≤ s₁.heap.objs.size := Nat.le_of_lt (by have := x.toInCall.ns.lt; rw [eL] at this; exact this)
    have kt : TupKeep s.heap s₁.heap := fun b o e _ => keep b o e
    have vars := bound_vars (C := C) (h := s₁.heap) env.kindOf xs vs ws none' (fun _ => Option.none) (fun _ => Option.none)
      (fun y hy => by unfold Env.kindOf; rw [eS]; exact hloc y hy) (hvs.keep kt) (fun _ _ e => by cases e)
    have lookupC : ∀ n, env.kindOf n = some .cell → ∃ c, env.cells.lookup n = some c := fun n hn => by
      rw [eC]; exact cellsFrom_has _ _ _ (.inl (by unfold Env.kindOf at hn; rw [eS] at hn; exact hn))
    have lookupF : ∀ n, env.kindOf n = some .cell ∨ env.kindOf n = some .free → ∃ c, env.cells.lookup n = some c := fun n hn => hn.elim (lookupC n) fun z => by
      unfold Env.kindOf at z; rw [eS] at z; exact absurd rfl (hfr _ (mem_of_lookup z))
    have fresh : ∀ c, s.heap.objs.size ≤ c → C.hB.get? c = Option.none := fun c hc => R.baseNone (get_none_of_size hc)
    have F₁ : FrameRel C env (bindM xs vs none') σ s₁.heap := by
      refine ⟨⟨_, x.toInCall.ns, fun y v e ky => ?_⟩, fun y v e => ?_, fun n c hc => ?_, R.freshNone (get_none_of_size (Nat.le_of_eq eL.symm)), fresh _ (Nat.le_of_eq eL.symm), fun n c hc => ?_, x.apart, lookupF⟩
      · rcases vars y v e with ⟨_, w, h1, h2⟩ | ⟨z, _⟩
        · exact ⟨w, h1, h2⟩
        · rw [z] at ky; cases ky
      · rcases vars y v e with ⟨z, _⟩ | ⟨z, w, h1, h2⟩
        · exact .inl z
        · obtain ⟨c, hc⟩ := lookupC _ z
          exact .inr ⟨.inl z, c, w, hc, h1 ▸ x.cell _ c hc, h2⟩
      · exact ⟨_, x.cell n c hc⟩
      · exact fresh c (Nat.le_of_lt (by have := x.above n c (mem_of_lookup hc); rw [eL] at this; exact this))
    have eF : env.frame = some env.locals := by rw [← henv]; rfl
    have hlt : ∀ y ∈ fs, ∀ L, y.frame = some L → L < s.heap.objs.size := fun y hy L hL => by
      obtain ⟨_, L', h2, _, _, o, _, _, h5, _⟩ := hfo y hy
      rw [hL] at h2; cases h2; exact Heap.lt_size h5
    have W₁ : FOk C (A.deeper env) env σ s₁.heap := by
      refine ⟨⟨fs, Around.frames_deeper hfs, fun y hy => ?_, fun y hy L hL z => ?_⟩, eF⟩
      · obtain ⟨h1, L, h2, h3, h4, o, es, ep, h5, h6⟩ := hfo y hy
        exact ⟨h1, L, h2, h3, h4, o, es, ep, keep _ _ h5, h6⟩
      · have := hlt y hy L hL
        rcases z with z | ⟨n', z⟩
        · rw [z, eL] at this; exact Nat.lt_irrefl _ this
        · have h9 := x.above n' L (mem_of_lookup z); rw [eL] at h9; exact Nat.lt_irrefl _ (Nat.lt_trans this h9)
    have toS : ∀ {σ' : View} {h' : Heap}, Step (Own env) σ σ' s₁.heap h' → Step no σ σ' s.heap h' := fun S' =>
      ⟨fun b o e n _ => S'.keepL b o (keep b o e) n (fun z => by
          have hlt := Heap.lt_size e
          rcases z with z | ⟨n', z⟩
          · rw [z, eL] at hlt; exact Nat.lt_irrefl _ hlt
          · have := x.above n' b (mem_of_lookup z); rw [eL] at this; exact Nat.lt_irrefl _ (Nat.lt_trans hlt this)),
        Nat.le_trans hz S'.size, fun b n m => Nat.le_trans hz (S'.new b n m)⟩
    refine hT.run env _ s₁ _ σ _ _ _ _ en ⟨by show A.handled = _; exact ao.handled, by show A.depth + 1 + 3 * j + 3 < _; have := ao.depth; omega, by show A.units + 3 + 10 * j + 20 < _; have := ao.units; omega⟩ R₁ F₁ W₁ q (fun fl g m' σ' s' hf R' F' S' q' => ?_) (fun c e m' σ' s' fl R' F' S' x' => ?_)
    rotate_left
    · have WW : Way C (A.deeper env) env c e σ s₁.heap m' σ' s' (okIn env) := ⟨fl, R', F', S', W₁.step S'⟩
      have hbase : ∀ b o, C.hB.get? b = some o → b < s₁.heap.objs.size := fun b o e => Heap.lt_size (R₁.base b o e)
      unfold leaving
      refine wpAny_bind (WW.note en.k hbase rfl fun s₂ W₂ => ?_)
      refine (W₂.mono fun x hx => by rw [hx]; simp).flight en.k hbase fun s₃ W₃ => ?_
      exact hX c e σ' s₃ (W₃.fly.less hz) W₃.rel (toS W₃.step) x'
    have S₀ := toS S'
    cases hf with
    | next => exact hP .none .none σ' s' .none R' S₀ q'
    | ret hv => exact hP _ _ σ' s' hv R' S₀ q'
    | brk => exact q'.elim
    | cont => exact q'.elim
end
end Mine


end
noncomputable section
set_option autoImplicit false
namespace Mine
open PySem
noncomputable def Dead (b : Addr) (h : Heap) : Prop := h.get? b = none ∧ b < h.objs.size
theorem Dead.update {b a : Addr} {h : Heap} {f : Obj → Obj} {o : Obj} (x : Dead b h) (ha : h.get? a = some o) : Dead b (h.update a f) :=
  ⟨by rw [Heap.get?_update_other _ _ (by rintro rfl; rw [x.1] at ha; cases ha)]; exact x.1, by rw [Heap.size_after_update]; exact x.2⟩
theorem Dead.push {b : Addr} {h : Heap} {o : Obj} (x : Dead b h) : Dead b (h.push o) := by
  refine ⟨?_, by rw [Heap.size_push]; exact Nat.lt_succ_of_lt x.2⟩
  cases e : (h.push o).get? b with
  | none => rfl
  | some o' =>
    obtain ⟨h1, h2⟩ := Heap.get?_some_iff.mp e
    have h3 : h.objs[b]? = some o' := by
      have : (h.push o).objs[b]? = h.objs[b]? := by
        show (h.objs.push o)[b]? = _
        rw [Array.getElem?_push_lt x.2, Array.getElem?_eq_getElem x.2]
      rw [← this]; exact h1
    have := Heap.get?_some_iff.mpr ⟨h3, h2⟩
    rw [x.1] at this; cases this
theorem runs_dead {b : Addr} {M : Model} {Γ : Ctx} {p : Pos} {t : Sem Fin} {fs : List Frame} {s s' : Shared} {e : End} (h : PySem.Runs M Γ p t fs s e s') : Dead b s.heap → Dead b s'.heap := by
  induction h <;> intro d
  all_goals try simp only [Shared.setGen] at *
  all_goals first | exact d | (rename_i ih; exact ih d) | (rename_i ih; exact ih d.push) | (rename_i h1 _ ih; obtain ⟨o, ho⟩ := Option.isSome_iff_exists.mp h1; exact ih (d.update ho)) | (rename_i ih1 ih2; exact ih2 (ih1 d))
theorem wakes_dead {b : Addr} {M : Model} {Γ : Ctx} {p : Pos} {g : Nat} {r : Resume} {s s' : Shared} {res : GenResult} (h : Wakes M Γ p g r s res s') (d : Dead b s.heap) : Dead b s'.heap := by
  unfold Wakes at h
  split at h
  · exact h.elim
  · split at h
    · obtain ⟨e₁, s₁, hr, _, _, rfl⟩ := h; exact (runs_dead hr d : Dead b s₁.heap)
    · rw [h.2]; exact d
    · rw [h.2]; exact d
  · obtain ⟨e₁, s₁, hr, _, _, rfl⟩ := h; exact (runs_dead hr d : Dead b s₁.heap)
  · rw [h.2]; exact d
  · rw [h.2]; exact d
theorem wp_dead {α : Type} (M : Model) (Γ : Ctx) (D : Addr → Prop) (t : Sem α) : ∀ (Q : α → Pos → Shared → Prop) (E : Value → Pos → Shared → Prop) (p : Pos) (s : Shared), (∀ b, D b → Dead b s.heap) → Sem.wp M Γ t Q E p s →
    Sem.wp M Γ t (fun a p' s' => (∀ b, D b → Dead b s'.heap) ∧ Q a p' s') (fun e p' s' => (∀ b, D b → Dead b s'.heap) ∧ E e p' s') p s := by
  induction t with
  | pure a | raise a => intro Q E p s hn h; exact ⟨hn, h⟩
  | unsupported | finish | register | yield | fork | await => intro Q E p s _ h; exact h
  | rule _ k ih | «at» _ k ih | point _ k ih | ask k ih | handled _ k ih | stack k ih | thread k ih | loadIfAlive _ k ih | fresh k ih | os _ _ k ih | newGen _ k ih => intro Q E p s hn h; exact ih _ Q E _ _ hn h
  | load a _ k ih => intro Q E p s hn h; obtain ⟨o, ho, h⟩ := h; exact ⟨o, ho, ih o Q E p s hn h⟩
  | update a _ f k ih => intro Q E p s hn h; exact ⟨h.1, ih () Q E p _ (fun b hb => by obtain ⟨o, ho⟩ := Option.isSome_iff_exists.mp h.1; exact (hn b hb).update ho) h.2⟩
  | alloc o k ih => intro Q E p s hn h; exact ih _ Q E p _ (fun b hb => (hn b hb).push) h
  | choose src m k ih => intro Q E p s hn h; exact ⟨h.1, ih _ Q E p _ hn h.2⟩
  | call c hd _ _ k ih => intro Q E p s hn h; obtain ⟨r, s', hr, h⟩ := h; exact ⟨r, s', hr, ih r Q E p s' (fun b hb => runs_dead hr (hn b hb)) h⟩
  | genState g k ih => intro Q E p s hn h; obtain ⟨st, hs, h⟩ := h; exact ⟨st, hs, ih _ Q E p s hn h⟩
  | resume g r _ k ih => intro Q E p s hn h; obtain ⟨res, s', hw, h⟩ := h; exact ⟨res, s', hw, ih res Q E p s' (fun b hb => wakes_dead hw (hn b hb)) h⟩
/-- what was dead below the size stays so -/
theorem with_dead {α : Type} {M : Model} {A : Around} {s : Shared} {t : Sem α} {Q : α → Shared → Prop} {E : Value → Shared → Prop}
    (h : wpAny M A t (fun a s' => (∀ b, Dead b s.heap → Dead b s'.heap) → Q a s') (fun e s' => (∀ b, Dead b s.heap → Dead b s'.heap) → E e s') s) : wpAny M A t Q E s :=
  fun Γ p hΓ => Sem.wp_mono M Γ t (fun _ _ _ x => x.2 x.1) (fun _ _ _ x => x.2 x.1) p s (wp_dead M Γ (fun b => Dead b s.heap) t _ _ p s (fun _ h => h) (h Γ p hΓ))
end Mine


end
noncomputable section
set_option autoImplicit false
set_option linter.unusedVariables false
namespace Mine
open PySem PySem.W PyProof.Rows PySem.Calls
/-- the exception class c of the text, a kind of ValueError -/
noncomputable def veBases : List Value := [.type "ValueError", .type "Exception", .type "BaseException", .type "object"]
noncomputable def XCls (C : Cx) (c : String) (Cl : Addr) : Prop := OwnCls (Str.ofString c) Cl veBases "ValueError.__new__" C.mg C.hB
section
variable {C : Cx} {sc : Scope} {k : Nat}
noncomputable def xRaise (c : String) : STX := fun m σ _ X => X c m σ
theorem HSX1.raise (O : C.Ok) (hz : C.held = Option.none) {c : String} {Cl : Addr} (K : XCls C c Cl) {x : Str} {n : Nat} {np ap cpos pos : Pos} (hn : sc.names.lookup (Str.ofString c) = some .globalImplicit) (hdb : (Str.ofString c == ("__debug__" : Str)) = false) :
    HSX1 C sc k (.Raise (some (.Call (.Name (Str.ofString c) np) [.Constant (.str x) n ap] [] cpos)) Option.none pos) (xRaise c) := by
  refine ⟨?_⟩; intro env A s m σ Q X P E en ao R F W q hP hX
  have OK : OwnCls (Str.ofString c) Cl veBases "ValueError.__new__" C.mg s.heap := K.keeps R.base
  obtain ⟨tl, N, nm, qn, bs, hdct, sn, sub, ab, col, dd, k0, k1, k2, k3, k5, mN, hC, hN, hni, T⟩ := OK.obj
  refine with_dead ?_
  refine wpAny_Raise_call_subT (C := Cl) (nm := nm) (q := qn) (N := N) (bs := bs) (bm := tl) (hdct := hdct) (sn := sn) (sub := sub) (ab := ab) (col := col) (dd := dd) (k0 := k0) (k1 := k1) (k2 := k2) (k3 := k3) (k5 := k5)
    PySem.F.excBase_ValueError (mN := mN) (T.hasType PySem.F.excBase_ValueError.hasBase) (ao.none hz) rfl hni
    (Calls.Name_function_global en.k (en.of hn) (Calls.loadGlobal_global (mg := C.mg) (by rw [en.globals]; exact O.g.keeps R.base) K.bound ⟨rfl, ?_⟩) hdb)
  refine evalArgs_of rfl ?_
  show wpAny _ A (spliced ((false, eval (.Constant (.str x) n ap) env) :: backTo cpos (starEach [] env))) _ _ s
  refine Calls.spliced_cons (Calls.Constant_str (Calls.spliced_nil ⟨rfl, by rw [sizeLine_eq]; show 1 ≤ _; decide, hC, hN, T, fun h' e hm hdead => ?_⟩))
  obtain ⟨t, he, _, _⟩ := hm.there
  have hge : s.heap.objs.size ≤ e := by
    rcases Nat.lt_or_ge e s.heap.objs.size with z | z
    · have := (hdead e ⟨hm.new, z⟩).1
      have he' : h'.get? e = _ := he
      rw [he'] at this; cases this
    · exact z
  have hsz : s.heap.objs.size ≤ h'.objs.size := Nat.le_trans hge (Nat.le_of_lt (Heap.lt_size he))
  have hkeep : ∀ b o, s.heap.get? b = some o → h'.get? b = some o := hm.keeps
  refine hX c e m σ _ ⟨⟨_, _, Cl, he, K.bound, rfl, rfl, rfl, by show 2 < 6; decide, .inl ⟨.inl rfl, rfl⟩⟩, hge, R.freshNone hm.new⟩ (R.grow hkeep) (F.grow hkeep) (Step.grow hkeep hsz) q
/-- an expression that may raise -/
abbrev ETX := Loc → View → (V → View → Prop) → (String → View → Prop) → Prop
structure HEX (C : Cx) (sc : Scope) (k : Nat) (e : Expr) (T : ETX) : Prop where
  run : ∀ (env : Env) (A : Around) (s : Shared) (m : Loc) (σ : View) (Q : V → View → Prop) (X : String → View → Prop) (P : Value → Shared → Prop) (E : Value → Shared → Prop),
    EnvOk env sc → AOk C A k → RelG C σ s → FrameRel C env m σ s.heap → FOk C A env σ s.heap → T m σ Q X →
    (∀ v w σ' s', VRel C.aS s'.heap v w → RelG C σ' s' → Step no σ σ' s.heap s'.heap → Q v σ' → P w s') → AftXc C σ s X E →
    wpAny (model C.prog C.w) A (eval e env) P E s
theorem FOk.fs {A : Around} {env : Env} {m : Loc} {σ : View} {s : Shared} (W : FOk C A env σ s.heap) (F : FrameRel C env m σ s.heap) (hk : env.scope.kind = .function) : ∃ fs, A.frames = some fs ∧ FrsOk C σ s.heap fs := by
  obtain ⟨outer, h1, h2, h3⟩ := W.frames
  refine ⟨_, h1, fun y hy => ?_⟩
  rcases List.mem_cons.mp hy with rfl | hy
  · obtain ⟨mm, ⟨oL, es, ep, hoL, hdL, _⟩, _⟩ := F.ns
    exact ⟨by rw [hk]; decide, _, W.frame, F.baseL, F.sepL, oL, es, ep, hoL, hdL⟩
  · exact h2 y hy
noncomputable def FnAtX (C : Cx) (j : Nat) (f : String) (spec : SpecX) : Prop :=
  ∃ a o fd, C.mg (Str.ofString f) = some (.ref a) ∧ C.hB.get? a = some o ∧ o.data = .func fd ∧ FnSoundX C j a spec
noncomputable def xCall (spec : SpecX) (L : LT) : ETX := fun m σ Q X => L m σ fun vs σ' => spec vs σ' Q X
theorem HEX.callAt {p : Program} (G : Gl C p) {f : String} {np pos : Pos} {es : List Expr} {L : LT} {spec : SpecX} {j : Nat} (hf : FnAtX C j f spec) (hj : j < k)
    (hn : sc.names.lookup (Str.ofString f) = some .globalImplicit) (hdb : (Str.ofString f == ("__debug__" : Str)) = false)
    (hl : HL C sc k es L) (hp : plainArgs es = true) : HEX C sc k (.Call (.Name (Str.ofString f) np) es [] pos) (xCall spec L) := by
  obtain ⟨a, o, fd, hg, ho, hd, hf⟩ := hf
  refine ⟨?_⟩; intro env A s m σ Q X P E en ao R F W q hP hX
  refine wpAny_Call_NameR (Calls.Name_function_global en.k (en.of hn) (Calls.loadGlobal_global (mg := C.mg) (by rw [en.globals]; exact G.ok.g.keeps R.base) hg ?_) hdb)
  refine Calls.callWith_function (o := o) (fd := fd) (evalArgs_of hp (hl.run env A s m σ pos _ _ E en ao R F q fun vs ws σ₁ s₁ hv R₁ S₁ q₁ => ⟨⟨R₁.base _ _ ho, hd⟩, ?_⟩))
  have W₁ := W.step (S₁.own (env := env))
  exact wpAny_call (hf A s₁ σ₁ vs ws Q X P E (ao.le hj) (W₁.fs (F.step R S₁) en.k) R₁ hv q₁ (fun v w σ' s' hv' R' S' q' => hP v w σ' s' hv' R' (S₁.trans S') q') fun c e σ' s' fl R' S' x => hX c e σ' s' (fl.less S₁.size) R' (S₁.trans S') x)
noncomputable def xPair (T : ET) (U : ETX) : ETX := fun m σ Q X => T m σ fun v σ₁ => U m σ₁ (fun u σ₂ => Q (.tup [v, u]) σ₂) X
/-- statements with such an expression -/
theorem AftXc.of {env : Env} {m : Loc} {σ : View} {s : Shared} {X : XT} {E : Value → Shared → Prop} (R : RelG C σ s) (F : FrameRel C env m σ s.heap) (hX : AftX C env σ s X E) : AftXc C σ s (fun c σ' => X c m σ') E :=
  fun c e σ' s' fl R' S' x => hX c e m σ' s' (fl.mono fun _ h => .inr (.inl h)) R' (F.step R S') S'.own x
noncomputable def xSet (x : String) (T : ETX) : STX := fun m σ Q X => T m σ (fun v σ' => Q .next (put m x v) σ') fun c σ' => X c m σ'
theorem HSX1.set {x : String} {p pos : Pos} {value : Expr} {T : ETX} (hx : Var sc x) (he : HEX C sc k value T) (hs : ∀ env, EnvOk env sc → swapsWith value (some (.Name (Str.ofString x) p)) pos.line env = pure false) : HSX1 C sc k (.Assign [.Name (Str.ofString x) p] value pos) (xSet x T) := by
  refine ⟨?_⟩; intro env A s m σ Q X P E en ao R F W q hP hX
  refine wpAny_Assign_Name (he.run env A s m σ _ _ _ E en ao R F W q (fun v w σ₁ s₁ hv R₁ S₁ q₁ => ?_) (AftXc.of R F hX)) (hs env en)
  exact store en R₁ (F.step R S₁) hx hv fun s₂ R₂ F₂ S₂ => hP .next .next _ σ₁ s₂ .next R₂ F₂ ((S₁.own).trans S₂) q₁
noncomputable def xRet (T : ETX) : STX := fun m σ Q X => T m σ (fun v σ' => Q (.ret v) m σ') fun c σ' => X c m σ'
theorem HSX1.ret {pos : Pos} {value : Expr} {T : ETX} (he : HEX C sc k value T) : HSX1 C sc k (.Return (some value) pos) (xRet T) := by
  refine ⟨?_⟩; intro env A s m σ Q X P E en ao R F W q hP hX
  exact wpAny_Return_some (he.run env A s m σ _ _ _ E en ao R F W q (fun v w σ₁ s₁ hv R₁ S₁ q₁ => hP (.ret v) (.ret w) m σ₁ s₁ (.ret hv) R₁ (F.step R S₁) S₁.own q₁) (AftXc.of R F hX))
end
end Mine


end
noncomputable section
set_option autoImplicit false
set_option linter.unusedVariables false
set_option maxRecDepth 100000
namespace Mine
open PySem PySem.W PyProof.Rows PySem.Calls
noncomputable def lookNames : List Str := ["__init__", "__getattribute__", "__getattr__", "__class__"]
/-- the bases of an exception class of the text: empty classes, then ValueError's -/
inductive OT (h : Heap) : List Value → Prop
  | base : OT h veBases
  | own {A : Addr} {c0 : Value} {dd : Option Addr} {cd : ClassData} {sl : Array (Option Value)} {mA : Str → Option Value} {tl : List Value} :
      h.get? A = some { cls := c0, dict := dd, data := .cls cd, slots := sl } → h.Ns cd.ns mA → (∀ n ∈ lookNames, mA n = none) → OT h tl → OT h (.ref A :: tl)
theorem OT.keeps {h h' : Heap} {l : List Value} (T : OT h l) (k : ∀ b o, h.get? b = some o → h'.get? b = some o) : OT h' l := by
  induction T with
  | base => exact .base
  | own h1 h2 h3 _ ih => exact .own (k _ _ h1) (h2.keeps k) h3 ih
theorem OT.tail {h : Heap} {l : List Value} (T : OT h l) : OwnTail h veBases l := by
  induction T with
  | base => exact .base
  | own h1 h2 h3 _ ih => exact .own h1 h2 (h3 _ (.head _)) ih
/-- an exception class of the text -/
inductive XC (h : Heap) (Cl : Addr) (bm : List Value) : Prop
  | mk (N : Addr) (nm q : Str) (bs : List Value) (hdct : Bool) (sn : List Str) (sub : List Value) (ab : Bool) (col : Option Bool) (dd : Option Addr) (k0 k1 k2 k3 k5 : Option Value) (mN : Str → Option Value)
      (h1 : h.get? Cl = some (excClassObj nm q Cl N bs bm hdct sn sub ab col dd k0 k1 k2 k3 k5 "ValueError.__new__")) (h2 : h.Ns N mN) (h3 : ∀ n ∈ lookNames, mN n = none) (h4 : OT h bm) : XC h Cl bm
theorem XC.keeps {h h' : Heap} {Cl : Addr} {bm : List Value} (X : XC h Cl bm) (k : ∀ b o, h.get? b = some o → h'.get? b = some o) : XC h' Cl bm := by
  obtain ⟨N, nm, q, bs, hdct, sn, sub, ab, col, dd, k0, k1, k2, k3, k5, mN, h1, h2, h3, h4⟩ := X
  exact ⟨N, nm, q, bs, hdct, sn, sub, ab, col, dd, k0, k1, k2, k3, k5, mN, k _ _ h1, h2.keeps k, h3, h4.keeps k⟩
section
variable {prog : Program} {w : World} {A : Around} {E : Value → Shared → Prop} {s : Shared} {Cl a : Addr} {bm : List Value} {o : Obj}
theorem look_tail {l : List Value} {n : Str} {y : Option Value} {Q : Option Value → Shared → Prop} {M : Model} (T : OT s.heap l) (hn : n ∈ lookNames) (hrest : lookupAlong veBases n = pure y) (hq : Q y s) : wpAny M A (lookupAlong l n) Q E s := by
  induction T with
  | base => rw [hrest]; exact wpAny_pure hq
  | own hA hN h3 _ ih =>
    rw [lookupAlong_cons]
    obtain ⟨h, g, d, t, os⟩ := s
    refine wpAny_bind (wpAny_classOwn_cls hA hN ?_)
    rw [h3 n hn]
    exact ih
theorem look_exc {n : Str} {y : Option Value} {Q : Option Value → Shared → Prop} {M : Model} (X : XC s.heap Cl bm) (hn : n ∈ lookNames) (hB : typeLookup (.type "ValueError") n = pure y) (hq : Q y s) : wpAny M A (typeLookup (.ref Cl) n) Q E s := by
  obtain ⟨N, nm, q, bs, hdct, sn, sub, ab, col, dd, k0, k1, k2, k3, k5, mN, h1, h2, h3, h4⟩ := X
  have hrest : lookupAlong veBases n = pure y := by rw [typeLookup_eq, PySem.F.excBase_ValueError.mroIs] at hB; exact hB
  rw [typeLookup_eq]
  obtain ⟨h, g, d, t, os⟩ := s
  refine wpAny_bind (wpAny_mroOf_exc h1 ?_)
  rw [lookupAlong_cons]
  refine wpAny_bind (wpAny_classOwn_exc h1 h2 ?_)
  rw [h3 n hn]
  exact look_tail h4 hn hrest hq
theorem sub_exc {base : Value} {Q : Bool → Shared → Prop} {M : Model} (X : XC s.heap Cl bm) (hq : Q ((Value.ref Cl :: bm).contains base) s) : wpAny M A (isSubtype (.ref Cl) base) Q E s := by
  obtain ⟨N, nm, q, bs, hdct, sn, sub, ab, col, dd, k0, k1, k2, k3, k5, mN, h1, h2, h3, h4⟩ := X
  obtain ⟨h, g, d, t, os⟩ := s
  exact wpAny_isSubtype_exc h1 hq
theorem lk_ve_class : typeLookup (.type "ValueError") "__class__" = pure (some (.builtin "object.__class__")) := by rw [typeLookup_type, builtinLookup_eq_fast]; kernel_rfl
theorem OT.obj {h : Heap} {l : List Value} (T : OT h l) : l.contains (.type "object") = true ∧ l.contains (.type "BaseException") = true := by
  induction T with
  | base => decide
  | own _ _ _ _ ih => rw [List.contains_cons, List.contains_cons, ih.1, ih.2]; simp
theorem XC.obj {h : Heap} (X : XC h Cl bm) : bm.contains (.type "object") = true ∧ bm.contains (.type "BaseException") = true := by
  obtain ⟨N, nm, q, bs, hdct, sn, sub, ab, col, dd, k0, k1, k2, k3, k5, mN, h1, h2, h3, h4⟩ := X
  exact h4.obj
theorem class_get {R : Result → Shared → Prop} (X : XC s.heap Cl bm) (hx : s.heap.get? a = some o) (hc : o.cls = .ref Cl) (hq : R (.ok (.ret (.ref Cl))) s) :
    codeAny (model prog w) A (.call (.builtin "getset_descriptor.__get__") ⟨[.builtin "object.__class__", .ref a, .ref Cl], []⟩) R s := by
  have hT5 : s.TypeIs (.builtin "object.__class__") "getset_descriptor" := F.typeOf_object_class
  have hcB : (Value.ref Cl :: bm).contains (.type (".".intercalate ("object.__class__".cutAt '.').dropLast)) = true := by rw [F.owner_object_class, List.contains_cons, X.obj.1, Bool.or_true]
  refine codeAny_call_builtin F.slot_gs_get.plain F.entry_gs_get (F.slot_gs_get.check _ _ _ _ _ _ _ _ hT5 (F.args_gs_get _ _ _) ?_)
  repeat (any_goals (first | assumption | (with_reducible refine wpAny_loadPart hx ?_; rw [hc]) | (with_reducible refine sub_exc X ?_; rw [hcB]) | wp_step))
  refine ⟨Code.quiet_builtin _ (by decide +kernel), codeAny_builtin F.entry_object_class ?_⟩
  repeat (any_goals (first | assumption | (with_reducible refine wpAny_loadPart hx ?_; rw [hc]) | wp_step))
theorem class_entry {tk : Tok} {Q : Fin → Shared → Prop} (X : XC s.heap Cl bm) (hx : s.heap.get? a = some o) (hc : o.cls = .ref Cl) (hq : Q (.done (.ret (.ref Cl))) s) :
    wpAny (model prog w) A (Builtin.«object.__getattribute__» ⟨[.ref a, .str "__class__" tk], []⟩) Q E s := by
  have hT5 : s.TypeIs (.builtin "object.__class__") "getset_descriptor" := F.typeOf_object_class
  have f5 := F.typeOf_object_class
  have f6 := F.slot_gs_get.lookup
  have f7 := F.slot_gs_set.lookup
  have hm : ("__class__" : Str) ∈ lookNames := .tail _ (.tail _ (.tail _ (.head _)))
  repeat (any_goals (first | assumption | (with_reducible refine wpAny_loadPart hx ?_; rw [hc]) | with_reducible refine look_exc X hm lk_ve_class ?_ | wp_step))
  refine class_get X hx hc ?_
  repeat (any_goals (first | assumption | wp_step))
theorem check_ga {nameV : Value} {Q : Unit → Shared → Prop} {M : Model} (X : XC s.heap Cl bm) (hx : s.heap.get? a = some o) (hc : o.cls = .ref Cl) (hq : Q () s) : wpAny M A (checkBuiltinCall "BaseException.__getattribute__" ⟨[.ref a, nameV], []⟩) Q E s := by
  have hk : builtinKind "BaseException.__getattribute__" = some .slot := by decide +kernel
  have hsplit : splitId "BaseException.__getattribute__" = some ("BaseException", "__getattribute__") := by decide +kernel
  have hcB : (Value.ref Cl :: bm).contains (.type "BaseException") = true := by rw [List.contains_cons, X.obj.2, Bool.or_true]
  have ha := F.args_bexc_ga (.ref a) nameV
  simp only [checkBuiltinCall, hk, hsplit]
  refine wpAny_bind ?_
  · unfold isInstance
    repeat (first | (with_reducible refine wpAny_loadPart hx ?_; rw [hc]) | (with_reducible refine sub_exc X ?_; rw [hcB]) | wp_step)
    exact hq
theorem class_call {tk : Tok} {R : Result → Shared → Prop} (X : XC s.heap Cl bm) (hx : s.heap.get? a = some o) (hc : o.cls = .ref Cl) (hq : R (.ok (.ret (.ref Cl))) s) :
    codeAny (model prog w) A (.call (.builtin "BaseException.__getattribute__") ⟨[.ref a, .str "__class__" tk], []⟩) R s :=
  codeAny_call_builtin F.attrBase_ValueError.ga.plain F.entry_bexc_ga (check_ga X hx hc (class_entry X hx hc hq))
theorem class_by {tk : Tok} {fill expr : Bool} {Q : Value → Shared → Prop} (X : XC s.heap Cl bm) (hx : s.heap.get? a = some o) (hc : o.cls = .ref Cl) (hq : Q (.ref Cl) s) :
    wpAny (model prog w) A (getAttrBy (.ref a) (.str "__class__" tk) fill expr) Q E s := by
  have f3 := F.attrBase_ValueError.ga.bind (.ref a)
  have hx0 : (expr && onTheHeap (Value.builtin "BaseException.__getattribute__")) = false := by cases expr <;> rfl
  have hx2 : (Value.builtin "BaseException.__getattribute__" == Value.builtin "object.__getattribute__") = false := by decide +kernel
  have hx1 : (onTheHeap (Value.ref Cl) && Value.builtin "BaseException.__getattribute__" == Value.builtin "object.__getattribute__") = false := by rw [hx2]; rfl
  have hm1 : ("__getattribute__" : Str) ∈ lookNames := .tail _ (.head _)
  have hm2 : ("__getattr__" : Str) ∈ lookNames := .tail _ (.tail _ (.head _))
  repeat (any_goals (first | assumption | (with_reducible refine wpAny_loadPart hx ?_; rw [hc]) | with_reducible refine look_exc X hm1 F.attrBase_ValueError.ga.lookup ?_ | with_reducible refine look_exc X hm2 F.attrBase_ValueError.noGetattr ?_ | wp_step))
  refine class_call X hx hc ?_
  repeat (any_goals (first | assumption | wp_step))
theorem class_attr {Q : Option Value → Shared → Prop} (X : XC s.heap Cl bm) (hx : s.heap.get? a = some o) (hc : o.cls = .ref Cl) (hq : Q (some (.ref Cl)) { s with toks := s.toks + 1 }) : wpAny (model prog w) A (getAttr? (.ref a) "__class__") Q E s := by
  obtain ⟨h, g, d, t, os⟩ := s
  dsimp only at X hx hq
  unfold getAttr? getAttrBy?
  repeat (any_goals (first | assumption | with_reducible apply class_by (s := ⟨h, g, d, t + 1, os⟩) X hx hc | wp_step))
/-- isinstance of an exception of the text: a class of the text, or a built-in one -/
theorem isi_exc_ref {H : Addr} {bm' : List Value} {dep : Int} {tk : Tok} {Q : Fin → Shared → Prop} (X : XC s.heap Cl bm) (XH : XC s.heap H bm') (hx : s.heap.get? a = some o) (hc : o.cls = .ref Cl)
    (hq : ∀ tk', Q (.done (.ret (.bool ((Value.ref Cl :: bm).contains (.ref H))))) { s with toks := tk' }) :
    wpAny (model prog w) A (Builtin.«isinstance.nested» ⟨[.ref a, .ref H, .int dep tk], []⟩) Q E s := by
  obtain ⟨N, nm, q, bs, hdct, sn, sub, ab, col, dd, k0, k1, k2, k3, k5, mN, h1, h2, h3, h4⟩ := XH
  have q0 := hq s.toks
  by_cases e : Cl = H
  · subst e
    have hcc : (Value.ref Cl :: bm).contains (.ref Cl) = true := by simp
    rw [hcc] at q0
    have hee : (Value.ref Cl == Value.ref Cl) = true := by simp
    repeat (any_goals (first | assumption | (with_reducible refine wpAny_loadPart hx ?_; rw [hc]) | wp_step))
  · have hne : (Value.ref Cl == Value.ref H) = false := by simpa using e
    obtain ⟨h, g, d, t, os⟩ := s
    dsimp only at X hx hq h1
    have hTH : (⟨h, g, d, t, os⟩ : Shared).TypeIs (.ref H) "type" := ⟨_, h1, rfl⟩
    cases hb : (Value.ref Cl :: bm).contains (.ref H) with
    | true =>
      rw [hb] at hq
      repeat (any_goals (first | exact hq _ | assumption | (with_reducible refine wpAny_loadPart_at hx ?_; rw [hc]) | (with_reducible refine wpAny_loadPart_at h1 ?_) | (with_reducible refine sub_exc (s := ⟨h, g, d, t, os⟩) X ?_; rw [hb]) | wp_step))
    | false =>
      rw [hb] at hq
      repeat (any_goals (first | exact hq _ | assumption | (with_reducible refine wpAny_loadPart_at hx ?_; rw [hc]) | (with_reducible refine wpAny_loadPart_at h1 ?_) | (with_reducible refine sub_exc (s := ⟨h, g, d, t, os⟩) X ?_; rw [hb]) | with_reducible apply class_attr (s := ⟨h, g, d, t, os⟩) X hx hc | wp_step))
      obtain ⟨N', nm', q', bs', hdct', sn', sub', ab', col', dd', l0, l1, l2, l3, l5, mN', hCl, _⟩ := id X
      refine wpAny_loadPart_at hCl (wpAny_pure ?_)
      dsimp only
      rw [if_neg (by decide)]
      refine wpAny_bind (wpAny_rule (sub_exc (s := ⟨h, g, d, t + 1, os⟩) X ?_))
      rw [hb]
      exact wpAny_pure (hq _)
theorem isi_exc_ty {H : String} {dep : Int} {tk : Tok} {Q : Fin → Shared → Prop} (X : XC s.heap Cl bm) (hx : s.heap.get? a = some o) (hc : o.cls = .ref Cl) (hty : typeOf (.type H) = pure (.type "type")) (hb : bm.contains (.type H) = true)
    (hq : ∀ tk', Q (.done (.ret (.bool true))) { s with toks := tk' }) :
    wpAny (model prog w) A (Builtin.«isinstance.nested» ⟨[.ref a, .type H, .int dep tk], []⟩) Q E s := by
  obtain ⟨h, g, d, t, os⟩ := s
  dsimp only at X hx hq
  have hne : (Value.ref Cl == Value.type H) = false := rfl
  have hb' : (Value.ref Cl :: bm).contains (.type H) = true := by rw [List.contains_cons, hb, Bool.or_true]
  repeat (any_goals (first | exact hq _ | assumption | (with_reducible refine wpAny_loadPart_at hx ?_; rw [hc]) | (with_reducible refine sub_exc (s := ⟨h, g, d, t, os⟩) X ?_; rw [hb']) | wp_step))
end
end Mine


end
noncomputable section
set_option autoImplicit false
set_option linter.unusedVariables false
namespace Mine
open PySem PySem.W PyProof.Rows PySem.Calls
noncomputable def deadObj : Obj := { cls := .none, dict := none, data := .freed }
/-- the heap with one object more -/
noncomputable def heapAdd (h : Heap) (e : Addr) (o : Obj) : Heap := if e < h.objs.size then ⟨h.objs.setIfInBounds e o, h.life⟩ else ⟨(h.objs ++ Array.replicate (e - h.objs.size) deadObj).push o, h.life⟩
theorem heapAdd_get {h : Heap} {e : Addr} {o : Obj} (hz : h.get? e = none) (ho : o.isFreed = false) (b : Addr) : (heapAdd h e o).get? b = if b = e then some o else h.get? b := by
  have at_ : (heapAdd h e o).objs[e]? = some o := by
    unfold heapAdd
    split
    · rename_i q
      show (h.objs.setIfInBounds e o)[e]? = some o
      rw [Array.getElem?_setIfInBounds_self_of_lt q]
    · rename_i q
      have sz : (h.objs ++ Array.replicate (e - h.objs.size) deadObj).size = e := by
        rw [Array.size_append, Array.size_replicate]
        exact Nat.add_sub_cancel' (Nat.le_of_not_lt q)
      show ((h.objs ++ Array.replicate (e - h.objs.size) deadObj).push o)[e]? = some o
      rw [Array.getElem?_push, sz, if_pos rfl]
  have other : b ≠ e → ∀ x, x.isFreed = false → ((heapAdd h e o).objs[b]? = some x ↔ h.objs[b]? = some x) := by
    intro hb x hf
    unfold heapAdd
    split
    · show (h.objs.setIfInBounds e o)[b]? = some x ↔ _
      rw [Array.getElem?_setIfInBounds_ne (Ne.symm hb)]
    · rename_i q
      have sz : (h.objs ++ Array.replicate (e - h.objs.size) deadObj).size = e := by
        rw [Array.size_append, Array.size_replicate]
        exact Nat.add_sub_cancel' (Nat.le_of_not_lt q)
      show ((h.objs ++ Array.replicate (e - h.objs.size) deadObj).push o)[b]? = some x ↔ _
      rw [Array.getElem?_push, sz, if_neg hb, Array.getElem?_append]
      split
      · exact Iff.rfl
      · rename_i q2
        rw [Array.getElem?_replicate, Array.getElem?_eq_none (Nat.le_of_not_lt q2)]
        split
        · exact ⟨fun z => (by cases z; cases hf), fun z => (by cases z)⟩
        · exact Iff.rfl
  by_cases hb : b = e
  · rw [if_pos hb, hb]
    exact Heap.get?_some_iff.mpr ⟨at_, ho⟩
  · rw [if_neg hb]
    cases hg : h.get? b with
    | some x =>
      obtain ⟨h1, h2⟩ := Heap.get?_some_iff.mp hg
      exact Heap.get?_some_iff.mpr ⟨(other hb x h2).mpr h1, h2⟩
    | none =>
      cases hq : (heapAdd h e o).get? b with
      | none => rfl
      | some x =>
        obtain ⟨h1, h2⟩ := Heap.get?_some_iff.mp hq
        have := Heap.get?_some_iff.mpr ⟨(other hb x h2).mp h1, h2⟩
        rw [hg] at this; cases this
/-- within a handler: the exception belongs to the base -/
noncomputable def Cx.hold (C : Cx) (e : Addr) (o : Obj) : Cx := { C with s₁ := { C.s₁ with heap := heapAdd C.s₁.heap e o }, held := some e }
section
variable {C : Cx} {e : Addr} {o : Obj} {σ : View} {s : Shared} {env : Env} {m : Loc} {p : Program} {vs : Array Value}
theorem hold_keeps (hz : C.hB.get? e = none) (ho : o.isFreed = false) : ∀ b x, C.hB.get? b = some x → (C.hold e o).hB.get? b = some x := fun b x h => by
  show (heapAdd C.hB e o).get? b = some x
  rw [heapAdd_get hz ho, if_neg (by rintro rfl; rw [hz] at h; cases h)]; exact h
theorem hold_at (hz : C.hB.get? e = none) (ho : o.isFreed = false) : (C.hold e o).hB.get? e = some o := by
  show (heapAdd C.hB e o).get? e = some o
  rw [heapAdd_get hz ho, if_pos rfl]
theorem RelG.hold (R : RelG C σ s) (hz : C.hB.get? e = none) (ho : o.isFreed = false) (he : s.heap.get? e = some o) (hs : σ e = none) : RelG (C.hold e o) σ s := by
  refine ⟨let ⟨h, tk, d, q⟩ := R.rest; ⟨h, tk, d, by rw [q]; rfl⟩, fun b x h => ?_, fun a x h => ?_, fun a h => ?_⟩
  · have h' : (heapAdd C.hB e o).get? b = some x := h
    rw [heapAdd_get hz ho] at h'
    split at h'
    · rename_i q; cases h'; rw [q]; exact he
    · exact R.base b x h'
  · have := R.view a x h
    cases x <;> exact this
  · show (heapAdd C.hB e o).get? a = none
    rw [heapAdd_get hz ho, if_neg (by rintro rfl; exact h hs)]; exact R.apart a h
theorem RelG.drop (R : RelG (C.hold e o) σ s) (hz : C.hB.get? e = none) (ho : o.isFreed = false) : RelG C σ s := by
  refine ⟨let ⟨h, tk, d, q⟩ := R.rest; ⟨h, tk, d, by rw [q]; rfl⟩, fun b x h => R.base b x (hold_keeps hz ho b x h), fun a x h => ?_, fun a h => ?_⟩
  · have := R.view a x h
    cases x <;> exact this
  · have : (heapAdd C.hB e o).get? a = none := R.apart a h
    rw [heapAdd_get hz ho] at this
    split at this
    · cases this
    · exact this
theorem FrameRel.hold (F : FrameRel C env m σ s.heap) (hz : C.hB.get? e = none) (ho : o.isFreed = false) (he : s.heap.get? e = some o) (hd : o.data = .fields vs) : FrameRel (C.hold e o) env m σ s.heap := by
  refine ⟨F.ns, F.cel, F.cells, F.sepL, ?_, fun n c hc => ?_, F.dist, F.has⟩
  · show (heapAdd C.hB e o).get? env.locals = none
    rw [heapAdd_get hz ho, if_neg ?_]
    · exact F.baseL
    · rintro q
      obtain ⟨mm, ⟨oL, es, ep, hoL, hdL, _⟩, _⟩ := F.ns
      rw [q, he] at hoL; cases hoL; rw [hd] at hdL; cases hdL
  · show (heapAdd C.hB e o).get? c = none
    rw [heapAdd_get hz ho, if_neg ?_]
    · exact F.baseC n c hc
    · rintro q
      obtain ⟨v, oc, hoc, hdc⟩ := F.cells n c hc
      rw [q, he] at hoc; cases hoc; rw [hd] at hdc; cases hdc
theorem FrameRel.drop (F : FrameRel (C.hold e o) env m σ s.heap) (hz : C.hB.get? e = none) (ho : o.isFreed = false) : FrameRel C env m σ s.heap := by
  have dr : ∀ b, (C.hold e o).hB.get? b = none → C.hB.get? b = none := fun b h => by
    cases q : C.hB.get? b with
    | none => rfl
    | some x => rw [hold_keeps hz ho b x q] at h; cases h
  exact ⟨F.ns, F.cel, F.cells, F.sepL, dr _ F.baseL, fun n c hc => dr _ (F.baseC n c hc), F.dist, F.has⟩
theorem Cx.Ok.hold (O : C.Ok) (hz : C.hB.get? e = none) (ho : o.isFreed = false) (hd : o.data = .fields vs) (h2 : vs[2]? = some .none) : (C.hold e o).Ok where
  g := O.g.keeps (hold_keeps hz ho)
  b := O.b.keeps (hold_keeps hz ho)
  nolimit := O.nolimit.keeps (hold_keeps hz ho)
  mods := let ⟨x, hx⟩ := O.mods; ⟨x, hold_keeps hz ho _ _ hx⟩
  few := O.few
  heldOk := fun e' h => by
    have : e' = e := by
      have h' : some e = some e' := h
      cases h'; rfl
    subst this
    exact ⟨o, vs, hold_at hz ho, hd, h2⟩
  script := let ⟨ws, h1, h2, h3⟩ := O.script; ⟨ws, h1.at fun x hx => hold_keeps hz ho _ _ hx, h2, h3⟩
theorem Gl.hold (G : Gl C p) (hz : C.hB.get? e = none) (ho : o.isFreed = false) (hd : o.data = .fields vs) (h2 : vs[2]? = some .none) : Gl (C.hold e o) p where
  ok := G.ok.hold hz ho hd h2
  mb := G.mb
  free := G.free
  fn := fun d hd' => by
    obtain ⟨a, o', pm, code, doc, h1, h2', h3, h4⟩ := G.fn d hd'
    exact ⟨a, o', pm, code, doc, h1, hold_keeps hz ho _ _ h2', h3, h4.keeps (hold_keeps hz ho)⟩
end
end Mine


end
noncomputable section
set_option autoImplicit false
set_option linter.unusedVariables false
set_option maxRecDepth 100000
namespace Mine
open PySem PySem.W PyProof.Rows PySem.Calls
section
variable {prog : Program} {w : World} {A : Around} {E : Value → Shared → Prop} {s : Shared} {Cl H a : Addr} {bm bmH : List Value} {o : Obj} {M : Model}
theorem matches_exc {Q : Bool → Shared → Prop} (X : XC s.heap Cl bm) (XH : XC s.heap H bmH) (hx : s.heap.get? a = some o) (hc : o.cls = .ref Cl) (hq : Q ((Value.ref Cl :: bm).contains (.ref H)) s) :
    wpAny M A (excMatches (.ref a) (.ref H)) Q E s := by
  have hcB : (Value.ref H :: bmH).contains (.type "BaseException") = true := by rw [List.contains_cons, XH.obj.2, Bool.or_true]
  obtain ⟨N, nm, q, bs, hdct, sn, sub, ab, col, dd, k0, k1, k2, k3, k5, mN, h1, h2, h3, h4⟩ := id XH
  have f := tc_notTuple
  obtain ⟨h, g, d, t, os⟩ := s
  dsimp only at X XH hx h1
  unfold excMatches
  repeat (first | (with_reducible refine wpAny_loadPart_at hx ?_; rw [hc]) | with_reducible refine wpAny_loadPart_at h1 ?_ | (with_reducible refine wpAny_isSubtype_exc h1 ?_; rw [hcB]) | (with_reducible refine sub_exc (s := ⟨h, g, d, t, os⟩) X ?_) | wp_step)
  cases hb : (Value.ref Cl :: bm).contains (.ref H) <;> (rw [hb] at hq; wp_walk; exact hq)
end
/-- without a name -/
noncomputable def cut (m : Loc) (x : String) : Loc := fun y => if y = x then Option.none else m y
section
variable {C : Cx} {sc : Scope} {k : Nat}
theorem unbind {env : Env} {A : Around} {s : Shared} {m : Loc} {σ : View} {x : String} {pos : Pos} {P : Unit → Shared → Prop} {E : Value → Shared → Prop} (en : EnvOk env sc) (R : RelG C σ s) (F : FrameRel C env m σ s.heap)
    (hl : sc.names.lookup (Str.ofString x) = some .local)
    (h : ∀ s', RelG C σ s' → FrameRel C env (cut m x) σ s'.heap → Step (Own env) σ σ s.heap s'.heap → P () s') : wpAny (model C.prog C.w) A (do bindName env (Str.ofString x) .none; unbindBehindTheSuite env (Str.ofString x) pos) P E s := by
  refine wpAny_bind (wpAny_bindName (store_local en R F hl (v := .none) .none fun s₁ R₁ F₁ S₁ => ?_))
  unfold unbindBehindTheSuite
  refine wpAny_onRaise ?_
  obtain ⟨mm, hn, hm⟩ := F₁.ns
  obtain ⟨w, hw, _⟩ := hm x .none (by simp) (en.of hl)
  refine wpAny_unbindName_local (en.of hl) hn hw (by rw [en.k]; rfl) fun h' u hn' hs' => ?_
  obtain ⟨oL, esL, epL, hoL, hdL, _⟩ := id hn
  have kt : TupKeep s₁.heap h' := fun b o e ht => (hs'.2 b (by rintro rfl; rw [hoL] at e; cases e; obtain ⟨_, _, _, hd⟩ := ht; rw [hdL] at hd; cases hd)).trans e
  have kc : ∀ c v, s₁.heap.IsCell c v → h'.IsCell c v := fun c v ⟨o, ho, hd⟩ => ⟨o, (hs'.2 c (by rintro rfl; rw [hoL] at ho; cases ho; rw [hdL] at hd; cases hd)).trans ho, hd⟩
  have cutm : ∀ y v, cut m x y = some v → y ≠ x ∧ put m x .none y = some v := fun y v e => by
    unfold cut at e
    split at e
    · cases e
    · rename_i q; exact ⟨q, by rw [put_ne q]; exact e⟩
  refine h _ ?_ ?_ ?_
  · refine ⟨let ⟨_, tk, d, e⟩ := R₁.rest; ⟨h', tk, d, by rw [e]⟩, fun b o e => ?_, fun a o e => ?_, R₁.apart⟩
    · exact (hs'.2 b (by rintro rfl; rw [F.baseL] at e; cases e)).trans (R₁.base b o e)
    · exact (R₁.view a o e).keep kt fun o' e' => (hs'.2 a (by rintro rfl; rw [F.sepL] at e; cases e)).trans e'
  · refine ⟨⟨_, hn', fun y v e ky => ?_⟩, fun y v e => ?_, fun n c e => ?_, F.sepL, F.baseL, F.baseC, F.dist, F.has⟩
    · obtain ⟨hy, e'⟩ := cutm y v e
      obtain ⟨w', h1, h2⟩ := hm y v e' ky
      exact ⟨w', by simp [show ¬ Str.ofString y = Str.ofString x from fun z => hy (ofString_inj z), h1], h2.keep kt⟩
    · obtain ⟨hy, e'⟩ := cutm y v e
      rcases F₁.cel y v e' with z | ⟨z, c, w', h1, h2, h3⟩
      · exact .inl z
      · exact .inr ⟨z, c, w', h1, kc _ _ h2, h3.keep kt⟩
    · obtain ⟨v, hv⟩ := F₁.cells n c e; exact ⟨v, kc _ _ hv⟩
  · exact (S₁.mono fun _ _ _ z => .inl z).trans (.of (fun b o e n q => (hs'.2 b fun z => q (.inl z)).trans e) (Nat.le_of_eq hs'.1.symm) fun _ a b => absurd a b)
/-- the exception classes that come, and what the program says of them -/
noncomputable def XAll (C : Cx) (cs : List String) (Ch : Addr) : Prop := ∀ c ∈ cs, ∃ Cc bm, C.mg (Str.ofString c) = some (.ref Cc) ∧ XC C.hB Cc bm ∧ (Value.ref Cc :: bm).contains (.ref Ch) = true
noncomputable def xTry (n : String) (cs : List String) (T : STX) (U : Addr → String → ST) : STX := fun m σ Q X => T m σ Q fun c m' σ' => c ∈ cs ∧ ∀ e, σ' e = Option.none → U e c (put m' n (.ref e)) σ' fun f m'' σ'' => Q f (cut m'' n) σ''
theorem HSX1.tryAs (O : C.Ok) (hz : C.held = Option.none) {body : List Stmt} {H n : String} {b₀ : Stmt} {suite : List Stmt} {np hpos pos : Pos} {T : STX} {U : Addr → String → ST} {cs : List String} {Ch : Addr} {bmH : List Value} (hb : HSX C sc k body T)
    (hn : sc.names.lookup (Str.ofString H) = some .globalImplicit) (hdb : (Str.ofString H == ("__debug__" : Str)) = false) (hgH : C.mg (Str.ofString H) = some (.ref Ch)) (XH : XC C.hB Ch bmH) (hvar : sc.names.lookup (Str.ofString n) = some .local) (hcl : XAll C cs Ch)
    (hs : ∀ (e : Addr) (o : Obj) (vs : Array Value) (c : String) (Cc : Addr), c ∈ cs → C.mg (Str.ofString c) = some (.ref Cc) → C.hB.get? e = Option.none → o.isFreed = false → o.cls = .ref Cc → o.data = .fields vs → vs[2]? = some .none → HS (C.hold e o) sc k (b₀ :: suite) (U e c)) :
    HSX1 C sc k (.Try body [.ExceptHandler (some (.Name (Str.ofString H) np)) (some (Str.ofString n)) (b₀ :: suite) hpos] [] [] pos) (xTry n cs T U) := by
  refine ⟨?_⟩; intro env A s m σ Q X P E en ao R F W q hP hX
  have hbase : ∀ b o, C.hB.get? b = some o → b < s.heap.objs.size := fun b o e => Heap.lt_size (R.base b o e)
  refine wpAny_Try_except (hb.run env A s m σ _ _ _ _ en ao R F W q (fun f g m₁ σ₁ s₁ hf R₁ F₁ S₁ q₁ => ?_) (fun c e m₁ σ₁ s₁ fl R₁ F₁ S₁ x => ?_))
  · cases hf with
    | next => exact wpAny_execs_nil (hP _ _ m₁ σ₁ s₁ .next R₁ F₁ S₁ q₁)
    | brk => exact hP _ _ m₁ σ₁ s₁ .brk R₁ F₁ S₁ q₁
    | cont => exact hP _ _ m₁ σ₁ s₁ .cont R₁ F₁ S₁ q₁
    | ret hv => exact hP _ _ m₁ σ₁ s₁ (.ret hv) R₁ F₁ S₁ q₁
  · obtain ⟨hc, x⟩ := x
    obtain ⟨Cc, bm, hg, XCc, hsub⟩ := hcl c hc
    have WW : Way C A env c e σ s.heap m₁ σ₁ s₁ (okIn env) := ⟨fl, R₁, F₁, S₁, W.step S₁⟩
    refine WW.note en.k hbase rfl fun s₂ W₂ => ?_
    refine (W₂.mono fun x hx => by rw [hx]; simp).flight en.k hbase fun s₃ W₃ => ?_
    refine wpAny_handleBy_cons (codeAny_handlers_test ?_) (by intro z; cases z)
    obtain ⟨oe, vs, Cl, he, hmg, hcls, hd, h2, h2s, hT⟩ := W₃.fly.obj
    rw [hg] at hmg; cases hmg
    refine Calls.Name_function_global en.k (en.of hn) (Calls.loadGlobal_global (mg := C.mg) (by rw [en.globals]; exact O.g.keeps W₃.rel.base) hgH ?_) hdb
    refine matches_exc (XCc.keeps W₃.rel.base) (XH.keeps W₃.rel.base) he hcls ?_
    rw [hsub]
    refine codeAny_handlers_suite_as ?_
    refine (W₃.mono fun x hx => by rw [hx]; simp).flight en.k hbase fun s₄ W₄ => ?_
    refine store_local en W₄.rel W₄.frame hvar (.ref e) fun s₅ R₅ F₅ S₅ => ?_
    obtain ⟨oe, vs, Cl, he, hmg, hcls, hd, h2, h2s, hT⟩ := W₄.fly.obj
    rw [hg] at hmg; cases hmg
    have hse := W₄.fly.sep
    have hez : C.hB.get? e = Option.none := R.baseNone (get_none_of_size W₄.fly.new)
    have hof : oe.isFreed = false := Obj.isFreed_of_fields hd
    have hne : e ≠ env.locals := by
      rintro z
      obtain ⟨mm, ⟨oL, es, ep, hoL, hdL, _⟩, _⟩ := W₄.frame.ns
      rw [← z, he] at hoL; cases hoL; rw [hd] at hdL; cases hdL
    have he₅ : s₅.heap.get? e = some oe := S₅.keep e oe he hse hne (fun es ep z => by rw [hd] at z; cases z)
    have R₅' := R₅.hold hez hof he₅ hse
    have F₅' := F₅.hold hez hof he₅ hd
    have ao' : AOk (C.hold e oe) (A.mark (some (.ref e))) k := ⟨rfl, ao.depth, ao.units⟩
    refine (hs e oe vs c Cc hc hg hez hof hcls hd h2).run env _ s₅ _ σ₁ _ _ _ en ao' R₅' F₅' (x e hse) fun f g m₆ σ₆ s₆ hf R₆ F₆ S₆ q₆ => ?_
    refine unbind en (R₆.drop hez hof) (F₆.drop hez hof) hvar fun s₇ R₇ F₇ S₇ => ?_
    have SS : Step (Own env) σ σ₆ s.heap s₇.heap := ((W₄.step.trans (S₅.mono fun _ _ _ z => .inl z)).trans S₆).trans S₇
    refine hP f g (cut m₆ n) σ₆ s₇ ?_ R₇ F₇ SS q₆
    cases hf with
    | next => exact .next
    | brk => exact .brk
    | cont => exact .cont
    | ret hv => exact .ret (hv.keep (S₇.tupsO (F₆.drop hez hof) (R₆.drop hez hof)))
end
end Mine


end
noncomputable section
set_option autoImplicit false
set_option linter.unusedVariables false
set_option maxRecDepth 100000
namespace Mine
open PySem PySem.W PyProof.Rows PySem.Calls
section
variable {prog : Program} {w : World} {A : Around} {E : Value → Shared → Prop} {s : Shared} {Cl H a : Addr} {bm bmH : List Value} {o : Obj}
theorem isi_call_ref {Q : Value → Shared → Prop} (X : XC s.heap Cl bm) (XH : XC s.heap H bmH) (hx : s.heap.get? a = some o) (hc : o.cls = .ref Cl) (hq : ∀ tk', Q (.bool ((Value.ref Cl :: bm).contains (.ref H))) { s with toks := tk' }) :
    wpAny (model prog w) A (call (.builtin "isinstance") [.ref a, .ref H]) Q E s :=
  call_isinstance (S := fun _ R s' => s' = s ∧ ∀ tk', R (.ok (.ret (.bool ((Value.ref Cl :: bm).contains (.ref H))))) { s with toks := tk' })
    (fun _ _ _ _ s' hs => by obtain ⟨rfl, hs⟩ := hs; exact isinstance_outer (isi_exc_ref X XH hx hc fun tk' => hs tk') (by intro e; cases e)) ⟨rfl, fun tk' => hq tk'⟩
theorem isi_call_ty {T : String} {Q : Value → Shared → Prop} (X : XC s.heap Cl bm) (hx : s.heap.get? a = some o) (hc : o.cls = .ref Cl) (hty : typeOf (.type T) = pure (.type "type")) (hb : bm.contains (.type T) = true) (hq : ∀ tk', Q (.bool true) { s with toks := tk' }) :
    wpAny (model prog w) A (call (.builtin "isinstance") [.ref a, .type T]) Q E s :=
  call_isinstance (S := fun _ R s' => s' = s ∧ ∀ tk', R (.ok (.ret (.bool true))) { s with toks := tk' })
    (fun _ _ _ _ s' hs => by obtain ⟨rfl, hs⟩ := hs; exact isinstance_outer (isi_exc_ty X hx hc hty hb fun tk' => hs tk') (by intro e; cases e)) ⟨rfl, fun tk' => hq tk'⟩
end
section
variable {C : Cx} {sc : Scope} {k : Nat} {p : Program}
/-- isinstance(e, K) of an exception that is held -/
noncomputable def spIsX (e : Addr) (c : V) (b : Bool) : Spec := fun vs σ Q => vs = [.ref e, c] ∧ Q (.bool b) σ
theorem ok_isX {e Cc H : Addr} {o : Obj} {bm bmH : List Value} {b : Bool} (he : C.hB.get? e = some o) (hc : o.cls = .ref Cc) (X : XC C.hB Cc bm) (XH : XC C.hB H bmH) (hb : (Value.ref Cc :: bm).contains (.ref H) = b) : OpN C k (fun ws => PySem.call (.builtin "isinstance") ws) (spIsX e (.ref H) b) := by
  rintro A s σ vs ws Q P E ao R hv ⟨rfl, q⟩ hP
  obtain ⟨wa, wb, rfl, h1, h2⟩ := hv.inv2
  cases h1; cases h2
  refine isi_call_ref (X.keeps R.base) (XH.keeps R.base) (R.base _ _ he) hc fun tk' => ?_
  rw [hb]
  exact hP _ _ σ _ (.bool b) (R.tok _) Step.refl q
theorem ok_isXT {e Cc : Addr} {o : Obj} {bm : List Value} (he : C.hB.get? e = some o) (hc : o.cls = .ref Cc) (X : XC C.hB Cc bm) (hb : bm.contains (.type "ValueError") = true) : OpN C k (fun ws => PySem.call (.builtin "isinstance") ws) (spIsX e (.ty "ValueError") true) := by
  rintro A s σ vs ws Q P E ao R hv ⟨rfl, q⟩ hP
  obtain ⟨wa, wb, rfl, h1, h2⟩ := hv.inv2
  cases h1; cases h2
  refine isi_call_ty (X.keeps R.base) (R.base _ _ he) hc (by kernel_rfl) hb fun tk' => ?_
  exact hP _ _ σ _ (.bool true) (R.tok _) Step.refl q
theorem bb_ve : bootBuiltins (Str.ofString "ValueError") = some (.type "ValueError") := by decide +kernel
theorem HE.isX (G : Gl C p) {n K : String} {H : Addr} {e : Addr} {b : Bool} {np p1 p2 pos : Pos} (hop : OpN C k (fun ws => PySem.call (.builtin "isinstance") ws) (spIsX e (.ref H) b)) (hi : sc.names.lookup (Str.ofString "isinstance") = some .globalImplicit)
    (hn : sc.names.lookup (Str.ofString n) = some .local) (hnd : (Str.ofString n == ("__debug__" : Str)) = false) (hk : sc.names.lookup (Str.ofString K) = some .globalImplicit) (hkd : (Str.ofString K == ("__debug__" : Str)) = false) (hg : C.mg (Str.ofString K) = some (.ref H)) :
    HE C sc k (.Call (.Name (Str.ofString "isinstance") np) [.Name (Str.ofString n) p1, .Name (Str.ofString K) p2] [] pos) (eCall (spIsX e (.ref H) b) (lCons (eName n) (lCons (eVal (.ref H)) lNil))) :=
  HE.builtin G.ok hop hi (G.free _ (by decide)) (G.blt bb_isi (by decide)) rfl (HL.cons (HE.name hn hnd) (HL.cons (HE.glob G.ok (v := .ref H) hk hg (fun _ => .ref _) hkd) HL.nil rfl) rfl) rfl
theorem HE.isXT (G : Gl C p) {n : String} {e : Addr} {np p1 p2 pos : Pos} (hop : OpN C k (fun ws => PySem.call (.builtin "isinstance") ws) (spIsX e (.ty "ValueError") true)) (hi : sc.names.lookup (Str.ofString "isinstance") = some .globalImplicit)
    (hn : sc.names.lookup (Str.ofString n) = some .local) (hnd : (Str.ofString n == ("__debug__" : Str)) = false) (hk : sc.names.lookup (Str.ofString "ValueError") = some .globalImplicit) (hg : C.mg (Str.ofString "ValueError") = Option.none) :
    HE C sc k (.Call (.Name (Str.ofString "isinstance") np) [.Name (Str.ofString n) p1, .Name (Str.ofString "ValueError") p2] [] pos) (eCall (spIsX e (.ty "ValueError") true) (lCons (eName n) (lCons (eVal (.ty "ValueError")) lNil))) :=
  HE.builtin G.ok hop hi (G.free _ (by decide)) (G.blt bb_isi (by decide)) rfl (HL.cons (HE.name hn hnd) (HL.cons (HE.gty G.ok hk hg (G.blt bb_ve (by decide)) rfl) HL.nil rfl) rfl) rfl
@[simp] theorem isX_eq {e : Addr} {c : V} {b : Bool} {σ : View} {Q : V → View → Prop} : spIsX e c b [.ref e, c] σ Q = Q (.bool b) σ := propext ⟨fun h => h.2, fun h => ⟨rfl, h⟩⟩
theorem FnAtX.mk (G : Gl C p) (i n : Nat) {f : String} {xs : List String} {j : Nat} {spec : SpecX} {T : STX}
    (hm : (recsOf p)[i]? = some ⟨Str.ofString f, parsAt p n, bodyAt p n, scopeAt p n, posAt p n⟩)
    (hk : (scopeAt p n).kind = .function) (hfr : ((scopeAt p n).names.all fun q => q.2 != .free) = true) (hco : (scopeAt p n).isCoroutine = false) (hgen : (scopeAt p n).isGenerator = false)
    (hbind : ∀ (ws : List Value) (pm code doc : Value), ws.length = xs.length → bindArgs (docDef (Str.ofString f) (parsAt p n) (bodyAt p n) (scopeAt p n) pm code doc) ⟨ws, []⟩ = pure ((xs.map Str.ofString).zip ws))
    (hloc : (xs.all fun x => (scopeAt p n).names.lookup (Str.ofString x) == some .local || (scopeAt p n).names.lookup (Str.ofString x) == some .cell) = true)
    (hT : HSX C (scopeAt p n) j (bodyAt p n) T)
    (hspec : ∀ vs σ Q X, spec vs σ Q X → vs.length = xs.length ∧ T (bindM xs vs none') σ (fin Q) (fun c _ σ' => X c σ')) : FnAtX C j f spec := by
  obtain ⟨a, o, pm, code, doc, h1, h2, h3, h4⟩ := G.fn _ (List.mem_of_getElem? hm)
  refine ⟨a, o, _, h1, h2, h3, FnSoundX.mk G.ok (xs := xs) h2 h3 h4 rfl rfl rfl rfl rfl hk ?_ hco hgen (fun ws hw => hbind ws pm code doc hw) ?_ hT hspec⟩
  · intro q hq
    have := List.all_eq_true.mp hfr q hq
    simpa using this
  · intro x hx
    have := List.all_eq_true.mp hloc x hx
    simp only [Bool.or_eq_true, beq_iff_eq] at this
    exact this
noncomputable def spLawX : SpecX := fun vs σ Q _ => vs = [.script] ∧ (∀ a, σ a = Option.none) ∧ ∀ σ', Q (.bool true) σ'
theorem law_endsX (hz : C.held = Option.none) {f : Addr} {j : Nat} {r : OpenLaw} {args : List WData} {cl : Str → Option Addr} {mean : ExcName → Option Value} (hf : FnSoundX C j f spLawX) (hj : j ≤ 100) (hg : C.s₁.gens = #[])
    (hn : ∀ cls, r.row.claim.raises args cls = false) (hp : r.row.claim.post args (.bool true) args = true) :
    codeAny (model C.prog C.w) callerA (.call (.ref f) ⟨[.ref C.aS], []⟩) (GoodWG r.row.claim cl mean args C.s₁) C.s₁ := by
  refine codeAny_mono (hf callerA C.s₁ (fun _ => Option.none) [.script] [.ref C.aS] (fun v σ => v = .bool true) (fun _ _ => False) (fun w s' => w = .bool true ∧ ∃ σ', RelG C σ' s') (fun _ _ => False) ⟨by rw [hz]; rfl, ?_, ?_⟩ ⟨[], rfl, fun y hy => by cases hy⟩ ⟨⟨_, _, _, rfl⟩, fun _ _ e => e, fun _ _ e => by (cases e), fun _ e => absurd rfl e⟩ (.cons .script .nil) ⟨rfl, fun _ => rfl, fun _ => rfl⟩ ?_ (fun _ _ _ _ _ _ _ h => h)) ?_
  · show 1 + claimMargin + 3 * (j + 1) + 3 < recursionLimit
    have : claimMargin = 300 := rfl
    have : recursionLimit = 1000 := rfl
    omega
  · show 4 + 10 * (j + 1) + 20 < cLine
    unfold cLine
    omega
  · intro v w σ' s' hv R' S' q
    subst q
    cases hv with | bool b => exact ⟨rfl, σ', R'⟩
  · intro res s' h
    cases res with
    | error e => exact h.elim
    | ok fl =>
      cases fl with
      | ret v =>
        obtain ⟨rfl, σ', R'⟩ := h
        obtain ⟨h₁, tk, d₁, e⟩ := R'.rest
        refine GoodW.toG ⟨.inl ⟨_, .bool true, [], rfl, hn, .bool true, hp, fun _ => ⟨List.nodup_nil, fun a h => by cases h⟩⟩, R'.base, ?_, ?_⟩
        · rw [e]
        · rw [e]; exact hg
      | _ => exact h.elim
end
end Mine


end
noncomputable section
set_option autoImplicit false
set_option linter.unusedVariables false
namespace Mine
open PySem PySem.W PyProof.Rows PySem.Calls
section
variable {C : Cx} {sc : Scope} {k : Nat}
noncomputable def spCount : Spec
  | [.str x, .str y], σ, Q => Q (.int (Txt.count x y)) σ
  | _, _, _ => False
@[simp] theorem count_str {x y : Str} {σ : View} {Q : V → View → Prop} : spCount [.str x, .str y] σ Q = Q (.int (Txt.count x y)) σ := rfl
end
noncomputable def otIn (K : Frag) : List Value → Bool
  | [] => false
  | v :: r => (v :: r) == veBases || match v with
    | .ref A => (match K.lookup A with
      | some ⟨_, _, .cls cd, _⟩ => nsOkIn K cd.ns && lookNames.all (fun n => nsIn K cd.ns n == some none) && otIn K r
      | _ => false)
    | _ => false
theorem ot_of_in {K : Frag} {h : Heap} (X : K.In h) : ∀ {l : List Value}, otIn K l = true → OT h l
  | [], e => by cases e
  | v :: r, e => by
    unfold otIn at e
    rcases Bool.or_eq_true_iff.mp e with q | q
    · rw [beq_iff_eq.mp q]; exact .base
    · split at q
      · split at q
        · rename_i ho
          simp only [Bool.and_eq_true] at q
          refine .own (X _ _ ho) (.of_isNs (isNs_of_in X q.1.1)) (fun n hn => nsMap_none_of_in X q.1.1 ?_) (ot_of_in X q.2)
          exact beq_iff_eq.mp (List.all_eq_true.mp q.1.2 n hn)
        · cases q
      · cases q
noncomputable def xcIn (K : Frag) (C : Addr) (bm : List Value) : Bool := match K.lookup C with
  | some ⟨.type "type", _, .cls cd, sl⟩ => (match sl.toList with
    | [_, _, _, _, some (.builtin n), _] => cd.mro == .ref C :: bm && n == "ValueError.__new__" && !cd.hasDel && otIn K bm && nsOkIn K cd.ns && lookNames.all (fun n => nsIn K cd.ns n == some none)
    | _ => false)
  | _ => false
theorem xc_of_in {K : Frag} {h : Heap} {C : Addr} {bm : List Value} (X : K.In h) (q : xcIn K C bm = true) : XC h C bm := by
  unfold xcIn at q
  split at q
  · rename_i dd cd sl ho
    split at q
    · rename_i k0 k1 k2 k3 n k5 hs
      simp only [Bool.and_eq_true, beq_iff_eq, Bool.not_eq_true'] at q
      obtain ⟨⟨⟨⟨⟨hm, rfl⟩, hdel⟩, ht⟩, hok⟩, hni⟩ := q
      obtain ⟨nm, bs, mro, ns, qn, hd, sn, sub, ab, col, del⟩ := cd
      dsimp only at hm hdel hok hni
      subst hm hdel
      have hsl : sl = #[k0, k1, k2, k3, some (.builtin "ValueError.__new__"), k5] := by
        obtain ⟨l⟩ := sl
        simp only at hs
        rw [hs]
      subst hsl
      exact ⟨ns, nm, qn, bs, hd, sn, sub, ab, col, dd, k0, k1, k2, k3, k5, _, X _ _ ho, .of_isNs (isNs_of_in X hok), fun n hn => nsMap_none_of_in X hok (beq_iff_eq.mp (List.all_eq_true.mp hni n hn)), ot_of_in X ht⟩
    · cases q
  · cases q
theorem XC.own {h : Heap} {Cl : Addr} {bm : List Value} {mg : Str → Option Value} {x : Str} (X : XC h Cl bm) (hg : mg x = some (.ref Cl)) : OwnCls x Cl veBases "ValueError.__new__" mg h := by
  obtain ⟨N, nm, q, bs, hdct, sn, sub, ab, col, dd, k0, k1, k2, k3, k5, mN, h1, h2, h3, h4⟩ := X
  exact ⟨hg, bm, N, nm, q, bs, hdct, sn, sub, ab, col, dd, k0, k1, k2, k3, k5, mN, h1, h2, h3 _ (.head _), h4.tail⟩
end Mine


end
noncomputable section
set_option autoImplicit false
set_option linter.unusedVariables false
namespace Mine
open PySem PySem.W PyProof.Rows PySem.Calls
noncomputable def subX (c k : String) : Bool := c == k || k == "RoadError"
/-- the exception classes: those that are raised (cs), those that are asked for (ks) -/
structure XTab (C : Cx) (cs ks : List String) (ad : String → Addr) : Prop where
  at_ : ∀ k ∈ ks, C.mg (Str.ofString k) = some (.ref (ad k)) ∧ ∃ bm, XC C.hB (ad k) bm
  sub : ∀ c ∈ cs, ∃ bm, C.mg (Str.ofString c) = some (.ref (ad c)) ∧ XC C.hB (ad c) bm ∧ bm.contains (.type "ValueError") = true ∧ ∀ k ∈ ks, (Value.ref (ad c) :: bm).contains (.ref (ad k)) = subX c k
  ve : C.mg (Str.ofString "ValueError") = Option.none
section
variable {C : Cx} {sc : Scope} {k : Nat} {p : Program} {cs ks : List String} {ad : String → Addr}
theorem HSX1.raiseAt (G : Gl C p) (hz : C.held = Option.none) (Tb : XTab C cs ks ad) {c : String} (hc : c ∈ cs) {x : Str} {n : Nat} {np ap cpos pos : Pos} (hn : sc.names.lookup (Str.ofString c) = some .globalImplicit) (hdb : (Str.ofString c == ("__debug__" : Str)) = false) :
    HSX1 C sc k (.Raise (some (.Call (.Name (Str.ofString c) np) [.Constant (.str x) n ap] [] cpos)) Option.none pos) (xRaise c) := by
  obtain ⟨bm, h1, h2, _⟩ := Tb.sub c hc
  exact HSX1.raise G.ok hz (h2.own h1) hn hdb
theorem HSX1.tryAt (G : Gl C p) (hz : C.held = Option.none) (Tb : XTab C cs ks ad) {body : List Stmt} {H n : String} {b₀ : Stmt} {suite : List Stmt} {np hpos pos : Pos} {T : STX} {U : Addr → String → ST} (hb : HSX C sc k body T) (hH : H ∈ ks) (hsub : (cs.all fun c => subX c H) = true)
    (hn : sc.names.lookup (Str.ofString H) = some .globalImplicit) (hdb : (Str.ofString H == ("__debug__" : Str)) = false) (hvar : sc.names.lookup (Str.ofString n) = some .local)
    (hs : ∀ (e : Addr) (o : Obj) (vs : Array Value) (c : String), c ∈ cs → C.hB.get? e = Option.none → o.isFreed = false → o.cls = .ref (ad c) → o.data = .fields vs → vs[2]? = some .none → HS (C.hold e o) sc k (b₀ :: suite) (U e c)) :
    HSX1 C sc k (.Try body [.ExceptHandler (some (.Name (Str.ofString H) np)) (some (Str.ofString n)) (b₀ :: suite) hpos] [] [] pos) (xTry n cs T U) := by
  obtain ⟨h1, bmH, h2⟩ := Tb.at_ H hH
  refine HSX1.tryAs G.ok hz hb hn hdb h1 h2 hvar (fun c hc => ?_) fun e o vs c Cc hc hg hez hof hcls hd hv2 => ?_
  · obtain ⟨bm, h3, h4, _, h5⟩ := Tb.sub c hc
    exact ⟨ad c, bm, h3, h4, by rw [h5 H hH]; exact List.all_eq_true.mp hsub c hc⟩
  · obtain ⟨bm, h3, _⟩ := Tb.sub c hc
    rw [h3] at hg; cases hg
    exact hs e o vs c hc hez hof hcls hd hv2
theorem HE.isK (G : Gl C p) (Tb : XTab C cs ks ad) {e : Addr} {o : Obj} {vs : Array Value} {c n K : String} (hc : c ∈ cs) (hez : C.hB.get? e = Option.none) (hof : o.isFreed = false) (hcls : o.cls = .ref (ad c)) (hd : o.data = .fields vs) (h2 : vs[2]? = some .none) (hK : K ∈ ks) {np p1 p2 pos : Pos}
    (hi : sc.names.lookup (Str.ofString "isinstance") = some .globalImplicit) (hn : sc.names.lookup (Str.ofString n) = some .local) (hnd : (Str.ofString n == ("__debug__" : Str)) = false) (hk : sc.names.lookup (Str.ofString K) = some .globalImplicit) (hkd : (Str.ofString K == ("__debug__" : Str)) = false) :
    HE (C.hold e o) sc k (.Call (.Name (Str.ofString "isinstance") np) [.Name (Str.ofString n) p1, .Name (Str.ofString K) p2] [] pos) (eCall (spIsX e (.ref (ad K)) (subX c K)) (lCons (eName n) (lCons (eVal (.ref (ad K))) lNil))) := by
  obtain ⟨h1, bmH, h3⟩ := Tb.at_ K hK
  obtain ⟨bm, h4, h5, _, h6⟩ := Tb.sub c hc
  exact HE.isX (G.hold hez hof hd h2) (ok_isX (hold_at hez hof) hcls (h5.keeps (hold_keeps hez hof)) (h3.keeps (hold_keeps hez hof)) (h6 K hK)) hi hn hnd hk hkd h1
theorem HE.isV (G : Gl C p) (Tb : XTab C cs ks ad) {e : Addr} {o : Obj} {vs : Array Value} {c n : String} (hc : c ∈ cs) (hez : C.hB.get? e = Option.none) (hof : o.isFreed = false) (hcls : o.cls = .ref (ad c)) (hd : o.data = .fields vs) (h2 : vs[2]? = some .none) {np p1 p2 pos : Pos}
    (hi : sc.names.lookup (Str.ofString "isinstance") = some .globalImplicit) (hn : sc.names.lookup (Str.ofString n) = some .local) (hnd : (Str.ofString n == ("__debug__" : Str)) = false) (hk : sc.names.lookup (Str.ofString "ValueError") = some .globalImplicit) :
    HE (C.hold e o) sc k (.Call (.Name (Str.ofString "isinstance") np) [.Name (Str.ofString n) p1, .Name (Str.ofString "ValueError") p2] [] pos) (eCall (spIsX e (.ty "ValueError") true) (lCons (eName n) (lCons (eVal (.ty "ValueError")) lNil))) := by
  obtain ⟨bm, h4, h5, h6, _⟩ := Tb.sub c hc
  exact HE.isXT (G.hold hez hof hd h2) (ok_isXT (hold_at hez hof) hcls (h5.keeps (hold_keeps hez hof)) h6) hi hn hnd hk Tb.ve
end
/- equations -/
section
variable {m : Loc} {σ : View} {Q : Fl → Loc → View → Prop} {X : XT} {R : V → View → Prop} {Y : String → View → Prop}
@[simp] theorem xP_eq {T : ST} : xP T m σ Q X = T m σ Q := rfl
@[simp] theorem xRaise_eq {c : String} : xRaise c m σ Q X = X c m σ := rfl
@[simp] theorem xIf_eq {B : BT} {T U : STX} : xIf B T U m σ Q X = B m σ fun b σ' => if b then T m σ' Q X else U m σ' Q X := rfl
@[simp] theorem xFor_eq {g : Tgt} {I : IT} {T : STX} : xFor g I T m σ Q X = I m σ fun items inv σ' => xforL g inv T items m σ' Q X := rfl
@[simp] theorem xSet_eq {x : String} {T : ETX} : xSet x T m σ Q X = T m σ (fun v σ' => Q .next (put m x v) σ') fun c σ' => X c m σ' := rfl
@[simp] theorem xRet_eq {T : ETX} : xRet T m σ Q X = T m σ (fun v σ' => Q (.ret v) m σ') fun c σ' => X c m σ' := rfl
@[simp] theorem xCall_eq {spec : SpecX} {L : LT} : xCall spec L m σ R Y = L m σ fun vs σ' => spec vs σ' R Y := rfl
@[simp] theorem xPair_eq {T : ET} {U : ETX} : xPair T U m σ R Y = T m σ fun v σ₁ => U m σ₁ (fun u σ₂ => R (.tup [v, u]) σ₂) Y := rfl
@[simp] theorem xTry_eq {n : String} {cs : List String} {T : STX} {U : Addr → String → ST} : xTry n cs T U m σ Q X = T m σ Q fun c m' σ' => c ∈ cs ∧ ∀ e, σ' e = Option.none → U e c (put m' n (.ref e)) σ' fun f m'' σ'' => Q f (cut m'' n) σ'' := rfl
noncomputable def xkont (U : STX) (Q : Fl → Loc → View → Prop) (X : XT) : Fl → Loc → View → Prop := fun f m σ => match f with
  | .next => U m σ Q X
  | f => Q f m σ
theorem xseq_eq (T U : STX) : xSeq T U m σ Q X = T m σ (xkont U Q X) X := rfl
@[simp] theorem xkont_next (U : STX) : xkont U Q X .next m σ = U m σ Q X := rfl
@[simp] theorem xkont_ret (U : STX) (v : V) : xkont U Q X (.ret v) m σ = Q (.ret v) m σ := rfl
@[simp] theorem iList_eq {T : ET} {J : List V → (View → Prop) → View → Prop} : iList T m σ J = T m σ fun v σ' => ∃ a xs, v = .ref a ∧ σ' a = some (.list xs) ∧ J xs (fun σ => σ a = some (.list xs)) σ' := rfl
end
/-- a loop that may raise -/
theorem xforL_inv {g : Tgt} {inv : View → Prop} {T : STX} (I : Nat → Loc → View → Prop) (hinv : ∀ i m σ, I i m σ → inv σ) (items : List V) {Q : Fl → Loc → View → Prop} {X : XT}
    (step : ∀ i v m σ Q', items[i]? = some v → I i m σ → (∀ m' σ', I (i + 1) m' σ' → Q' .next m' σ') → ∃ m', bindT g v m = some m' ∧ T m' σ Q' X)
    (done : ∀ m σ, I items.length m σ → Q .next m σ) : ∀ (m : Loc) (σ : View), I 0 m σ → xforL g inv T items m σ Q X := by
  have key : ∀ (n : Nat) (i : Nat) (m : Loc) (σ : View), n = items.length - i → i ≤ items.length → I i m σ → xforL g inv T (items.drop i) m σ Q X := by
    intro n
    induction n with
    | zero =>
      intro i m σ hn hi h
      have : i = items.length := by omega
      subst this
      rw [List.drop_length]
      exact ⟨hinv _ _ _ h, done m σ h⟩
    | succ n ih =>
      intro i m σ hn hi h
      have hlt : i < items.length := by omega
      rw [List.drop_eq_getElem_cons hlt]
      simp only [xforL]
      exact ⟨hinv _ _ _ h, step i _ m σ _ (List.getElem?_eq_getElem hlt) h fun m' σ' h' => ih (i + 1) m' σ' (by omega) (by omega) h'⟩
  intro m σ h
  have := key items.length 0 m σ (by omega) (by omega) h
  simpa using this
end Mine


end
noncomputable section
set_option autoImplicit false
set_option linter.unusedVariables false
set_option maxRecDepth 100000
namespace Mine
open PySem PySem.W PyProof.Rows PySem.Calls

/-- the class Book of the text -/
structure Bk (C : Cx) (bk N : Addr) (mN : Str → Option Value) : Prop where
  glob : C.mg (Str.ofString "Book") = some (.ref bk)
  cls : ClsAt C.hB bk N mN
  look : ∀ n ∈ (["__getattribute__", "__getattr__", "__setattr__", "trees", "made_of"] : List String), mN (Str.ofString n) = none
/-- a method of the class that keeps its contract -/
noncomputable def MtAt (C : Cx) (mN : Str → Option Value) (j : Nat) (f : String) (spec : Spec) : Prop :=
  ∃ a o fd, mN (Str.ofString f) = some (.ref a) ∧ C.hB.get? a = some o ∧ o.cls = .type "function" ∧ o.data = .func fd ∧ FnSound C j a spec
noncomputable def MtAtX (C : Cx) (mN : Str → Option Value) (j : Nat) (f : String) (spec : SpecX) : Prop :=
  ∃ a o fd, mN (Str.ofString f) = some (.ref a) ∧ C.hB.get? a = some o ∧ o.cls = .type "function" ∧ o.data = .func fd ∧ FnSoundX C j a spec
section
variable {C : Cx} {bk N : Addr} {mN : Str → Option Value} {sc : Scope} {k : Nat}
theorem cls_elim {h : Heap} {Cl N : Addr} {mN : Str → Option Value} {P : Prop} (X : ClsAt h Cl N mN)
    (k : ∀ (nm q : Str) (bs : List Value) (sn : List Str) (sub : List Value) (col : Option Bool) (dd : Option Addr) (k0 k1 k2 k3 k5 : Option Value), h.get? Cl = some (excClassObj nm q Cl N bs [.type "object"] true sn sub false col dd k0 k1 k2 k3 k5 "object.__new__") → P) : P := by
  obtain ⟨nm, q, bs, sn, sub, col, dd, k0, k1, k2, k3, k5, hC⟩ := X.obj
  exact k nm q bs sn sub col dd k0 k1 k2 k3 k5 hC
theorem inst_heap {σ : View} {s : Shared} {a dx : Addr} {fs : List (String × V)} (B : Bk C bk N mN) (R : RelG C σ s) (ha : σ a = some (.inst dx)) (hd : σ dx = some (.ns fs)) :
    fs.length ≤ 1000 ∧ ∃ mA, s.heap.Inst a bk mA ∧ s.heap.get? a = some { cls := .ref bk, dict := some dx, data := .plain } ∧ (∀ x v, fs.lookup x = some v → ∃ w, mA (Str.ofString x) = some w ∧ VRel C.aS s.heap v w) ∧ ∀ y : Str, (∀ q ∈ fs, y ≠ Str.ofString q.1) → mA y = none := by
  obtain ⟨cl, h1, h2, h3⟩ := R.view _ _ ha
  rw [B.glob] at h1; cases h1
  obtain ⟨hz, mA, h4, h5, h6⟩ := R.view _ _ hd
  exact ⟨hz, mA, ⟨_, h3, rfl, fun c => by simp, .inr ⟨dx, rfl, h2, h4⟩⟩, h3, h5, h6⟩
theorem lookup_off {fs : List (String × V)} {x : String} (h : fs.lookup x = none) : ∀ q ∈ fs, Str.ofString x ≠ Str.ofString q.1 := by
  induction fs with
  | nil => intro q hq; cases hq
  | cons p r ih =>
    intro q hq e
    rw [List.lookup_cons] at h
    split at h
    · cases h
    · rename_i hb
      rcases List.mem_cons.mp hq with rfl | hq
      · have := ofString_inj e
        rw [this] at hb
        simp at hb
      · exact ih h q hq e
noncomputable def objLooks (x : String) : Prop := typeLookup (.type "object") (Str.ofString x) = pure none
/-- o.x -/
noncomputable def eAttr (x : String) (T : ET) : ET := fun m σ Q => T m σ fun v σ' => ∃ a dx fs t, v = .ref a ∧ σ' a = some (.inst dx) ∧ σ' dx = some (.ns fs) ∧ fs.lookup x = some (.ref t) ∧ Q (.ref t) σ'
theorem HE.attr (B : Bk C bk N mN) {x : String} {o : Expr} {pos : Pos} {T : ET} (hx : objLooks x) (hn : mN (Str.ofString x) = Option.none) (ho : HE C sc k o T)
    (hbase : ∀ env, attributeBase o (Str.ofString x) env (eval o env) = eval o env) : HE C sc k (.Attribute o (Str.ofString x) pos) (eAttr x T) := by
  refine ⟨?_⟩; intro env A s m σ Q P E en ao R F q hP
  rw [arm_eval_Attribute, hbase]
  refine wpAny_bind (ho.run env A s m σ _ _ E en ao R F q fun v w σ₁ s₁ hv R₁ S₁ q₁ => ?_)
  obtain ⟨a, dx, fs, t, rfl, ha, hd, hl, q₁⟩ := q₁
  cases hv
  obtain ⟨_, mA, hI, _, hm, _⟩ := inst_heap B R₁ ha hd
  obtain ⟨w, hw, hr⟩ := hm _ _ hl
  cases hr
  refine wpAny_bind (wpAny_standAt (wpAny_bind (wpAny_holding ?_)))
  have hcl := B.cls.keeps R₁.base
  obtain ⟨hh, g, d, tk, os⟩ := s₁
  refine cls_elim hcl fun nm q bs sn sub col dd k0 k1 k2 k3 k5 hC => ?_
  refine load_attr hC hcl.ns (B.look "__getattribute__" (by decide)) hn hx hI hw rfl ?_
  exact wpAny_bind (wpAny_letTemporaryGo (wpAny_pure (hP _ _ σ₁ _ (.ref _) (R₁.tok _) S₁ q₁)))
/-- the view's object at a is turned -/
theorem RelG.turn {σ : View} {s : Shared} {h' : Heap} {tk : Nat} {a : Addr} {o o' : AObj} (R : RelG C σ s) (ha : σ a = some o) (hk : ∀ b ob, b ≠ a → s.heap.get? b = some ob → h'.get? b = some ob) (ho : ObjRel C h' a o') :
    RelG C (upd σ a o') { s with heap := h', toks := tk } := by
  obtain ⟨ob, h1, h2, _⟩ := (R.view a o ha).shape
  have kt : TupKeep s.heap h' := fun b o eb ht => hk b o (by rintro rfl; rw [h1] at eb; cases eb; exact h2 ht) eb
  refine ⟨let ⟨_, _, d, e⟩ := R.rest; ⟨h', tk, d, by rw [e]⟩, fun b o e => hk b o (by rintro rfl; rw [R.apart b (by rw [ha]; simp)] at e; cases e) (R.base b o e), fun b ob e => ?_, fun b hb => ?_⟩
  · by_cases q : b = a
    · subst q; rw [upd_same] at e; cases e; exact ho
    · rw [upd_ne q] at e; exact (R.view b ob e).keep kt fun o e => hk b o q e
  · by_cases q : b = a
    · subst q; exact R.apart b (by rw [ha]; simp)
    · rw [upd_ne q] at hb; exact R.apart b hb
theorem Step.turn {own : Addr → Prop} {σ : View} {h h' : Heap} {a : Addr} {o o' : AObj} (ha : σ a = some o) (hk : ∀ b ob, b ≠ a → h.get? b = some ob → h'.get? b = some ob) (hz : h.objs.size ≤ h'.objs.size) : Step own σ (upd σ a o') h h' :=
  .of (fun b o e n _ => hk b o (by rintro rfl; rw [ha] at n; cases n) e) hz fun b n m => by
    by_cases q : b = a
    · subst q; rw [ha] at n; cases n
    · rw [upd_ne q] at m; exact absurd n m
theorem within_of {fs : List (String × V)} {mA : Str → Option Value} (h : ∀ y : Str, (∀ q ∈ fs, y ≠ Str.ofString q.1) → mA y = none) : Within mA (fs.map fun q => Str.ofString q.1) := by
  intro n e
  apply Classical.byContradiction
  intro hn
  exact e (h n fun q hq z => hn (List.mem_map.mpr ⟨q, hq, z.symm⟩))
/-- o.x = e -/
noncomputable def sSetA (x : String) (T To : ET) : ST := fun m σ Q => T m σ fun v σ₁ => To m σ₁ fun o σ₂ => ∃ a dx fs, o = .ref a ∧ σ₂ a = some (.inst dx) ∧ σ₂ dx = some (.ns fs) ∧ fs.length < 1000 ∧ Q .next m (upd σ₂ dx (.ns ((x, v) :: fs)))
theorem HS1.setA (B : Bk C bk N mN) {x : String} {o value : Expr} {pos' pos : Pos} {T To : ET} (hx : objLooks x) (hn : mN (Str.ofString x) = Option.none) (he : HE C sc k value T) (ho : HE C sc k o To)
    (hs : ∀ env, EnvOk env sc → swapsWith value (some (.Attribute o (Str.ofString x) pos')) pos.line env = pure false) : HS1 C sc k (.Assign [.Attribute o (Str.ofString x) pos'] value pos) (sSetA x T To) := by
  refine ⟨?_⟩; intro env A s m σ Q P E en ao R F q hP
  refine plainObj_wpAny_Assign_Attribute (he.run env A s m σ _ _ E en ao R F q fun v w σ₁ s₁ hv R₁ S₁ q₁ => ho.run env A s₁ m σ₁ _ _ E en ao R₁ (F.step R S₁) q₁ fun u wo σ₂ s₂ hvo R₂ S₂ q₂ => ?_) (hs env en)
  obtain ⟨a, dx, fs, rfl, ha, hd, hz, q₂⟩ := q₂
  cases hvo
  obtain ⟨_, mA, hI, hoa, hm, hno⟩ := inst_heap B R₂ ha hd
  have hv₂ := hv.keep (S₂.tupsN R₁)
  have hcl := B.cls.keeps R₂.base
  have F₂ := F.step R (S₁.trans S₂)
  have hxC : a ≠ bk := cls_elim B.cls fun nm q bs sn sub col dd k0 k1 k2 k3 k5 hC₀ => by rintro rfl; rw [R₂.apart a (by rw [ha]; simp)] at hC₀; cases hC₀
  refine with_size ?_
  obtain ⟨hh, g, d, tk, os⟩ := s₂
  refine cls_elim hcl fun nm q bs sn sub col dd k0 k1 k2 k3 k5 hC => ?_
  refine store_attr PySem.F.store_object hC hcl.ns (B.look "__setattr__" (by decide)) hn hx hxC hI (fun h' tk' I' hk hsame hsz => ?_) (within_of hno) (by rw [List.length_map, sizeLine_eq]; omega)
  obtain ⟨o₁, e₁, c₁, dt₁, sl₁, dk₁⟩ := hsame _ hoa
  have ho₁ : o₁ = { cls := .ref bk, dict := some dx, data := .plain } := by
    obtain ⟨oc, od, odt, osl⟩ := o₁
    have := dk₁ dx rfl
    dsimp only at c₁ dt₁ sl₁ this
    subst c₁ dt₁ sl₁ this
    rfl
  subst ho₁
  have hk' : ∀ b ob, b ≠ dx → hh.get? b = some ob → h'.get? b = some ob := fun b ob hb e => by
    by_cases hba : b = a
    · subst hba
      have : hh.get? b = _ := hoa
      rw [this] at e; cases e; exact e₁
    · exact hk b ob hba (fun o₀ d' e₀ ed => by
        have h9 : hh.get? a = _ := hoa
        rw [h9] at e₀; cases e₀; cases ed; exact hb) e
  obtain ⟨ob, hob, hnT, _⟩ := (R₂.view dx _ hd).shape
  have kt : TupKeep hh h' := fun b o eb ht => hk' b o (by
    rintro rfl
    have h9 : hh.get? b = _ := hob
    rw [h9] at eb; cases eb; exact hnT ht) eb
  obtain ⟨o', e', _, _, hd'⟩ := I'
  rw [e₁] at e'; cases e'
  rcases hd' with ⟨hn0, _⟩ | ⟨d', hd', _, hns'⟩
  · cases hn0
  cases hd'
  have hobj : ObjRel C h' dx (.ns ((x, v) :: fs)) := by
    refine ⟨by simp; omega, _, hns', fun y u e => ?_, fun y hy => ?_⟩
    · rw [List.lookup_cons] at e
      split at e
      · rename_i hb
        cases e
        have : y = x := by simpa using hb
        subst this
        exact ⟨w, by simp, hv₂.keep kt⟩
      · rename_i hb
        have hyx : y ≠ x := by simpa using hb
        obtain ⟨w', h8, h9⟩ := hm y u e
        exact ⟨w', by simp [show ¬ Str.ofString y = Str.ofString x from fun z => hyx (ofString_inj z), h8], h9.keep kt⟩
    · simp [hy (x, v) (.head _), hno y fun q hq => hy q (.tail _ hq)]
  have R₃ := R₂.turn (tk := tk') hd hk' hobj
  have S₃ : Step no σ₂ (upd σ₂ dx (.ns ((x, v) :: fs))) hh h' := .turn hd hk' hsz
  exact hP .next .next m _ _ .next R₃ (F₂.step R₂ S₃) ((S₁.trans S₂).trans S₃).own q₂
/-- o.f(..), f a method of the class -/
noncomputable def eMCall (f : String) (spec : Spec) (T : ET) (L : LT) : ET := fun m σ Q => T m σ fun v σ₁ => (∃ a dx fs, v = .ref a ∧ σ₁ a = some (.inst dx) ∧ σ₁ dx = some (.ns fs) ∧ fs.lookup f = none) ∧ L m σ₁ fun vs σ₂ => spec (v :: vs) σ₂ Q
theorem call_all {es : List Expr} {env : Env} {pos : Pos} (hp : plainArgs es = true) (hfew : es.length < 30) : methodCallForm (es.length + ([] : List Keyword).length) (backTo pos (starEach es env)) (backToKw pos (keywordEach [] env)) = true := by
  have hall : (backTo pos (starEach es env)).all (fun x => !x.1) = true := by
    have := starEach_any (env := env) (pos := pos) hp
    rw [List.any_eq_false] at this
    rw [List.all_eq_true]
    intro x hx
    have := this x hx
    simp at this
    simp [this]
  unfold methodCallForm
  rw [hall]
  simp [backToKw, keywordEach]; omega
theorem meth_get {σ₁ : View} {s₁ : Shared} {A : Around} {E : Value → Shared → Prop} {pl : Sem Bool} {f : String} {a dx fa : Addr} {fs : List (String × V)} {of : Obj} {y : Option Value} (B : Bk C bk N mN) (R₁ : RelG C σ₁ s₁) (hmf : mN (Str.ofString f) = some (.ref fa)) (hof : C.hB.get? fa = some of) (hfc : of.cls = .type "function") (hB : typeLookup (.type "object") (Str.ofString f) = pure y)
    (ha : σ₁ a = some (.inst dx)) (hd : σ₁ dx = some (.ns fs)) (hl0 : fs.lookup f = none) {Q : Value × List Value → Shared → Prop} (q : Q (.ref fa, [.ref a]) s₁) : wpAny (model C.prog C.w) A (getMethod (.ref a) (Str.ofString f) pl) Q E s₁ := by
  obtain ⟨_, mA, hI, _, _, hno⟩ := inst_heap B R₁ ha hd
  have hcl := B.cls.keeps R₁.base
  have hfh := R₁.base _ _ hof
  obtain ⟨hh, g, d, tk, os⟩ := s₁
  refine cls_elim hcl fun nm q' bs sn sub col dd k0 k1 k2 k3 k5 hC => ?_
  exact method_of hC hcl.ns (B.look "__getattribute__" (by decide)) (B.look "__getattr__" (by decide)) hmf hfh hfc hB hI (hno _ (lookup_off hl0)) q
theorem HE.mcall (O : C.Ok) (B : Bk C bk N mN) {f : String} {o : Expr} {apos pos : Pos} {es : List Expr} {spec : Spec} {To : ET} {L : LT} {j : Nat} {y : Option Value} (hf : MtAt C mN j f spec) (hj : j < k) (hB : typeLookup (.type "object") (Str.ofString f) = pure y) (ho : HE C sc k o To) (hl : HL C sc k es L) (hp : plainArgs es = true)
    (hbase : ∀ env, attributeBase o (Str.ofString f) env (eval o env) = eval o env) (hline : (apos.endLine == pos.line) = true) (hfew : es.length < 30) : HE C sc k (.Call (.Attribute o (Str.ofString f) apos) es [] pos) (eMCall f spec To L) := by
  obtain ⟨fa, of, fd, hmf, hof, hfc, hfd, hS⟩ := hf
  refine ⟨?_⟩; intro env A s m σ Q P E en ao R F q hP
  rw [arm_eval_Call, hbase]
  refine wpAny_bind (ho.run env A s m σ _ _ E en ao R F q fun v w σ₁ s₁ hv R₁ S₁ q₁ => ?_)
  obtain ⟨⟨a, dx, fs, rfl, ha, hd, hl0⟩, q₁⟩ := q₁
  have hv' := hv
  cases hv'
  refine wpAny_bind (wpAny_standAt ?_)
  have hpos : methodCallPos true o env apos pos = pure pos := by unfold methodCallPos; simp [hline]
  unfold methodCall
  rw [call_all hp hfew]
  refine wpAny_bind (wpAny_holding ?_)
  show wpAny _ A (getMethod (.ref a) (Str.ofString f) _) _ E s₁
  refine meth_get B R₁ hmf hof hfc hB ha hd hl0 ?_
  refine wpAny_bind (wpAny_of_eq hpos ?_)
  show wpAny _ A (callWith pos (.ref fa) [.ref a] (backTo pos (starEach es env)) []) P E s₁
  refine Calls.callWith_function (o := of) (fd := fd) (evalArgs_of hp (hl.run env A s₁ m σ₁ pos _ _ E en ao R₁ (F.step R S₁) q₁ fun vs ws σ₂ s₂ hvs R₂ S₂ q₂ => ⟨⟨R₂.base _ _ hof, hfd⟩, ?_⟩))
  exact wpAny_call (hS A s₂ σ₂ (.ref a :: vs) (.ref a :: ws) Q P E (ao.le hj) R₂ (.cons (.ref a) hvs) q₂ fun v w σ' s' hv' R' S' q' => hP v w σ' s' hv' R' ((S₁.trans S₂).trans S') q')
noncomputable def xMCall (f : String) (spec : SpecX) (T : ET) (L : LT) : ETX := fun m σ Q X => T m σ fun v σ₁ => (∃ a dx fs, v = .ref a ∧ σ₁ a = some (.inst dx) ∧ σ₁ dx = some (.ns fs) ∧ fs.lookup f = none) ∧ L m σ₁ fun vs σ₂ => spec (v :: vs) σ₂ Q X
theorem HEX.mcall (O : C.Ok) (B : Bk C bk N mN) {f : String} {o : Expr} {apos pos : Pos} {es : List Expr} {spec : SpecX} {To : ET} {L : LT} {j : Nat} {y : Option Value} (hf : MtAtX C mN j f spec) (hj : j < k) (hB : typeLookup (.type "object") (Str.ofString f) = pure y) (ho : HE C sc k o To) (hl : HL C sc k es L) (hp : plainArgs es = true)
    (hbase : ∀ env, attributeBase o (Str.ofString f) env (eval o env) = eval o env) (hline : (apos.endLine == pos.line) = true) (hfew : es.length < 30) : HEX C sc k (.Call (.Attribute o (Str.ofString f) apos) es [] pos) (xMCall f spec To L) := by
  obtain ⟨fa, of, fd, hmf, hof, hfc, hfd, hS⟩ := hf
  refine ⟨?_⟩; intro env A s m σ Q X P E en ao R F W q hP hX
  rw [arm_eval_Call, hbase]
  refine wpAny_bind (ho.run env A s m σ _ _ E en ao R F q fun v w σ₁ s₁ hv R₁ S₁ q₁ => ?_)
  obtain ⟨⟨a, dx, fs, rfl, ha, hd, hl0⟩, q₁⟩ := q₁
  have hv' := hv
  cases hv'
  refine wpAny_bind (wpAny_standAt ?_)
  have hpos : methodCallPos true o env apos pos = pure pos := by unfold methodCallPos; simp [hline]
  unfold methodCall
  rw [call_all hp hfew]
  refine wpAny_bind (wpAny_holding ?_)
  show wpAny _ A (getMethod (.ref a) (Str.ofString f) _) _ E s₁
  refine meth_get B R₁ hmf hof hfc hB ha hd hl0 ?_
  refine wpAny_bind (wpAny_of_eq hpos ?_)
  show wpAny _ A (callWith pos (.ref fa) [.ref a] (backTo pos (starEach es env)) []) P E s₁
  refine Calls.callWith_function (o := of) (fd := fd) (evalArgs_of hp (hl.run env A s₁ m σ₁ pos _ _ E en ao R₁ (F.step R S₁) q₁ fun vs ws σ₂ s₂ hvs R₂ S₂ q₂ => ⟨⟨R₂.base _ _ hof, hfd⟩, ?_⟩))
  have S₁₂ := S₁.trans S₂
  have W₂ := W.step (S₁₂.own (env := env))
  exact wpAny_call (hS A s₂ σ₂ (.ref a :: vs) (.ref a :: ws) Q X P E (ao.le hj) (W₂.fs (F.step R S₁₂) en.k) R₂ (.cons (.ref a) hvs) q₂ (fun v w σ' s' hv' R' S' q' => hP v w σ' s' hv' R' (S₁₂.trans S') q') fun c e σ' s' fl R' S' x => hX c e σ' s' (fl.less S₁₂.size) R' (S₁₂.trans S') x)
end
end Mine


end
noncomputable section
set_option autoImplicit false
set_option linter.unusedVariables false
set_option maxRecDepth 100000
namespace Mine
open PySem PySem.W PyProof.Rows PySem.Calls
/-- the heap with a new instance of the class at Cl -/
abbrev instHeap (h : Heap) (Cl : Addr) : Heap := (h.push { cls := .type "dict", data := .dict #[] }).push { cls := .ref Cl, dict := some h.objs.size, data := .plain }
section
variable {prog : Program} {w : World} {A : Around} {E : Value → Shared → Prop} {h : Heap} {g : Array GenState} {d : Drawn} {t : Nat} {os : OsState}
variable {nm q : Str} {Cl N : Addr} {bs : List Value} {sn : List Str} {sub : List Value} {col : Option Bool} {dd : Option Addr} {k0 k1 k2 k3 k5 : Option Value}
theorem make_type {mN : Str → Option Value} {fI : Addr} {oI : Obj} {Q : Fin → Shared → Prop}
    (hC : h.get? Cl = some (excClassObj nm q Cl N bs [.type "object"] true sn sub false col dd k0 k1 k2 k3 k5 "object.__new__")) (hn : h.Ns N mN) (hi : mN "__init__" = some (.ref fI))
    (hfI : h.get? fI = some oI) (hfc : oI.cls = .type "function")
    (hq : wpAny (model prog w) A (call (.ref fI) [.ref (h.objs.size + 1)]) (fun r s' => r = .none ∧ Q (.done (.ret (.ref (h.objs.size + 1)))) s') E ⟨instHeap h Cl, g, d, t, os⟩) :
    wpAny (model prog w) A (Builtin.«type.__call__» ⟨[.ref Cl], []⟩) Q E ⟨h, g, d, t, os⟩ := by
  have hlk : typeLookup (.type "object") "__init__" = pure (some (.builtin "object.__init__")) := by rw [typeLookup_type, builtinLookup_eq_fast]; kernel_rfl
  have O := PySem.F.objNew
  repeat (first | with_reducible refine wpAny_loadPart_at hC ?_ | with_reducible refine wpAny_madeBy_exc hC ?_ | wp_step)
  refine codeAny_call_builtin_code (Code.quiet_builtin _ O.quiet) (wpAny_check_obj_new O hC (codeAny_obj_new O hC hn hi ?_))
  show wpAny _ _ _ _ _ _
  have old : ∀ b o, h.get? b = some o → (instHeap h Cl).get? b = some o := fun b o e => Heap.get?_push_of_some _ (Heap.get?_push_of_some _ e)
  have hx : (instHeap h Cl).get? (h.objs.size + 1) = some { cls := .ref Cl, dict := some h.objs.size, data := .plain } := by heap_get
  have hcC : (Value.ref Cl :: [Value.type "object"]).contains (.ref Cl) = true := by simp
  unfold isInstance
  repeat (first | with_reducible refine wpAny_loadPart_at hx ?_ | (with_reducible refine wpAny_isSubtype_exc (old _ _ hC) ?_; rw [hcC]) | wp_step)
  show wpAny _ _ (typeLookup (.ref Cl) _) _ _ _
  refine wpAny_typeLookup_exc (old _ _ hC) (hn.keeps old) PySem.F.mro_object hlk ?_
  rw [hi]
  refine wpAny_holding (wpAny_bind ?_)
  unfold bindSpecial
  refine wpAny_bind (wpAny_typeOf (T := "function") ⟨_, old _ _ hfI, hfc⟩ ?_)
  rw [if_pos (by decide)]
  refine wpAny_pure (wpAny_bind (wpAny_mono hq (fun r s' hr => ?_) fun _ _ x => x))
  obtain ⟨rfl, hQ⟩ := hr
  wp_walk
  exact hQ
theorem make_call {mN : Str → Option Value} {fI : Addr} {oI : Obj} {Q : Value → Shared → Prop}
    (hC : h.get? Cl = some (excClassObj nm q Cl N bs [.type "object"] true sn sub false col dd k0 k1 k2 k3 k5 "object.__new__")) (hn : h.Ns N mN) (hi : mN "__init__" = some (.ref fI))
    (hfI : h.get? fI = some oI) (hfc : oI.cls = .type "function")
    (hq : wpAny (model prog w) (A.under (.builtin "type.__call__" ⟨[.ref Cl], []⟩)) (call (.ref fI) [.ref (h.objs.size + 1)]) (fun r s' => r = .none ∧ Q (.ref (h.objs.size + 1)) s') E ⟨instHeap h Cl, g, d, t, os⟩) :
    wpAny (model prog w) A (call (.ref Cl) []) Q E ⟨h, g, d, t, os⟩ := by
  have f1 := tc_lookup
  have f2 := tc_bind (.ref Cl)
  have hT : (⟨h, g, d, t, os⟩ : Shared).TypeIs (.ref Cl) "type" := ⟨_, hC, rfl⟩
  refine wpAny_call (codeAny_of_tree ?_)
  show wpAny _ _ (callAny (.ref Cl) _) _ _ _
  repeat (any_goals (first | assumption | with_reducible refine wpAny_loadPart_at hC ?_ | wp_step))
  refine ⟨rfl, ?_⟩
  exact codeAny_call_builtin_at (Code.quiet_builtin _ (by decide +kernel)) entry_typeCall (wpAny_check_type_call_sub hC (make_type hC hn hi hfI hfc hq))
end
section
variable {C : Cx} {bk N : Addr} {mN : Str → Option Value} {sc : Scope} {k : Nat}
/-- Book() -/
noncomputable def eNew (spec : Spec) : ET := fun _ σ Q => ∀ a dx, σ a = none → σ dx = none → dx ≠ a → spec [.ref a] (upd (upd σ dx (.ns [])) a (.inst dx)) fun r σ' => r = .none ∧ Q (.ref a) σ'
theorem HE.new (O : C.Ok) (B : Bk C bk N mN) {spec : Spec} {j : Nat} {np pos : Pos} (hf : MtAt C mN j "__init__" spec) (hj : j + 1 < k) (hn : sc.names.lookup (Str.ofString "Book") = some .globalImplicit) :
    HE C sc k (.Call (.Name (Str.ofString "Book") np) [] [] pos) (eNew spec) := by
  obtain ⟨fa, of, fd, hmf, hof, hfc, hfd, hS⟩ := hf
  refine ⟨?_⟩; intro env A s m σ Q P E en ao R F q hP
  refine wpAny_Call_NameR (Calls.Name_function_global en.k (en.of hn) (Calls.loadGlobal_global (mg := C.mg) (by rw [en.globals]; exact O.g.keeps R.base) B.glob ?_) (by decide))
  refine callWith_cls0 B.cls R.base ?_
  have hcl := B.cls.keeps R.base
  have hfh := R.base _ _ hof
  have n0 := size_none s.heap
  have n1 : s.heap.get? (s.heap.objs.size + 1) = Option.none := get_none_of_size (Nat.le_succ _)
  have hq := q (s.heap.objs.size + 1) s.heap.objs.size (R.freshNone n1) (R.freshNone n0) (Nat.ne_of_lt (Nat.lt_succ_self _))
  have old : ∀ b o, s.heap.get? b = some o → (instHeap s.heap bk).get? b = some o := fun b o e => Heap.get?_push_of_some _ (Heap.get?_push_of_some _ e)
  have gd : (s.heap.push { cls := .type "dict", data := .dict #[] }).get? s.heap.objs.size = some { cls := .type "dict", data := .dict #[] } := Heap.get?_push_size _ rfl
  have R₁ : RelG C (upd σ s.heap.objs.size (.ns [])) { s with heap := s.heap.push { cls := .type "dict", data := .dict #[] } } :=
    R.add (tk := s.toks) push_old n0 ⟨by simp, fun _ => Option.none, Heap.Ns1.of_empty ⟨_, #[], _, gd, rfl, fun e he => absurd he (by simp), fun _ => rfl⟩, fun x v e => by simp at e, fun _ _ => rfl⟩
  have gx : (instHeap s.heap bk).get? (s.heap.objs.size + 1) = some { cls := .ref bk, dict := some s.heap.objs.size, data := .plain } := by
    have := Heap.get?_push_size (s.heap.push { cls := .type "dict", data := .dict #[] }) (o := { cls := .ref bk, dict := some s.heap.objs.size, data := .plain }) rfl
    rw [Heap.size_push] at this; exact this
  have R₂ : RelG C (upd (upd σ s.heap.objs.size (.ns [])) (s.heap.objs.size + 1) (.inst s.heap.objs.size)) { s with heap := instHeap s.heap bk } :=
    R₁.add (tk := s.toks) push_old (get_none_of_size (by rw [Heap.size_push]; exact Nat.le_refl _)) ⟨bk, B.glob, Nat.ne_of_lt (Nat.lt_succ_self _), gx⟩
  have S₂ : Step no σ (upd (upd σ s.heap.objs.size (.ns [])) (s.heap.objs.size + 1) (.inst s.heap.objs.size)) s.heap (instHeap s.heap bk) :=
    (Step.addPush (o := .ns [])).trans (.add (fun _ _ e => Heap.get?_push_of_some _ e) (by unfold instHeap; simp only [Heap.size_push]; omega) (by rw [Heap.size_push]; exact Nat.le_refl _))
  obtain ⟨hh, g, d, tk, os⟩ := s
  refine cls_elim hcl fun nm q' bs sn sub col dd k0 k1 k2 k3 k5 hC => ?_
  refine make_call hC hcl.ns hmf hfh hfc ?_
  refine wpAny_call (hS _ _ _ [.ref (hh.objs.size + 1)] [.ref (hh.objs.size + 1)] _ (fun r s' => r = .none ∧ P (.ref (hh.objs.size + 1)) s') E ?_ R₂ (.cons (.ref _) .nil) hq fun v w σ' s' hv R' S' q' => ?_)
  · refine ⟨?_, ?_, ?_⟩
    · exact ao.handled
    · have := ao.depth
      show A.depth + 1 + 3 * (j + 1) + 3 < recursionLimit
      omega
    · have := ao.units
      have e : (A.under (.builtin "type.__call__" ⟨[.ref bk], []⟩)).units ≤ A.units + 5 := by
        simp only [Around.under]
        show A.units + _ ≤ A.units + 5
        exact Nat.add_le_add_left (show (Code.builtin "type.__call__" { pos := [Value.ref bk] }).cUnits ≤ 5 from Nat.le_of_ble_eq_true rfl) _
      omega
  · obtain ⟨rfl, q'⟩ := q'
    cases hv
    exact ⟨rfl, hP _ _ σ' s' (.ref _) R' (S₂.trans S') q'⟩
end
end Mine


end
noncomputable section
set_option autoImplicit false
set_option linter.unusedVariables false
namespace Mine
open PySem PySem.W PyProof.Rows PySem.Calls
/- dicts with ints as keys -/
noncomputable def istored (kvs : List (Int × V)) (k : Int) (v : V) : List (Int × V) :=
  if kvs.any (fun kv => kv.1 = k) then kvs.map (fun kv => if kv.1 = k then (kv.1, v) else kv) else kvs ++ [(k, v)]
noncomputable def iget (kvs : List (Int × V)) (k : Int) : Option V := (kvs.find? fun kv => kv.1 = k).map (·.2)
section
variable {aS : Addr} {h : Heap}
theorem PRel.anyI : ∀ {a : List (Int × V)} {b : List (Int × Value)} (k : Int), PRel aS h a b → (a.any fun kv => kv.1 = k) = (b.any fun kv => kv.1 = k)
  | [], [], _, _ => rfl
  | (_, _) :: _, (_, _) :: _, k, ⟨e, _, r⟩ => by simp only [List.any_cons, e, PRel.anyI k r]
theorem PRel.appendI : ∀ {a a' : List (Int × V)} {b b' : List (Int × Value)}, PRel aS h a b → PRel aS h a' b' → PRel aS h (a ++ a') (b ++ b')
  | [], _, [], _, _, x => x
  | (_, _) :: _, _, (_, _) :: _, _, ⟨e, v, r⟩, x => ⟨e, v, PRel.appendI r x⟩
theorem PRel.mapSetI {k : Int} {v : V} {w : Value} (hv : VRel aS h v w) : ∀ {a : List (Int × V)} {b : List (Int × Value)}, PRel aS h a b → PRel aS h (a.map fun kv => if kv.1 = k then (kv.1, v) else kv) (b.map fun kv => if kv.1 = k then (kv.1, w) else kv)
  | [], [], _ => trivial
  | (x, u) :: _, (y, z) :: _, ⟨e, q, r⟩ => by
    simp only [List.map_cons]
    by_cases c : x = k
    · rw [if_pos c, if_pos (e ▸ c)]; exact ⟨e, hv, PRel.mapSetI hv r⟩
    · rw [if_neg c, if_neg (e ▸ c)]; exact ⟨e, q, PRel.mapSetI hv r⟩
theorem PRel.storedI {k : Int} {v : V} {w : Value} {a : List (Int × V)} {b : List (Int × Value)} (x : PRel aS h a b) (hv : VRel aS h v w) : PRel aS h (istored a k v) (PySem.stored b k w) := by
  unfold istored PySem.stored
  rw [x.anyI k]
  split
  · exact x.mapSetI hv
  · exact x.appendI ⟨rfl, hv, trivial⟩
theorem PRel.findI {k : Int} : ∀ {a : List (Int × V)} {b : List (Int × Value)}, PRel aS h a b → ∀ {v : V}, iget a k = some v → ∃ w, valueAt b k = some w ∧ VRel aS h v w
  | [], [], _, v, e => by simp [iget] at e
  | (x, u) :: _, (y, z) :: _, ⟨e, q, r⟩, v, hv => by
    unfold iget at hv
    unfold valueAt
    by_cases c : x = k
    · rw [List.find?_cons_of_pos (by simpa using c)] at hv
      rw [List.find?_cons_of_pos (by simpa using e ▸ c)]
      cases hv; exact ⟨z, rfl, q⟩
    · rw [List.find?_cons_of_neg (by simpa using c)] at hv
      rw [List.find?_cons_of_neg (by simpa using e ▸ c)]
      exact PRel.findI r hv
theorem PRel.noneI {k : Int} : ∀ {a : List (Int × V)} {b : List (Int × Value)}, PRel aS h a b → (iget a k).isSome = (valueAt b k).isSome
  | [], [], _ => rfl
  | (x, u) :: _, (y, z) :: _, ⟨e, q, r⟩ => by
    unfold iget valueAt
    by_cases c : x = k
    · rw [List.find?_cons_of_pos (by simpa using c), List.find?_cons_of_pos (by simpa using e ▸ c)]; rfl
    · rw [List.find?_cons_of_neg (by simpa using c), List.find?_cons_of_neg (by simpa using e ▸ c)]
      exact PRel.noneI r
end
section
variable {C : Cx} {p : Program} {sc : Scope} {k : Nat}
theorem key_isI (x : Int) (t : Tok) : (intKind C.prog C.w).is x (.int x t) = true := intKind_is _ _ _ _
theorem dict_notTI {h : Heap} {a : Addr} {kws : List (Int × Value)} {ep : Nat} (x : h.DictAt (intKind C.prog C.w) a kws ep) : ∀ o, h.get? a = some o → ¬ IsT o := by
  intro o ho
  obtain ⟨o', es, ho', hc, hd, _⟩ := x
  rw [ho] at ho'; cases ho'
  simp [IsT, hd]
theorem istored_len (kvs : List (Int × V)) (x : Int) (v : V) : (istored kvs x v).length ≤ kvs.length + 1 := by
  unfold istored; split <;> simp
noncomputable def setI : V → V → V → View → (View → Prop) → Prop
  | .ref a, .int k, v, σ, Q => ∃ kvs ep, σ a = some (.idict kvs ep) ∧ kvs.length < 16777216 ∧ ∀ ep', Q (upd σ a (.idict (istored kvs k v) ep'))
  | _, _, _, _, _ => False
theorem ok_setI : OpSet C k setI := by
  intro A s σ o i v wo wi w Q P E ao R vo vi vv q hP
  unfold setI at q
  split at q
  · rename_i a x
    cases vo; cases vi
    obtain ⟨kvs, ep, hx, hz, q⟩ := q
    obtain ⟨_, kws, h1, h2⟩ := R.view _ _ hx
    have hl := h2.length
    refine wpAny_setItem_pairs (knd := intKind C.prog C.w) (key_isI x _) h1.dictOf (fun h' hd' hs' => ?_) (by rw [sizeLine_eq, ← hl]; omega)
    obtain ⟨ep', hat⟩ := hd'.dictAt
    have kt : TupKeep s.heap h' := fun b o eb ht => hs'.extBut b o (by rintro rfl; exact dict_notTI h1 o eb ht) eb
    have vl := istored_len kvs x v
    exact hP (upd σ a (.idict (istored kvs x v) ep')) _ (R.change (tk := s.toks + 1) hx hs' ⟨by omega, _, hat, (h2.storedI vv).keep kt⟩) (.change hx hs') (q ep')
  · exact q.elim
noncomputable def opInI : O2
  | .int x, .ref a, σ, Q => ∃ kvs ep, σ a = some (.idict kvs ep) ∧ Q (.bool (iget kvs x).isSome) σ
  | _, _, _, _ => False
theorem ok_inI (O : C.Ok) : Op2 C k (compareOp .In) opInI := by
  intro A s σ a b wa wb Q P E ao R va vb q hP
  unfold opInI at q
  split at q
  · rename_i x a
    cases va; cases vb
    obtain ⟨kvs, ep, hx, q⟩ := q
    obtain ⟨_, kws, h1, h2⟩ := R.view _ _ hx
    refine wpAny_in_of (knd := intKind C.prog C.w) (key_isI x _) (O.noMods (R.apart a (by rw [hx]; simp))) h1.dictOf.mapOf ?_
    rw [← h2.noneI]
    exact hP _ _ σ _ (.bool _) (R.tok _) Step.refl q
  · exact q.elim
noncomputable def opItemI : O2
  | .ref a, .int x, σ, Q => ∃ kvs ep v, σ a = some (.idict kvs ep) ∧ iget kvs x = some v ∧ Q v σ
  | _, _, _, _ => False
theorem ok_itemI {slice : Expr} (hsl : isSlice slice = false) : Op2 C k (fun o i => getitemInPython o >>= fun b => subscripted slice b o i) opItemI := by
  intro A s σ a b wa wb Q P E ao R va vb q hP
  unfold opItemI at q
  split at q
  · rename_i a x
    cases va; cases vb
    obtain ⟨kvs, ep, v, hx, hv, q⟩ := q
    obtain ⟨_, kws, h1, h2⟩ := R.view _ _ hx
    obtain ⟨w, e1, e2⟩ := h2.findI hv
    exact item_tree hsl h1.dictOf.typeIs slot_dict_getitem.lookup (wpAny_getItem_of (knd := intKind C.prog C.w) (key_isI x _) h1.dictOf.mapOf e1 (hP _ _ σ _ e2 (R.tok _) Step.refl q))
  · exact q.elim
theorem HE.itemI {value slice : Expr} {pos : Pos} {T U : ET} (hv : HE C sc k value T) (hi : HE C sc k slice U) (hs : isSlice slice = false) : HE C sc k (.Subscript value slice pos) (eBin opItemI T U) :=
  HE.sub hv hi (ok_itemI hs)
end
end Mine


end
noncomputable section
set_option autoImplicit false
set_option linter.unusedVariables false
set_option maxRecDepth 100000
namespace Mine
open PySem PySem.W PyProof.Rows PySem.Calls
section
variable {C : Cx} {p : Program} {sc : Scope} {k : Nat}
noncomputable def opNotInI : O2
  | .int x, .ref a, σ, Q => ∃ kvs ep, σ a = some (.idict kvs ep) ∧ Q (.bool (!(iget kvs x).isSome)) σ
  | _, _, _, _ => False
theorem ok_notInI (O : C.Ok) : Op2 C k (compareOp .NotIn) opNotInI := by
  intro A s σ a b wa wb Q P E ao R va vb q hP
  unfold opNotInI at q
  split at q
  · rename_i x a
    cases va; cases vb
    obtain ⟨kvs, ep, hx, q⟩ := q
    obtain ⟨_, kws, h1, h2⟩ := R.view _ _ hx
    refine wpAny_notIn_of (knd := intKind C.prog C.w) (key_isI x _) (O.noMods (R.apart a (by rw [hx]; simp))) h1.dictOf.mapOf ?_
    rw [← h2.noneI]
    exact hP _ _ σ _ (.bool _) (R.tok _) Step.refl q
  · exact q.elim
/- quiet expressions: names and constants -/
structure HQ (C : Cx) (sc : Scope) (e : Expr) (T : ET) : Prop where
  run : ∀ (env : Env) (A : Around) (s : Shared) (m : Loc) (σ : View) (Q : V → View → Prop) (P : Value → Shared → Prop) (E : Value → Shared → Prop),
    EnvOk env sc → RelG C σ s → FrameRel C env m σ s.heap → T m σ Q → (∀ v w tk, VRel C.aS s.heap v w → Q v σ → P w { s with toks := tk }) → wpAny (model C.prog C.w) A (eval e env) P E s
theorem HQ.name {x : String} {pos : Pos} (h : sc.names.lookup (Str.ofString x) = some .local) (hd : (Str.ofString x == ("__debug__" : Str)) = false) : HQ C sc (.Name (Str.ofString x) pos) (eName x) := by
  refine ⟨?_⟩; intro env A s m σ Q P E en R F ⟨v, hv, q⟩ hP
  obtain ⟨mm, hn, hm⟩ := F.ns
  obtain ⟨w, hw, hr⟩ := hm x v hv (en.of h)
  exact wpAny_Name (wpAny_loadName_local en.k (en.of h) hn hw (hP v w s.toks hr q)) hd
theorem HQ.str {x : Str} {n : Nat} {pos : Pos} : HQ C sc (.Constant (.str x) n pos) (eVal (.str x)) := by
  refine ⟨?_⟩; intro env A s m σ Q P E en R F q hP
  exact Calls.Constant_str (hP _ _ _ (.str x _) q)
theorem HQ.bool {b : Bool} {n : Nat} {pos : Pos} : HQ C sc (.Constant (.bool b) n pos) (eVal (.bool b)) := by
  refine ⟨?_⟩; intro env A s m σ Q P E en R F q hP
  exact wpAny_Constant_bool (hP _ _ s.toks (.bool b) q)
/-- {i: v} -/
noncomputable def newI (kvs : List (Int × V)) (σ : View) (Q : V → View → Prop) : Prop := ∀ a ep, σ a = Option.none → Q (.ref a) (upd σ a (.idict kvs ep))
noncomputable def eDictI1 (T U : ET) : ET := fun m σ Q => T m σ fun v σ₁ => U m σ₁ fun u σ₂ => ∃ i, v = .int i ∧ newI [(i, u)] σ₂ Q
noncomputable def eDictS1 (T U : ET) : ET := fun m σ Q => T m σ fun v σ₁ => U m σ₁ fun u σ₂ => ∃ x, v = .str x ∧ newD [(x, u)] σ₂ Q
theorem HE.dictI1 {key val : Expr} {pos : Pos} {T U : ET} (hk : HQ C sc key T) (hv : HQ C sc val U) : HE C sc k (.Dict [some key] [val] pos) (eDictI1 T U) := by
  refine ⟨?_⟩; intro env A s m σ Q P E en ao R F q hP
  have hn := size_none s.heap
  have R₀ : RelG C σ { s with heap := s.heap.push { cls := .type "dict", data := .dict #[] } } := R.grow (tk := s.toks) push_old
  have F₀ : FrameRel C env m σ (s.heap.push { cls := .type "dict", data := .dict #[] }) := F.step R .push
  refine wpAny_Dict_walk (knd := intKind C.prog C.w) rfl rfl (by simp) (by simp) (pairTrees_cons_walk (hk.run env A _ m σ _ _ E en R₀ F₀ q fun v w tk hvr q₁ => hv.run env A _ m σ _ _ E en (R₀.tok tk) F₀ q₁ fun u wu tk' hu q₂ => pairTrees_nil_walk ?_))
  obtain ⟨i, rfl, q₂⟩ := q₂
  cases hvr
  refine ⟨[(i, wu)], ⟨key_isI i _, rfl, trivial⟩, Heap.DictOf.new s.heap, fun h' hd hs => ?_⟩
  have hm : merged ([] : List (Int × Value)) [(i, wu)] = [(i, wu)] := by simp [merged, stored]
  rw [hm] at hd
  obtain ⟨ep, hat⟩ := hd.dictAt
  have old : ∀ b o, s.heap.get? b = some o → h'.get? b = some o := fun b o e => (hs.2 b (Nat.ne_of_lt (Heap.lt_size e))).trans (push_old b o e)
  have kt : TupKeep (s.heap.push { cls := .type "dict", data := .dict #[] }) h' := fun b o e ht => (hs.2 b (by
    rintro rfl
    rw [Heap.get?_push_size _ rfl] at e; cases e
    obtain ⟨_, _, _, z⟩ := ht; cases z)).trans e
  have hz : s.heap.objs.size ≤ h'.objs.size := by
    have h1 : h'.objs.size = (s.heap.push { cls := .type "dict", data := .dict #[] }).objs.size := hs.1
    have h2 : (s.heap.push { cls := .type "dict", data := .dict #[] }).objs.size = s.heap.objs.size + 1 := Heap.size_push _ _
    omega
  exact hP (.ref _) _ (upd σ s.heap.objs.size (.idict [(i, u)] ep)) _ (.ref _) (R.add (tk := tk' + 1) old hn ⟨by simp, _, hat, rfl, hu.keep kt, trivial⟩) (.add old hz (Nat.le_refl _)) (q₂ _ ep (R.freshNone hn))
theorem HE.dictS1 {key val : Expr} {pos : Pos} {T U : ET} (hk : HQ C sc key T) (hv : HQ C sc val U) : HE C sc k (.Dict [some key] [val] pos) (eDictS1 T U) := by
  refine ⟨?_⟩; intro env A s m σ Q P E en ao R F q hP
  have hn := size_none s.heap
  have R₀ : RelG C σ { s with heap := s.heap.push { cls := .type "dict", data := .dict #[] } } := R.grow (tk := s.toks) push_old
  have F₀ : FrameRel C env m σ (s.heap.push { cls := .type "dict", data := .dict #[] }) := F.step R .push
  refine wpAny_Dict_walk (knd := PySem.strKind C.prog C.w) rfl rfl (by simp) (by simp) (pairTrees_cons_walk (hk.run env A _ m σ _ _ E en R₀ F₀ q fun v w tk hvr q₁ => hv.run env A _ m σ _ _ E en (R₀.tok tk) F₀ q₁ fun u wu tk' hu q₂ => pairTrees_nil_walk ?_))
  obtain ⟨i, rfl, q₂⟩ := q₂
  cases hvr
  refine ⟨[(i, wu)], ⟨key_is i _, rfl, trivial⟩, Heap.DictOf.new s.heap, fun h' hd hs => ?_⟩
  have hm : merged ([] : List (Str × Value)) [(i, wu)] = [(i, wu)] := by simp [merged, stored]
  rw [hm] at hd
  obtain ⟨ep, hat⟩ := hd.dictAt
  have old : ∀ b o, s.heap.get? b = some o → h'.get? b = some o := fun b o e => (hs.2 b (Nat.ne_of_lt (Heap.lt_size e))).trans (push_old b o e)
  have kt : TupKeep (s.heap.push { cls := .type "dict", data := .dict #[] }) h' := fun b o e ht => (hs.2 b (by
    rintro rfl
    rw [Heap.get?_push_size _ rfl] at e; cases e
    obtain ⟨_, _, _, z⟩ := ht; cases z)).trans e
  have hz : s.heap.objs.size ≤ h'.objs.size := by
    have h1 : h'.objs.size = (s.heap.push { cls := .type "dict", data := .dict #[] }).objs.size := hs.1
    have h2 : (s.heap.push { cls := .type "dict", data := .dict #[] }).objs.size = s.heap.objs.size + 1 := Heap.size_push _ _
    omega
  exact hP (.ref _) _ (upd σ s.heap.objs.size (.dict [(i, u)] ep)) _ (.ref _) (R.add (tk := tk' + 1) old hn ⟨by simp, _, hat, rfl, hu.keep kt, trivial⟩) (.add old hz (Nat.le_refl _)) (q₂ _ ep (R.freshNone hn))
/- sorted(d.keys()), the keys ints, fewer than 64 -/
noncomputable def isrt (ks : List Int) : List Int := ks.mergeSort fun a b => decide (a ≤ b)
theorem isrt_perm (xs : List Int) : (isrt xs).Perm xs := List.mergeSort_perm _ _
theorem isrt_sorted (xs : List Int) : (isrt xs).Pairwise (· ≤ ·) := by
  have := List.pairwise_mergeSort (le := fun a b : Int => decide (a ≤ b)) (fun a b c h1 h2 => by simp at *; omega) (fun a b => by simp; omega) xs
  exact this.imp fun h => by simpa using h
theorem isorted_uniq : ∀ {a b : List Int}, a.Perm b → a.Pairwise (· ≤ ·) → b.Pairwise (· ≤ ·) → a = b
  | [], _, p, _, _ => p.nil_eq
  | x :: r, b, p, ha, hb => by
    cases b with
    | nil => exact absurd p.length_eq (by simp)
    | cons y t =>
      have hx : x ∈ y :: t := p.mem_iff.mp (.head _)
      have hy : y ∈ x :: r := p.mem_iff.mpr (.head _)
      have e : x = y := by
        rcases List.mem_cons.mp hx with h | h
        · exact h
        · rcases List.mem_cons.mp hy with h' | h'
          · exact h'.symm
          · exact Int.le_antisymm ((List.pairwise_cons.mp ha).1 y h') ((List.pairwise_cons.mp hb).1 x h)
      subst e
      rw [isorted_uniq (List.Perm.cons_inv p) (List.pairwise_cons.mp ha).2 (List.pairwise_cons.mp hb).2]
theorem intsAre_rel {aS : Addr} {h : Heap} : ∀ {ys : List Int} {ws : List Value}, IntsAre ws ys → VRels aS h (ys.map .int) ws
  | _, _, .nil => .nil
  | _, _, .cons y t r => .cons (.int y t) (intsAre_rel r)
theorem intsAre_of {aS : Addr} {h : Heap} : ∀ {ys : List Int} {ws : List Value}, VRels aS h (ys.map .int) ws → IntsAre ws ys
  | [], _, r => by rw [r.inv0]; exact .nil
  | y :: ys, _, r => by
    obtain ⟨w, ws, rfl, h1, r2⟩ := r.invC
    obtain ⟨t, rfl⟩ := h1.invInt
    exact .cons y t (intsAre_of r2)
theorem intsAre_len : ∀ {ys : List Int} {ws : List Value}, IntsAre ws ys → ws.length = ys.length
  | _, _, .nil => rfl
  | _, _, .cons y t r => by simp [intsAre_len r]
theorem sorted_ints_of {A : Around} {s : Shared} {σ : View} {r : Value} {Q : V → View → Prop} {P : Value → Shared → Prop} {E : Value → Shared → Prop} {ks : List Int} (ao : AOk C A k) (R : RelG C σ s)
    (hcol : ∀ R' : List Value → Shared → Prop, (∀ (h' : Heap) (tk : Nat) (d : Drawn) (vs : List Value) (ks' : List Int), (∀ b o, s.heap.get? b = some o → h'.get? b = some o) → s.heap.objs.size ≤ h'.objs.size → IntsAre vs ks' → ks'.Perm ks → R' vs { s with heap := h', toks := tk, drawn := d }) →
      wpAny (model C.prog C.w) A.in1 (collect r) R' E s) (hz : ks.length < 64)
    (q : newL ((isrt ks).map .int) σ Q) (hP : Aft C σ s Q P) : wpAny (model C.prog C.w) A (PySem.call (.builtin "sorted") [r]) P E s := by
  refine call_function_entry kind_sorted plain_sorted entry_sorted (args_sorted1 _) ?_
  unfold Builtin.«sorted»
  refine wpAny_bind (m := checkCount "sorted" 1 1 _) (wpAny_pure ?_)
  refine wpAny_bind (hcol _ fun h' tk d vs ks' hk hsz hs hp => ?_)
  have hvl : vs.length = ks.length := by rw [← hp.length_eq, intsAre_len hs]
  refine wpAny_bind (wpAny_newList ?_ (by rw [hvl, sizeLine_eq]; omega))
  have hoL : (h'.push (seqObj "list" vs.toArray 0)).get? h'.objs.size = some (seqObj "list" vs.toArray 0) := Heap.get?_push_size _ rfl
  refine wpAny_bind (wpAny_holding (wpAny_call_entry slot_list_sort ⟨_, hoL, rfl⟩ entry_list_sort (list_sort_tree hoL hs (by rw [hvl]; exact hz) fun out ss' h1 h2 h3 => ⟨_, rfl, ?_⟩) (args_list_sort _)))
  refine wpAny_pure ⟨_, rfl, ?_⟩
  have hsr : ss' = isrt ks := isorted_uniq ((h2.trans hp).trans (isrt_perm ks).symm) h3 (isrt_sorted ks)
  subst hsr
  obtain ⟨e, he⟩ := sortedHeap_at (out := out) hoL
  have hk2 : ∀ b o, s.heap.get? b = some o → (sortedHeap (h'.push (seqObj "list" vs.toArray 0)) h'.objs.size vs out).get? b = some o := fun b o eb => by
    have hb := Heap.lt_size (hk b o eb)
    rw [sortedHeap_old (Nat.ne_of_lt hb) (by rw [Heap.size_push]; exact Nat.lt_succ_of_lt hb)]
    exact Heap.get?_push_of_some _ (hk b o eb)
  have hn : s.heap.get? h'.objs.size = Option.none := get_none_of_size hsz
  have hsz2 : s.heap.objs.size ≤ (sortedHeap (h'.push (seqObj "list" vs.toArray 0)) h'.objs.size vs out).objs.size := Nat.le_trans hsz (Nat.le_of_lt (Heap.lt_size he))
  exact hP (.ref h'.objs.size) (.ref h'.objs.size) (upd σ h'.objs.size (.list ((isrt ks).map .int))) _ (.ref _)
    ((R.draw d).add (tk := tk) (s := { s with drawn := d }) hk2 hn ⟨by rw [List.length_map, (isrt_perm ks).length_eq]; omega, out.toList, ⟨e, by simpa using he⟩, intsAre_rel h1⟩) (.add hk2 hsz2 hsz) (q _ (R.freshNone hn))
theorem keys_ints {s : Shared} {kvs : List (Int × V)} {kws : List (Int × Value)} {vs : List Value} (h2 : PRel C.aS s.heap kvs kws) (hl : vs.length = kws.length) (hv : ∀ (j : Nat) (v : Value), vs[j]? = some v → ∃ k x, kws[j]? = some (k, x) ∧ (intKind C.prog C.w).is k v = true) : IntsAre vs (kvs.map (·.1)) := by
  have hkeys : kvs.map (·.1) = kws.map (·.1) := by
    clear hl hv
    induction kvs generalizing kws with
    | nil => cases kws with | nil => rfl | cons _ _ => exact h2.elim
    | cons q r ih => cases kws with
      | nil => exact h2.elim
      | cons q' r' => obtain ⟨e, _, h⟩ := h2; simp only [List.map_cons]; rw [ih h]; exact congrArg (· :: _) e
  rw [hkeys]
  clear h2 hkeys
  induction kws generalizing vs with
  | nil => have : vs = [] := List.length_eq_zero_iff.mp (by simpa using hl); subst this; exact .nil
  | cons q kws ih =>
    match vs, hl with
    | v :: vs, hl =>
      obtain ⟨ky, x, e1, e2⟩ := hv 0 v rfl
      simp at e1
      subst e1
      obtain ⟨t, rfl⟩ := Value.isInt_shape e2
      exact .cons ky t (ih (by simpa using hl) fun j v e => hv (j + 1) v (by simpa using e))
noncomputable def eSortKI (T : ET) : ET := fun m σ Q => T m σ fun v σ₁ => ∃ a kvs ep, v = .ref a ∧ σ₁ a = some (.idict kvs ep) ∧ kvs.length < 64 ∧ newL ((isrt (kvs.map (·.1))).map .int) σ₁ Q
theorem HE.sortedKeysI (G : Gl C p) (hpl : C.held = Option.none) {np pos ap cp : Pos} {o : Expr} {T : ET} (hn : sc.names.lookup (Str.ofString "sorted") = some .globalImplicit) (ho : HE C sc k o T)
    (hbase : ∀ env, attributeBase o (Str.ofString "keys") env (eval o env) = eval o env) (hline : (ap.endLine == cp.line) = true) :
    HE C sc k (.Call (.Name (Str.ofString "sorted") np) [.Call (.Attribute o (Str.ofString "keys") ap) [] [] cp] [] pos) (eSortKI T) := by
  refine ⟨?_⟩; intro env A s m σ Q P E en ao R F q hP
  have O := G.ok
  refine wpAny_Call_NameR (Calls.Name_function_global en.k (en.of hn) (Calls.loadGlobal_builtin (mg := C.mg) (mb := C.mb) (by rw [en.globals]; exact O.g.keeps R.base) (G.free _ (by decide)) (by rw [en.builtins]; exact O.b.keeps R.base) (G.blt bb_sorted (by decide)) ?_) rfl)
  refine Calls.callWith_builtin (starEach_any rfl) (evalArgs_of rfl ?_)
  show wpAny _ A (spliced ((false, eval (.Call (.Attribute o (Str.ofString "keys") ap) [] [] cp) env) :: backTo pos (starEach [] env))) _ E s
  refine Calls.spliced_cons ?_
  refine wpAny_Call_method (T := "dict") (id := "dict.keys") (hbase env) rfl hline _root_.PySem.F.plainAttrs_dict _root_.PySem.F.slot_dict_keys _root_.PySem.F.type_dict_keys ?_
  refine ho.run env A s m σ _ _ E en ao R F q fun v w σ₁ s₁ hv R₁ S₁ q₁ => ?_
  obtain ⟨a, kvs, ep, rfl, hx, hz64, q₁⟩ := q₁
  cases hv
  obtain ⟨hz, kws, h1, h2⟩ := R₁.view _ _ hx
  refine ⟨h1.dictOf.typeIs, h1.dictOf.mapOf.noDict, ?_⟩
  show wpAny _ _ (callWith cp (.builtin "dict.keys") [.ref a] [] []) _ E s₁
  refine method_meetsIn _root_.PySem.F.slot_dict_keys _root_.PySem.F.entry_dict_keys rfl (PySem.evalArgs_none ⟨rfl, h1.dictOf.typeIs, _root_.PySem.F.args_dict_keys_1 _, _, kdl_meets_keys (intKind C.prog C.w) a (O.noMods (R₁.apart a (by rw [hx]; simp))), ⟨kws, h1.dictOf⟩, ?_⟩)
  refine Calls.spliced_nil ?_
  show wpAny _ A (PySem.call (.builtin "sorted") [.ref s₁.heap.objs.size]) P E _
  have hl := h2.length
  have R₂ : RelG C σ₁ { s₁ with heap := s₁.heap.push { cls := .type "dict_keys", data := .fields #[.ref a] } } := R₁.grow (tk := s₁.toks) push_old
  refine sorted_ints_of (ks := kvs.map (·.1)) ao R₂ (fun R' hR => with_size (kdu_collect (kdl_keys (knd := intKind C.prog C.w) (kvs := kws) (ep := ep) (r := s₁.heap.objs.size) (d := a)) (by show A.handled = _; exact ao.none hpl)
    ⟨⟨_, Heap.get?_push_size _ rfl, rfl, rfl⟩, h1.push _⟩ (kdl_size (by omega)) fun h' tk acc hk hacc => ?_)) (by simpa using hz64) q₁ fun v w σ' s' hv' R' S' q' => hP v w σ' s' hv' R' ((S₁.trans .push).trans S') q'
  intro hsz
  exact hR h' tk s₁.drawn acc.toList _ hk hsz (keys_ints h2 (by rw [Array.length_toList]; exact hacc.1) fun j v e => hacc.2 j v (by rw [← Array.getElem?_toList]; exact e)) (List.Perm.refl _)
/-- max of a list of ints -/
noncomputable def spMaxL : Spec
  | [.ref a], σ, Q => ∃ ns : List Int, σ a = some (.list (ns.map .int)) ∧ 0 < ns.length ∧ ∀ M, M ∈ ns → (∀ b, b ∈ ns → b ≤ M) → Q (.int M) σ
  | _, _, _ => False
theorem ok_maxL (hz : C.held = Option.none) : OpN C k (fun ws => PySem.call (.builtin "max") ws) spMaxL := by
  intro A s σ vs ws Q P E ao R hv q hP
  unfold spMaxL at q
  split at q
  · rename_i a
    obtain ⟨wa, rfl, h1⟩ := hv.inv1
    cases h1
    obtain ⟨ns, hx, hne, q⟩ := q
    obtain ⟨_, us, h2, h3⟩ := R.view _ _ hx
    have hI := intsAre_of h3
    obtain ⟨xs, e⟩ := hI.allInts.items
    have hns : ns = xs.toList.map (·.1) := by
      rw [← hI.numsOf, ← nums_intItems, ← e]
    have hsz : 0 < xs.size := by
      have h3 := hne; rw [hns, List.length_map, Array.length_toList] at h3; exact h3
    have hl := h2.isList
    rw [e] at hl
    refine with_size (max_intList (ao.none hz) hl hsz fun v h' tk hv hk => ?_)
    intro hsz'
    obtain ⟨t, rfl⟩ := intItems_at hv
    obtain ⟨h4, h5⟩ := argBest_gt (numAt xs) (xs.size - 1)
    refine hP _ _ σ _ (.int _ _) (R.grow hk) (.grow hk hsz') (q _ ?_ fun b hb => ?_)
    · rw [hns, numAt_eq]; exact getD_mem (by rw [List.length_map, Array.length_toList]; omega)
    · rw [hns] at hb
      obtain ⟨j, hj, rfl⟩ := mem_getD hb
      rw [List.length_map, Array.length_toList] at hj
      rw [← numAt_eq]; exact h5 j (by omega)
  · exact q.elim
theorem HE.maxL (G : Gl C p) (hz : C.held = Option.none) {np pos : Pos} {es : List Expr} {L : LT} (hn : sc.names.lookup (Str.ofString "max") = some .globalImplicit) (hl : HL C sc k es L) (hp : plainArgs es = true) : HE C sc k (.Call (.Name (Str.ofString "max") np) es [] pos) (eCall spMaxL L) :=
  HE.builtin G.ok (ok_maxL hz) hn (G.free _ (by decide)) (G.blt bb_max (by decide)) rfl hl hp
/- while -/
noncomputable def whileN (B : BT) (T : ST) : Nat → ST
  | 0 => fun _ _ _ => False
  | n + 1 => fun m σ Q => B m σ fun b σ' => if b then T m σ' (fun f m₁ σ₁ => match f with
    | .next => whileN B T n m₁ σ₁ Q
    | .cont => whileN B T n m₁ σ₁ Q
    | .brk => Q .next m₁ σ₁
    | .ret v => Q (.ret v) m₁ σ₁) else Q .next m σ'
noncomputable def sWhile (B : BT) (T : ST) : ST := fun m σ Q => ∃ n, whileN B T n m σ Q
theorem HS1.while {test : Expr} {body : List Stmt} {pos : Pos} {B : BT} {T : ST} (hb : HB C sc k test B) (ht : HS C sc k body T) : HS1 C sc k (.While test body [] pos) (sWhile B T) := by
  refine ⟨?_⟩; intro env A s m σ Q P E en ao R F ⟨n, q⟩ hP
  refine wpAny_While (codeAny_whileLoop (fun n s' => ∃ m' σ', RelG C σ' s' ∧ FrameRel C env m' σ' s'.heap ∧ Step (Own env) σ σ' s.heap s'.heap ∧ whileN B T n m' σ' Q) ?_ n ⟨m, σ, R, F, Step.refl, q⟩)
  rintro n s' ⟨m', σ', R', F', S', q'⟩
  cases n with
  | zero => exact q'.elim
  | succ n =>
    refine hb.run env A s' m' σ' _ _ _ en ao R' F' q' fun b σ₁ s₁ R₁ S₁ q₁ => ?_
    have S₁' := S'.trans S₁.own
    cases b with
    | false =>
      simp only [Bool.false_eq_true, if_false] at q₁ ⊢
      exact wpAny_execs_nil (hP .next .next m' σ₁ s₁ .next R₁ (F'.step R' S₁) S₁' q₁)
    | true =>
      simp only [if_true] at q₁ ⊢
      refine ht.run env A s₁ m' σ₁ _ _ _ en ao R₁ (F'.step R' S₁) q₁ fun f g m₂ σ₂ s₂ hf R₂ F₂ S₂ q₂ => ?_
      have S₂' := S₁'.trans S₂
      cases hf with
      | next => exact ⟨n, Nat.lt_succ_self _, m₂, σ₂, R₂, F₂, S₂', q₂⟩
      | cont => exact ⟨n, Nat.lt_succ_self _, m₂, σ₂, R₂, F₂, S₂', q₂⟩
      | brk => exact hP .next .next m₂ σ₂ s₂ .next R₂ F₂ S₂' q₂
      | ret hv => exact hP _ _ m₂ σ₂ s₂ (.ret hv) R₂ F₂ S₂' q₂
end
end Mine


end
noncomputable section
set_option autoImplicit false
set_option linter.unusedVariables false
set_option maxRecDepth 100000
namespace Mine
open PySem PySem.W PyProof.Rows PySem.Calls
section
variable {C : Cx} {p : Program} {sc : Scope} {k : Nat}
noncomputable def sNever : ST := fun _ _ _ => False
theorem HS1.never {st : Stmt} : HS1 C sc k st sNever := ⟨fun _ _ _ _ _ _ _ _ _ _ _ _ q _ => q.elim⟩
theorem HS.never {b : List Stmt} : HS C sc k b sNever := ⟨fun _ _ _ _ _ _ _ _ _ _ _ _ q _ => q.elim⟩
noncomputable def xExpr (T : ETX) : STX := fun m σ Q X => T m σ (fun _ σ' => Q .next m σ') fun c σ' => X c m σ'
theorem HSX1.exprX {pos : Pos} {value : Expr} {T : ETX} (he : HEX C sc k value T) (hs : ∀ env, EnvOk env sc → swapsWith value Option.none pos.line env = pure false) : HSX1 C sc k (.Expr value pos) (xExpr T) := by
  refine ⟨?_⟩; intro env A s m σ Q X P E en ao R F W q hP hX
  have hi : interactive env = false := by unfold interactive; rw [en.k]; rfl
  rw [exec_Expr env value pos hi (hs env en)]
  refine wpAny_bind (wpAny_standAt (wpAny_bind (he.run env A s m σ _ _ _ E en ao R F W q (fun v w σ₁ s₁ hv R₁ S₁ q₁ => ?_) (AftXc.of R F hX))))
  exact wpAny_dropValue (hP .next .next m σ₁ s₁ .next R₁ (F.step R S₁) S₁.own q₁)
noncomputable def xForR (T : ETX) : STX := fun m σ _ X => T m σ (fun _ _ => False) fun c σ' => X c m σ'
theorem HSX1.forR {target iter : Expr} {body orelse : List Stmt} {pos : Pos} {T : ETX} (he : HEX C sc k iter T) : HSX1 C sc k (.For target iter body orelse pos) (xForR T) := by
  refine ⟨?_⟩; intro env A s m σ Q X P E en ao R F W q hP hX
  rw [arm_exec_For]
  refine wpAny_bind (wpAny_standAt (wpAny_bind ?_))
  exact he.run env A s m σ _ _ _ E en ao R F W q (fun v w σ₁ s₁ hv R₁ S₁ q₁ => q₁.elim) (AftXc.of R F hX)
noncomputable def xOnly (T : ETX) : ETX := fun m σ _ X => T m σ (fun _ _ => False) X
theorem HEX.maxCompR (G : Gl C p) {np pos cpos : Pos} {elt iter target : Expr} {ifs : List Expr} {cs : Scope} {T : ETX} (hn : sc.names.lookup (Str.ofString "max") = some .globalImplicit) (he : HEX C sc k iter T)  :
    HEX C sc k (.Call (.Name (Str.ofString "max") np) [.ListComp elt [⟨target, iter, ifs, 0⟩] cs cpos] [] pos) (xOnly T) := by
  refine ⟨?_⟩; intro env A s m σ Q X P E en ao R F W q hP hX
  have O := G.ok
  refine wpAny_Call_NameR (Calls.Name_function_global en.k (en.of hn) (Calls.loadGlobal_builtin (mg := C.mg) (mb := C.mb) (by rw [en.globals]; exact O.g.keeps R.base) (G.free _ (by decide)) (by rw [en.builtins]; exact O.b.keeps R.base) (G.blt bb_max (by decide)) ?_) rfl)
  refine Calls.callWith_builtin (starEach_any rfl) (evalArgs_of rfl ?_)
  show wpAny _ A (spliced ((false, eval (.ListComp elt [⟨target, iter, ifs, 0⟩] cs cpos) env) :: backTo pos (starEach [] env))) _ E s
  refine Calls.spliced_cons ?_
  rw [eval_ListComp]
  unfold comprehension
  refine wpAny_bind ?_
  show wpAny _ A (eval iter env) _ E s
  exact he.run env A s m σ _ X _ E en ao R F W q (fun v w σ₁ s₁ hv R₁ S₁ q₁ => q₁.elim) hX
section
variable {m : Loc} {σ : View} {Q : Fl → Loc → View → Prop} {X : XT} {R : V → View → Prop} {Y : String → View → Prop}
@[simp] theorem sNever_eq : sNever m σ Q = False := rfl
@[simp] theorem xExpr_eq {T : ETX} : xExpr T m σ Q X = T m σ (fun _ σ' => Q .next m σ') fun c σ' => X c m σ' := rfl
@[simp] theorem xForR_eq {T : ETX} : xForR T m σ Q X = T m σ (fun _ _ => False) fun c σ' => X c m σ' := rfl
@[simp] theorem xOnly_eq {T : ETX} : xOnly T m σ R Y = T m σ (fun _ _ => False) Y := rfl
end
/- range(a, -1, -1) -/
noncomputable def downL (a : Int) : List V := (List.range (a + 1).toNat).map fun (i : Nat) => .int (a - i)
theorem it_down (hz : C.held = none) (I : Addr) (a : Int) (n : Nat) : It C k I ((List.range n).map fun (i : Nat) => V.int (a - i)) (fun _ => True) (fun i h => IsRangeIter h I (a + (i : Nat) * (-1)) ((n : Int) - (i : Nat)) (-1)) where
  frame := fun i h h' st kI _ => kI _ st
  live := fun i h st => ⟨_, st, fun ⟨_, _, _, h2⟩ => by simp at h2, fun v h2 => by simp at h2⟩
  flds := fun i h st o' ho' es ep z => by rw [st] at ho'; cases ho'; cases z
  next := fun A σ s i v Q E ao R inv st hv hQ => by
    rw [List.getElem?_map] at hv
    obtain ⟨j, hj, rfl⟩ := Option.map_eq_some_iff.mp hv
    have hjn := List.getElem?_eq_some_iff.mp hj
    obtain ⟨hlt, hji⟩ := hjn
    simp at hji hlt
    subst hji
    refine wpAny_pyNext_range_item st (by omega) fun h' hit' hs' => ?_
    have e1 : a + ((i + 1 : Nat) : Int) * (-1) = a + (i : Int) * (-1) + (-1) := by push_cast; omega
    have e2 : (n : Int) - ((i + 1 : Nat) : Int) = (n : Int) - (i : Int) - 1 := by push_cast; omega
    refine hQ _ h' _ ?_ (by rw [e1, e2]; exact hit') hs'.extBut
    have e3 : a + (i : Int) * (-1) = a - i := by omega
    rw [e3]; exact .int _ _
  done := fun A σ s Q E ao R inv st hQ => wpAny_pyNext_range_end (ao.none hz) st (by simp) fun h' hx => hQ h' s.toks hx
  self := fun A s i Q E st q => wpAny_pyIter_rangeiter st q
  own := fun A s i t w Q E st q => own_plain st rfl (by decide) q
noncomputable def downOf : List V → View → (List V → (View → Prop) → View → Prop) → Prop
  | [.int a, .int b, .int c], σ, Q => (b = -1 ∧ c = -1 ∧ 0 ≤ a ∧ a < 1000000) ∧ Q (downL a) (fun _ => True) σ
  | _, _, _ => False
noncomputable def iDown (L : LT) : IT := fun m σ Q => L m σ fun vs σ' => downOf vs σ' Q
theorem rangeSize_down {a : Int} (h : 0 ≤ a) : Builtin.Range.rangeSize a (-1) (-1) = a + 1 := by
  unfold Builtin.Range.rangeSize
  simp
  omega
theorem HI.down (G : Gl C p) (hz : C.held = none) {np pos : Pos} {es : List Expr} {L : LT} (hn : sc.names.lookup (Str.ofString "range") = some .globalImplicit) (hl : HL C sc k es L) (hp : plainArgs es = true) :
    HI C sc k (.Call (.Name (Str.ofString "range") np) es [] pos) (iDown L) := by
  refine ⟨?_⟩; intro env A s m σ Q P E en ao R F q hP
  have O := G.ok
  refine wpAny_Call_NameR (Calls.Name_function_global en.k (en.of hn) (Calls.loadGlobal_builtin (mg := C.mg) (mb := C.mb) (by rw [en.globals]; exact O.g.keeps R.base) (G.free _ (by decide)) (by rw [en.builtins]; exact O.b.keeps R.base) (G.blt bb_range (by decide)) ?_) (by decide))
  refine PySem.callWith_type (starEach_any hp) (evalArgs_of hp (hl.run env A s m σ pos _ _ E en ao R F q fun vs ws σ₁ s₁ hv R₁ S₁ q₁ => ?_))
  have fr : s.heap.objs.size ≤ s₁.heap.objs.size + 1 := Nat.le_succ_of_le S₁.size
  have hσ : σ₁ (s₁.heap.objs.size + 1) = Option.none := R₁.freshNone (get_none_of_size (Nat.le_succ _))
  show wpAny _ A (PySem.call (.type "range") ([] ++ ws)) _ _ _
  rw [List.nil_append]
  unfold downOf at q₁
  split at q₁
  · rename_i a b c
    obtain ⟨⟨rfl, rfl, h0, h9⟩, q₁⟩ := q₁
    cases hv with | cons h1 r => cases r with | cons h2 r => cases r with | cons h3 r => cases r with | nil => cases h1 with | int a t => cases h2 with | int b u => cases h3 with | int c v =>
      refine call_range_3 (by decide) ?_ (Or.inl (PyProof.noPylong_small (by omega)))
      refine wpAny_pyIter_range (IsRange.new ..) (by
        unfold Builtin.Range.small
        rw [rangeSize_down h0]
        simp only [Builtin.Range.rangeFitsLong, Bool.and_eq_true, Bool.or_eq_true, decide_eq_true_eq, beq_iff_eq, show ¬ ((-1 : Int) > 0) by decide, if_false]
        simp
        omega) ?_
      have hsz : Builtin.Range.rangeSize a (-1) (-1) = (((a + 1).toNat : Nat) : Int) := by rw [rangeSize_down h0]; omega
      have hit := it_down (C := C) (k := k) hz (s₁.heap.objs.size + 1) a (a + 1).toNat
      have R₂ : RelG C σ₁ { s₁ with heap := (s₁.heap.push { cls := .type "range", data := .fields #[.int a t, .int (-1) u, .int (-1) v] }).push { cls := .type "range_iterator", data := .fields #[rawInt a, rawInt (Builtin.Range.rangeSize a (-1) (-1)), rawInt (-1)] }, toks := s₁.toks } :=
        R₁.grow fun _ _ e => push_old _ _ (push_old _ _ e)
      have e := Heap.get?_push_size (s₁.heap.push { cls := .type "range", data := .fields #[.int a t, .int (-1) u, .int (-1) v] }) (o := { cls := .type "range_iterator", data := .fields #[rawInt a, rawInt (Builtin.Range.rangeSize a (-1) (-1)), rawInt (-1)] }) rfl
      rw [Heap.size_push] at e
      have this := hP _ _ _ _ σ₁ _ hit (by
          show IsRangeIter ((s₁.heap.push { cls := .type "range", data := .fields #[.int a t, .int (-1) u, .int (-1) v] }).push { cls := .type "range_iterator", data := .fields #[rawInt a, rawInt (Builtin.Range.rangeSize a (-1) (-1)), rawInt (-1)] }) _ _ _ _
          unfold IsRangeIter
          rw [e, hsz]; simp) fr hσ R₂ ((S₁.trans .push).trans .push) q₁
      rw [Heap.size_push]
      exact this
  · exact q₁.elim
end
/- a method out of the head's heap -/
theorem MtAt.mk {C : Cx} (O : C.Ok) {bk N : Addr} {mN : Str → Option Value} (B : Bk C bk N mN) {K : Frag} (KX : K.In C.hB) {f : String} {xs : List String} {j : Nat} {spec : Spec} {T : ST} {fa : Addr} {oc : Obj} {fd : FuncData} {body : List Stmt} {sc : Scope}
    (hm : K.lookup fa = some oc ∧ oc.cls = .type "function" ∧ oc.data = .func fd ∧ codeIn K fd.code fd.qualname = true ∧ fd.body = .stmts body ∧ fd.scope = sc ∧ fd.closure = [] ∧ fd.globals = mainGlobals ∧ fd.builtins = builtinsNs) (hn : nsIn K N (Str.ofString f) = some (some (.ref fa)))
    (hk : sc.kind = .function) (hfr : (sc.names.all fun q => q.2 != .free) = true) (hco : sc.isCoroutine = false) (hgen : sc.isGenerator = false) (hlen : True = True)
    (hbind : ∀ (ws : List Value), ws.length = xs.length → bindArgs fd ⟨ws, []⟩ = pure ((xs.map Str.ofString).zip ws))
    (hloc : (xs.all fun x => sc.names.lookup (Str.ofString x) == some .local || sc.names.lookup (Str.ofString x) == some .cell) = true)
    (hT : HS C sc j body T)
    (hspec : ∀ vs σ Q, spec vs σ Q → vs.length = xs.length ∧ T (bindM xs vs none') σ (fin Q)) : MtAt C mN j f spec := by
  obtain ⟨h1, h2, h3, h4, h5, h6, h7, h8, h9⟩ := hm
  refine ⟨fa, oc, fd, ?_, KX _ _ h1, h2, h3, FnSound.mk O (xs := xs) (KX _ _ h1) h3 (codeRec_of KX h4) h5 h6 h7 h8 h9 hk ?_ hco hgen hbind ?_ hT hspec⟩
  · obtain ⟨o, es, ep, ho, hd, _, hf⟩ := B.cls.ns
    unfold nsIn at hn
    split at hn
    · rename_i c d es' n' sl q
      have := KX _ _ q
      rw [ho] at this
      cases this
      cases hd
      split at hn
      · rename_i en he
        have hv := Option.some.inj (Option.some.inj hn)
        rw [← hf, ← hv]
        unfold nsFind findBy
        rw [← Array.find?_toList, he]
        rfl
      · split at hn <;> cases hn
    · cases hn
  · intro q hq
    have := List.all_eq_true.mp hfr q hq
    simpa using this
  · intro x hx
    have := List.all_eq_true.mp hloc x hx
    simp only [Bool.or_eq_true, beq_iff_eq] at this
    exact this
theorem MtAtX.mk {C : Cx} (O : C.Ok) {bk N : Addr} {mN : Str → Option Value} (B : Bk C bk N mN) {K : Frag} (KX : K.In C.hB) {f : String} {xs : List String} {j : Nat} {spec : SpecX} {T : STX} {fa : Addr} {oc : Obj} {fd : FuncData} {body : List Stmt} {sc : Scope}
    (hm : K.lookup fa = some oc ∧ oc.cls = .type "function" ∧ oc.data = .func fd ∧ codeIn K fd.code fd.qualname = true ∧ fd.body = .stmts body ∧ fd.scope = sc ∧ fd.closure = [] ∧ fd.globals = mainGlobals ∧ fd.builtins = builtinsNs) (hn : nsIn K N (Str.ofString f) = some (some (.ref fa)))
    (hk : sc.kind = .function) (hfr : (sc.names.all fun q => q.2 != .free) = true) (hco : sc.isCoroutine = false) (hgen : sc.isGenerator = false) (hlen : True = True)
    (hbind : ∀ (ws : List Value), ws.length = xs.length → bindArgs fd ⟨ws, []⟩ = pure ((xs.map Str.ofString).zip ws))
    (hloc : (xs.all fun x => sc.names.lookup (Str.ofString x) == some .local || sc.names.lookup (Str.ofString x) == some .cell) = true)
    (hT : HSX C sc j body T)
    (hspec : ∀ vs σ Q X, spec vs σ Q X → vs.length = xs.length ∧ T (bindM xs vs none') σ (fin Q) (fun c _ σ' => X c σ')) : MtAtX C mN j f spec := by
  obtain ⟨h1, h2, h3, h4, h5, h6, h7, h8, h9⟩ := hm
  refine ⟨fa, oc, fd, ?_, KX _ _ h1, h2, h3, FnSoundX.mk O (xs := xs) (KX _ _ h1) h3 (codeRec_of KX h4) h5 h6 h7 h8 h9 hk ?_ hco hgen hbind ?_ hT hspec⟩
  · obtain ⟨o, es, ep, ho, hd, _, hf⟩ := B.cls.ns
    unfold nsIn at hn
    split at hn
    · rename_i c d es' n' sl q
      have := KX _ _ q
      rw [ho] at this
      cases this
      cases hd
      split at hn
      · rename_i en he
        have hv := Option.some.inj (Option.some.inj hn)
        rw [← hf, ← hv]
        unfold nsFind findBy
        rw [← Array.find?_toList, he]
        rfl
      · split at hn <;> cases hn
    · cases hn
  · intro q hq
    have := List.all_eq_true.mp hfr q hq
    simpa using this
  · intro x hx
    have := List.all_eq_true.mp hloc x hx
    simp only [Bool.or_eq_true, beq_iff_eq] at this
    exact this
end Mine
namespace Mine
open PySem PySem.W PyProof.Rows PySem.Calls
/- a test whose left side may raise -/
abbrev BTX := Loc → View → (Bool → View → Prop) → (String → View → Prop) → Prop
structure HBX (C : Cx) (sc : Scope) (k : Nat) (e : Expr) (T : BTX) : Prop where
  run : ∀ (env : Env) (A : Around) (s : Shared) (m : Loc) (σ : View) (Q : Bool → View → Prop) (X : String → View → Prop) (P : Bool → Shared → Prop) (E : Value → Shared → Prop),
    EnvOk env sc → AOk C A k → RelG C σ s → FrameRel C env m σ s.heap → FOk C A env σ s.heap → T m σ Q X →
    (∀ b σ' s', RelG C σ' s' → Step no σ σ' s.heap s'.heap → Q b σ' → P b s') → AftXc C σ s X E →
    wpAny (model C.prog C.w) A (isTrue e env (eval e env)) P E s
section
variable {C : Cx} {sc : Scope} {k : Nat}
noncomputable def xCmp (op : O2) (T : ETX) (U : ET) : BTX := fun m σ Q X => T m σ (fun a σ₁ => U m σ₁ fun b σ₂ => op a b σ₂ fun v σ₃ => isB v fun x => Q x σ₃) X
theorem HBX.cmp {op : O2} {o : CmpOp} {l r : Expr} {pos : Pos} {T : ETX} {U : ET} (hop : Op2 C k (compareOp o) op) (hl : HEX C sc k l T) (hr : HE C sc k r U) (hm : behindInMarks o r = false) : HBX C sc k (.Compare l [o] [r] pos) (xCmp op T U) := by
  refine ⟨?_⟩; intro env A s m σ Q X P E en ao R F W q hP hX
  refine wpAny_isTrue_Compare1 ?_ hm
  refine hl.run env A s m σ _ X _ E en ao R F W q (fun a wa σ₁ s₁ va R₁ S₁ q₁ => ?_) hX
  refine hr.run env A s₁ m σ₁ _ _ E en ao R₁ (F.step R S₁) q₁ fun b wb σ₂ s₂ vb R₂ S₂ q₂ => ?_
  refine hop A s₂ σ₂ a b wa wb _ _ E ao R₂ (va.keep (S₂.tupsN R₁)) vb q₂ fun v w σ' s' hv R' S' q' => ?_
  obtain ⟨x, rfl, q'⟩ := q'
  cases hv
  exact wpAny_truthy_bool (hP x σ' s' R' ((S₁.trans S₂).trans S') q')
noncomputable def xIfX (B : BTX) (T U : STX) : STX := fun m σ Q X => B m σ (fun b σ' => if b then T m σ' Q X else U m σ' Q X) fun c σ' => X c m σ'
theorem HSX1.iteX {pos : Pos} {test : Expr} {a b : List Stmt} {B : BTX} {T U : STX} (hb : HBX C sc k test B) (h1 : HSX C sc k a T) (h2 : HSX C sc k b U) : HSX1 C sc k (.If test a b pos) (xIfX B T U) := by
  refine ⟨?_⟩; intro env A s m σ Q X P E en ao R F W q hP hX
  refine wpAny_If (hb.run env A s m σ _ _ _ E en ao R F W q (fun b σ₁ s₁ R₁ S₁ q₁ => ?_) (AftXc.of R F hX))
  have S := S₁.own (env := env)
  have hP' : AftS C env σ₁ s₁ Q P := fun f g m₂ σ₂ s₂ hf R₂ F₂ S₂ q₂ => hP f g m₂ σ₂ s₂ hf R₂ F₂ (S.trans S₂) q₂
  cases b with
  | true => exact h1.run env A s₁ m σ₁ Q X P E en ao R₁ (F.step R S₁) (W.step S) q₁ hP' (AftX.later hX S)
  | false => exact h2.run env A s₁ m σ₁ Q X P E en ao R₁ (F.step R S₁) (W.step S) q₁ hP' (AftX.later hX S)
@[simp] theorem xCmp_eq {op : O2} {T : ETX} {U : ET} {m : Loc} {σ : View} {Q : Bool → View → Prop} {X : String → View → Prop} : xCmp op T U m σ Q X = T m σ (fun a σ₁ => U m σ₁ fun b σ₂ => op a b σ₂ fun v σ₃ => isB v fun x => Q x σ₃) X := rfl
@[simp] theorem xIfX_eq {B : BTX} {T U : STX} {m : Loc} {σ : View} {Q : Fl → Loc → View → Prop} {X : XT} : xIfX B T U m σ Q X = B m σ (fun b σ' => if b then T m σ' Q X else U m σ' Q X) fun c σ' => X c m σ' := rfl
end
end Mine


end
noncomputable section
set_option autoImplicit false
set_option linter.unusedVariables false
set_option maxRecDepth 100000
namespace Mine
open PySem PySem.W PyProof.Rows PySem.Calls
theorem lri_len : typeLookup (.type "list_reverseiterator") "__len__" = pure none := by rw [typeLookup_type, builtinLookup_eq_fast]; kernel_rfl
theorem lri_hint : typeLookup (.type "list_reverseiterator") "__length_hint__" = pure (some (.builtin "list_reverseiterator.__length_hint__")) := by rw [typeLookup_type, builtinLookup_eq_fast]; kernel_rfl
section
variable {prog : Program} {w : World} {A : Around} {E : Value → Shared → Prop} {s : Shared}
theorem hint_rev {r : Addr} {Q : Bool → Shared → Prop} (hT : s.TypeIs (.ref r) "list_reverseiterator") (h : Q false s) : wpAny (model prog w) A (Builtin.List.listLengthHint (.ref r)) Q E s := by
  unfold Builtin.List.listLengthHint
  refine wpAny_bind (wpAny_specialOf hT lri_len ?_)
  refine wpAny_ite_split (fun hab => absurd hab (by decide)) (fun _ => ?_)
  refine wpAny_ite_split (fun hab => absurd hab (by decide)) (fun _ => ?_)
  refine wpAny_bind (wpAny_specialOf hT lri_hint ?_)
  generalize hid : ("list_reverseiterator.__length_hint__" : String) = id0
  wp_delta
  rw [show splitId id0 = some ("list_reverseiterator", "__length_hint__") from by subst hid; decide +kernel]
  subst hid
  refine wpAny_bind (wpAny_isInstance (T := "list_reverseiterator") (b := true) hT (by rw [isSubtype_type]; kernel_rfl) ?_)
  refine wpAny_ite_split (fun hab => absurd hab (by decide)) (fun _ => ?_)
  refine wpAny_ite_split (fun _ => ?_) (fun hab => absurd (by decide +kernel) hab)
  refine wpAny_ite_split (fun hab => absurd hab (by decide +kernel)) (fun _ => ?_)
  exact wpAny_pure h
theorem rev_call {Q : Value → Shared → Prop} {I l : Addr} {items : Array Value} (hh : A.handled = none) (hit : s.heap.IsRevIter I l ((items.size : Int) - 1)) (hl : s.heap.IsList l items) (hne : l ≠ I) (hn : items.size ≤ sizeLine)
    (hQ : ∀ h' tk acc' c', (∀ b o, b ≠ I → s.heap.get? b = some o → h'.get? b = some o) → h'.get? s.heap.objs.size = some { cls := .type "list", dict := none, data := .seq acc' c', slots := #[] } → ItemsOf (fun i v => items[items.size - 1 - i]? = some v) acc' items.size → Q (.ref s.heap.objs.size) { s with heap := h', toks := tk }) :
    wpAny (model prog w) A (call (.type "list") [.ref I]) Q E s := by
  refine callType_codes (Q₁ := fun obj s₁ => obj = .ref s.heap.objs.size ∧ s₁ = { s with heap := s.heap.push { cls := .type "list", data := .seq #[] } }) PySem.F.called_list (PySem.F.typeCall_list_1 _) PySem.F.entry_list_init
    (code_list_new _ ⟨rfl, rfl⟩) fun obj s₁ h₁ => ?_
  obtain ⟨rfl, rfl⟩ := h₁
  have hS : (s.heap.push { cls := .type "list", data := .seq #[] }).get? s.heap.objs.size = some { cls := .type "list", data := .seq #[] } := Heap.get?_push_size _ rfl
  have hIlt : I < s.heap.objs.size := let ⟨o, ho, _⟩ := hit; Heap.lt_size ho
  have hllt : l < s.heap.objs.size := let ⟨o, ho, _⟩ := hl; Heap.lt_size ho
  refine ⟨⟨_, hS, rfl⟩, PySem.F.args_list_init_2 _ _, ?_⟩
  generalize hSd : s.heap.objs.size = S at *
  have hSI : S ≠ I := Nat.ne_of_gt hIlt
  have hSl : S ≠ l := Nat.ne_of_gt hllt
  show wpAny _ _ (do let old ← Builtin.List.listItems (.ref S); Builtin.List.listUpdate (.ref S) (fun _ => #[]); letGo old.toList.reverse; Builtin.List.listExtendWith (.ref S) (.ref I) .none) _ _ _
  refine wpAny_bind ?_
  unfold Builtin.List.listItems
  refine wpAny_bind (wpAny_seqItems hS rfl (wpAny_pure ?_))
  show wpAny _ _ (updateSeq S (fun _ => #[]) >>= fun _ => letGo (#[] : Array Value).toList.reverse >>= fun _ => Builtin.List.listExtendWith (.ref S) (.ref I) .none) _ _ _
  refine wpAny_bind (wpAny_updateSeq hS rfl ?_)
  have hS₂ := Heap.get?_update_self (Obj.mapSeq (fun _ => (#[] : Array Value))) hS rfl
  have old : ∀ b o, s.heap.get? b = some o → ((s.heap.push { cls := .type "list", data := .seq #[] }).update S (Obj.mapSeq (fun _ => (#[] : Array Value)))).get? b = some o := fun b o e =>
    (Heap.get?_update_other _ _ (Nat.ne_of_gt (hSd ▸ Heap.lt_size e))).trans (Heap.get?_push_of_some _ e)
  refine wpAny_bind (wpAny_letGo ?_)
  have hit₂ := hit.at fun o e => old I o e
  have hl₂ := hl.at fun o e => old l o e
  unfold Builtin.List.listExtendWith
  refine wpAny_bind (wpAny_typeOf (T := "list_reverseiterator") hit₂.typeIs ?_)
  have h1 : Builtin.List.listSameRef (.ref S) (.ref I) = false := by simp [Builtin.List.listSameRef, hSI]
  have h2 : (Value.type "list_reverseiterator" == Value.type "list") = false := by decide
  have h3 : (Value.type "list_reverseiterator" == Value.type "tuple") = false := by decide
  simp only [h1, h2, h3, Bool.or_false, Bool.false_eq_true, if_false]
  refine wpAny_bind (wpAny_pyIter_revIter hit₂ ?_)
  refine wpAny_bind (wpAny_holding (hint_rev hit₂.typeIs ?_))
  refine wpAny_ite_split (fun hab => absurd hab (by decide +kernel)) (fun _ => wpAny_pure ⟨plainId_quiet PySem.F.plain_extend_loop _, ?_⟩)
  have W := Walks.listRev (prog := prog) (w := w) (A := A.in1.in1) hh I l hne items
  refine codeAny_extend_loopS W.toS hn S (by simp only [List.mem_cons, List.not_mem_nil, or_false, not_or]; exact ⟨hSI, hSl⟩) .none items.size 0 _ #[] _ rfl (Nat.zero_le _) ⟨Nat.zero_le _, by simpa using hit₂, hl₂⟩ hS₂ (ItemsOf.nil _) fun s' acc' c' hm hS' hacc => ?_
  rw [Moved.eq_with hm]
  refine ⟨rfl, hQ s'.heap s'.toks acc' c' (fun b o hb e => hm.heap b o (fun hmem => ?_) (old b o e)) hS' hacc⟩
  rcases List.mem_cons.mp hmem with e' | hmem
  · exact absurd (Heap.lt_size e) (by rw [e', hSd]; exact Nat.lt_irrefl _)
  · exact hb (List.mem_singleton.mp hmem)
end
section
variable {C : Cx} {p : Program} {sc : Scope} {k : Nat}
theorem bb_rev : bootBuiltins (Str.ofString "reversed") = some (.type "reversed") := by decide +kernel
noncomputable def eListRev (T : ET) : ET := fun m σ Q => T m σ fun v σ₁ => ∃ a xs, v = .ref a ∧ σ₁ a = some (.list xs) ∧ newL xs.reverse σ₁ Q
theorem HE.listRev (G : Gl C p) (hpl : C.held = Option.none) (hrev : C.mg (Str.ofString "reversed") = Option.none) {np pos np2 cp : Pos} {o : Expr} {T : ET} (hn : sc.names.lookup (Str.ofString "list") = some .globalImplicit) (hn2 : sc.names.lookup (Str.ofString "reversed") = some .globalImplicit) (ho : HE C sc k o T) (hs : notStar o = true) :
    HE C sc k (.Call (.Name (Str.ofString "list") np) [.Call (.Name (Str.ofString "reversed") np2) [o] [] cp] [] pos) (eListRev T) := by
  refine ⟨?_⟩; intro env A s m σ Q P E en ao R F q hP
  have O := G.ok
  refine wpAny_Call_NameR (Calls.Name_function_global en.k (en.of hn) (Calls.loadGlobal_builtin (mg := C.mg) (mb := C.mb) (by rw [en.globals]; exact O.g.keeps R.base) (G.free _ (by decide)) (by rw [en.builtins]; exact O.b.keeps R.base) (G.blt bb_list (by decide)) ?_) rfl)
  refine PySem.callWith_type (starEach_any rfl) (evalArgs_of rfl ?_)
  show wpAny _ A (spliced ((false, eval (.Call (.Name (Str.ofString "reversed") np2) [o] [] cp) env) :: backTo pos (starEach [] env))) _ E s
  refine Calls.spliced_cons ?_
  refine wpAny_Call_NameR (Calls.Name_function_global en.k (en.of hn2) (Calls.loadGlobal_builtin (mg := C.mg) (mb := C.mb) (by rw [en.globals]; exact O.g.keeps R.base) hrev (by rw [en.builtins]; exact O.b.keeps R.base) (G.blt bb_rev (by decide)) ?_) rfl)
  have hpa : plainArgs [o] = true := by simp [plainArgs, hs]
  refine PySem.callWith_type (starEach_any hpa) (evalArgs_of hpa ?_)
  rw [starEach_plain hs]
  show wpAny _ A (spliced ((false, eval o env) :: backTo cp (starEach [] env))) _ E s
  refine Calls.spliced_cons (ho.run env A s m σ _ _ E en ao R F q fun v w σ₁ s₁ hv R₁ S₁ q₁ => ?_)
  obtain ⟨a, xs, rfl, hx, q₁⟩ := q₁
  cases hv
  obtain ⟨hz, us, h1, h2⟩ := R₁.view _ _ hx
  have hl := h2.length
  refine Calls.spliced_nil ?_
  show wpAny _ A (PySem.call (.type "reversed") [.ref a]) _ E s₁
  refine call_reversed_list h1.isList ?_
  refine Calls.spliced_nil ?_
  show wpAny _ A (PySem.call (.type "list") [.ref s₁.heap.objs.size]) P E _
  have hao : a < s₁.heap.objs.size := let ⟨o, ho, _⟩ := h1.isList; Heap.lt_size ho
  refine with_size (rev_call (items := us.toArray) (ao.none hpl) ⟨_, Heap.get?_push_size _ rfl, rfl, rfl⟩ (h1.isList.at fun o e => Heap.get?_push_of_some _ e) (Nat.ne_of_lt hao) (by rw [sizeLine_eq, List.size_toArray, ← hl]; exact hz) fun h' tk acc c hk hD hacc => ?_)
  intro hsz
  have hsp : (s₁.heap.push (revObj a ((us.toArray.size : Int) - 1))).objs.size = s₁.heap.objs.size + 1 := Heap.size_push _ _
  have hk' : ∀ b o, s₁.heap.get? b = some o → h'.get? b = some o := fun b o e => hk b o (Nat.ne_of_lt (Heap.lt_size e)) (Heap.get?_push_of_some _ e)
  have hkt : TupKeep s₁.heap h' := fun b o e _ => hk' b o e
  have rel : VRels C.aS h' xs.reverse acc.toList := by
    refine items_rel _ _ (by rw [Array.length_toList, hacc.1]; simp [hl]) fun j v w e1 e2 => ?_
    have e3 := hacc.2 j w (by rw [← Array.getElem?_toList]; exact e2)
    have hj : j < xs.length := by
      have := (List.getElem?_eq_some_iff.mp e1).1
      simpa using this
    rw [List.getElem?_reverse hj] at e1
    obtain ⟨w', e4, e5⟩ := h2.get e1
    rw [List.size_toArray, ← hl, List.getElem?_toArray, e4] at e3
    cases e3
    exact e5.keep hkt
  have hn2 : s₁.heap.get? (s₁.heap.objs.size + 1) = Option.none := get_none_of_size (Nat.le_succ _)
  have hsz' : s₁.heap.objs.size ≤ h'.objs.size := by
    have h9 : (s₁.heap.push (revObj a ((us.toArray.size : Int) - 1))).objs.size ≤ h'.objs.size := hsz
    omega
  have hD' := hD
  rw [hsp] at hD' ⊢
  exact hP (.ref _) _ (upd σ₁ (s₁.heap.objs.size + 1) (.list xs.reverse)) _ (.ref _) (R₁.add (tk := tk) hk' hn2 ⟨by simpa using hz, acc.toList, ⟨c, by simpa using hD'⟩, rel⟩) (S₁.trans (.add hk' hsz' (Nat.le_succ _))) (q₁ _ (R₁.freshNone hn2))
end
/- the class out of the head's heap -/
noncomputable def bkIn (K : Frag) (Cl N : Addr) : Bool := match K.lookup Cl with
  | some ⟨.type "type", _, .cls cd, sl⟩ => (match sl.toList with
    | [_, _, _, _, some (.builtin n), _] => cd.mro == [.ref Cl, .type "object"] && n == "object.__new__" && cd.hasDict && !cd.abstract && !cd.hasDel && cd.ns == N && nsOkIn K N && ["__getattribute__", "__getattr__", "__setattr__", "trees", "made_of"].all (fun n => nsIn K N (Str.ofString n) == some none)
    | _ => false)
  | _ => false
theorem bk_of_in {C : Cx} {K : Frag} {Cl N : Addr} (X : K.In C.hB) (q : bkIn K Cl N = true) (hg : C.mg (Str.ofString "Book") = some (.ref Cl)) : ∃ mN, Bk C Cl N mN := by
  unfold bkIn at q
  split at q
  · rename_i dd cd sl ho
    split at q
    · rename_i k0 k1 k2 k3 n k5 hs
      simp only [Bool.and_eq_true, beq_iff_eq, Bool.not_eq_true'] at q
      obtain ⟨⟨⟨⟨⟨⟨⟨hm, rfl⟩, hdict⟩, hab⟩, hdel⟩, hns⟩, hok⟩, hni⟩ := q
      obtain ⟨nm, bs, mro, ns, qn, hd, sn, sub, ab, col, del⟩ := cd
      dsimp only at hm hdict hab hdel hns
      subst hm hdict hab hdel hns
      have hsl : sl = #[k0, k1, k2, k3, some (.builtin "object.__new__"), k5] := by
        obtain ⟨l⟩ := sl
        simp only at hs
        rw [hs]
      subst hsl
      exact ⟨_, hg, ⟨⟨nm, qn, bs, sn, sub, col, dd, k0, k1, k2, k3, k5, X _ _ ho⟩, .of_isNs (isNs_of_in X hok)⟩, fun n hn => nsMap_none_of_in X hok (beq_iff_eq.mp (List.all_eq_true.mp hni n hn))⟩
    · cases q
  · cases q
end Mine


end
noncomputable section
set_option autoImplicit false
set_option linter.unusedVariables false
namespace Mine
open PySem PySem.W PyProof.Rows PySem.Calls
noncomputable def attrOf (x : String) (v : V) (σ : View) (Q : V → View → Prop) : Prop := ∃ a dx fs t, v = .ref a ∧ σ a = some (.inst dx) ∧ σ dx = some (.ns fs) ∧ fs.lookup x = some (.ref t) ∧ Q (.ref t) σ
noncomputable def isInst (f : String) (v : V) (σ : View) : Prop := ∃ a dx fs, v = .ref a ∧ σ a = some (.inst dx) ∧ σ dx = some (.ns fs) ∧ fs.lookup f = none
noncomputable def sortKI (v : V) (σ : View) (Q : V → View → Prop) : Prop := ∃ a kvs ep, v = .ref a ∧ σ a = some (.idict kvs ep) ∧ kvs.length < 64 ∧ newL ((isrt (kvs.map (·.1))).map .int) σ Q
noncomputable def listRev (v : V) (σ : View) (Q : V → View → Prop) : Prop := ∃ a xs, v = .ref a ∧ σ a = some (.list xs) ∧ newL xs.reverse σ Q
noncomputable def setAt (x : String) (v o : V) (σ : View) (F : View → Prop) : Prop := ∃ a dx fs, o = .ref a ∧ σ a = some (.inst dx) ∧ σ dx = some (.ns fs) ∧ fs.length < 1000 ∧ F (upd σ dx (.ns ((x, v) :: fs)))
section
variable {m : Loc} {σ : View} {Q : V → View → Prop} {X : String → View → Prop} {R : Fl → Loc → View → Prop} {J : List V → (View → Prop) → View → Prop} {ns : List Int}
@[simp] theorem eAttr_eq {x : String} {T : ET} : eAttr x T m σ Q = T m σ fun v σ' => attrOf x v σ' Q := rfl
@[simp] theorem eMCall_eq {f : String} {spec : Spec} {T : ET} {L : LT} : eMCall f spec T L m σ Q = T m σ fun v σ₁ => isInst f v σ₁ ∧ L m σ₁ fun vs σ₂ => spec (v :: vs) σ₂ Q := rfl
@[simp] theorem xMCall_eq {f : String} {spec : SpecX} {T : ET} {L : LT} : xMCall f spec T L m σ Q X = T m σ fun v σ₁ => isInst f v σ₁ ∧ L m σ₁ fun vs σ₂ => spec (v :: vs) σ₂ Q X := rfl
@[simp] theorem sSetA_eq {x : String} {T To : ET} : sSetA x T To m σ R = T m σ fun v σ₁ => To m σ₁ fun o σ₂ => setAt x v o σ₂ fun σ₃ => R .next m σ₃ := rfl
theorem set_attr {x : String} {v : V} {a dx : Addr} {fs : List (String × V)} {F : View → Prop} (h1 : σ a = some (.inst dx)) (h2 : σ dx = some (.ns fs)) (h3 : fs.length < 1000) (q : F (upd σ dx (.ns ((x, v) :: fs)))) : setAt x v (.ref a) σ F := ⟨a, dx, fs, rfl, h1, h2, h3, q⟩
@[simp] theorem eNew_eq {spec : Spec} : eNew spec m σ Q = ∀ a dx, σ a = none → σ dx = none → dx ≠ a → spec [.ref a] (upd (upd σ dx (.ns [])) a (.inst dx)) fun r σ' => r = .none ∧ Q (.ref a) σ' := rfl
noncomputable def isInt (v : V) (F : Int → Prop) : Prop := ∃ i, v = .int i ∧ F i
@[simp] theorem isInt_int (i : Int) (F : Int → Prop) : isInt (.int i) F = F i := propext ⟨fun ⟨_, e, h⟩ => by cases e; exact h, fun h => ⟨i, rfl, h⟩⟩
noncomputable def isStr (v : V) (F : Str → Prop) : Prop := ∃ i, v = .str i ∧ F i
@[simp] theorem isStr_str (i : Str) (F : Str → Prop) : isStr (.str i) F = F i := propext ⟨fun ⟨_, e, h⟩ => by cases e; exact h, fun h => ⟨i, rfl, h⟩⟩
@[simp] theorem eDictI1_eq {T U : ET} : eDictI1 T U m σ Q = T m σ fun v σ₁ => U m σ₁ fun u σ₂ => isInt v fun i => newI [(i, u)] σ₂ Q := rfl
@[simp] theorem eDictS1_eq {T U : ET} : eDictS1 T U m σ Q = T m σ fun v σ₁ => U m σ₁ fun u σ₂ => isStr v fun i => newD [(i, u)] σ₂ Q := rfl
@[simp] theorem eSortKI_eq {T : ET} : eSortKI T m σ Q = T m σ fun v σ₁ => sortKI v σ₁ Q := rfl
theorem sort_idict {a : Addr} {kvs : List (Int × V)} {ep : Nat} (h : σ a = some (.idict kvs ep)) (hz : kvs.length < 64) (q : newL ((isrt (kvs.map (·.1))).map .int) σ Q) : sortKI (.ref a) σ Q := ⟨a, kvs, ep, rfl, h, hz, q⟩
@[simp] theorem eListRev_eq {T : ET} : eListRev T m σ Q = T m σ fun v σ₁ => listRev v σ₁ Q := rfl
theorem rev_list {a : Addr} {xs : List V} (h : σ a = some (.list xs)) (q : newL xs.reverse σ Q) : listRev (.ref a) σ Q := ⟨a, xs, rfl, h, q⟩
@[simp] theorem iDown_eq {L : LT} : iDown L m σ J = L m σ fun vs σ' => downOf vs σ' J := rfl
@[simp] theorem down_3 {a b c : Int} : downOf [.int a, .int b, .int c] σ J = ((b = -1 ∧ c = -1 ∧ 0 ≤ a ∧ a < 1000000) ∧ J (downL a) (fun _ => True) σ) := rfl
theorem set_idict {a : Addr} {kvs : List (Int × V)} {ep : Nat} {x : Int} {v : V} {R : View → Prop} (h : σ a = some (.idict kvs ep)) (hz : kvs.length < 16777216) (q : ∀ ep', R (upd σ a (.idict (istored kvs x v) ep'))) : setI (.ref a) (.int x) v σ R := ⟨kvs, ep, h, hz, q⟩
theorem in_idict {a : Addr} {kvs : List (Int × V)} {ep : Nat} {x : Int} (h : σ a = some (.idict kvs ep)) (q : Q (.bool (iget kvs x).isSome) σ) : opInI (.int x) (.ref a) σ Q := ⟨kvs, ep, h, q⟩
theorem notin_idict {a : Addr} {kvs : List (Int × V)} {ep : Nat} {x : Int} (h : σ a = some (.idict kvs ep)) (q : Q (.bool (!(iget kvs x).isSome)) σ) : opNotInI (.int x) (.ref a) σ Q := ⟨kvs, ep, h, q⟩
theorem item_idict {a : Addr} {kvs : List (Int × V)} {ep : Nat} {x : Int} {v : V} (h : σ a = some (.idict kvs ep)) (hv : iget kvs x = some v) (q : Q v σ) : opItemI (.ref a) (.int x) σ Q := ⟨kvs, ep, v, h, hv, q⟩
theorem max_list {a : Addr} {ys : List Int} (h : σ a = some (.list (ys.map .int))) (hn : 0 < ys.length) (q : ∀ M, M ∈ ys → (∀ b, b ∈ ys → b ≤ M) → Q (.int M) σ) : spMaxL [.ref a] σ Q := ⟨ys, h, hn, q⟩
end
theorem down_get {a : Int} {i : Nat} {v : V} (h : (downL a)[i]? = some v) : i < (a + 1).toNat ∧ v = .int (a - i) := by
  unfold downL at h
  rw [List.getElem?_map] at h
  obtain ⟨j, hj, rfl⟩ := Option.map_eq_some_iff.mp h
  obtain ⟨h1, h2⟩ := List.getElem?_eq_some_iff.mp hj
  simp at h1 h2
  subst h2
  exact ⟨by omega, rfl⟩
theorem down_len (a : Int) : (downL a).length = (a + 1).toNat := by simp [downL]
/- keys of int dicts -/
theorem iget_isSome (kvs : List (Int × V)) (x : Int) : (iget kvs x).isSome = decide (x ∈ kvs.map (·.1)) := by
  unfold iget
  rw [Option.isSome_map, Bool.eq_iff_iff, List.find?_isSome]
  simp
theorem istored_keys (kvs : List (Int × V)) (k : Int) (v : V) : ∀ x, x ∈ (istored kvs k v).map (·.1) ↔ x = k ∨ x ∈ kvs.map (·.1) := by
  intro x
  unfold istored
  split
  · rename_i h
    have e : (kvs.map fun kv => if kv.1 = k then (kv.1, v) else kv).map (·.1) = kvs.map (·.1) := by
      rw [List.map_map]; apply List.map_congr_left; intro q _; simp only [Function.comp]; split <;> rfl
    rw [e]
    have hk : k ∈ kvs.map (·.1) := by
      obtain ⟨q, hq, e⟩ := List.any_eq_true.mp h
      exact List.mem_map.mpr ⟨q, hq, by simpa using e⟩
    constructor
    · exact .inr
    · rintro (rfl | h)
      · exact hk
      · exact h
  · simp only [List.map_append, List.mem_append, List.map_cons, List.map_nil, List.mem_singleton]
    constructor
    · rintro (h | h)
      · exact .inr h
      · exact .inl h
    · rintro (h | h)
      · exact .inr h
      · exact .inl h
theorem istored_nodup {kvs : List (Int × V)} {k : Int} {v : V} (h : (kvs.map (·.1)).Nodup) : ((istored kvs k v).map (·.1)).Nodup := by
  unfold istored
  split
  · have e : (kvs.map fun kv => if kv.1 = k then (kv.1, v) else kv).map (·.1) = kvs.map (·.1) := by
      rw [List.map_map]; apply List.map_congr_left; intro q _; simp only [Function.comp]; split <;> rfl
    rw [e]; exact h
  · rename_i hn
    rw [List.map_append, List.nodup_append]
    refine ⟨h, by simp, ?_⟩
    intro a ha b hb
    simp at hb
    subst hb
    rintro rfl
    obtain ⟨q, hq, e⟩ := List.mem_map.mp ha
    exact hn (List.any_eq_true.mpr ⟨q, hq, by simpa using e⟩)
theorem iget_stored (kvs : List (Int × V)) (k : Int) (v : V) (x : Int) : iget (istored kvs k v) x = if x = k then some v else iget kvs x := by
  unfold istored
  split
  · rename_i h
    induction kvs with
    | nil => simp at h
    | cons q r ih =>
      unfold iget
      simp only [List.map_cons]
      by_cases hq : q.1 = k
      · rw [if_pos hq]
        by_cases hx : x = k
        · rw [if_pos hx, List.find?_cons_of_pos (by simp [hq, hx])]; rfl
        · rw [if_neg hx, List.find?_cons_of_neg (by simp; intro e; exact hx (e ▸ hq)), List.find?_cons_of_neg (by simp; intro e; exact hx (e ▸ hq))]
          clear ih h
          induction r with
          | nil => rfl
          | cons q' r' ih' =>
            simp only [List.map_cons]
            by_cases hq' : q'.1 = k
            · rw [if_pos hq', List.find?_cons_of_neg (by simp; intro e; exact hx (e ▸ hq')), List.find?_cons_of_neg (by simp; intro e; exact hx (e ▸ hq'))]; exact ih'
            · rw [if_neg hq']
              by_cases hx' : q'.1 = x
              · rw [List.find?_cons_of_pos (by simp [hx']), List.find?_cons_of_pos (by simp [hx'])]
              · rw [List.find?_cons_of_neg (by simp [hx']), List.find?_cons_of_neg (by simp [hx'])]; exact ih'
      · rw [if_neg hq]
        have hr : (r.any fun kv => decide (kv.1 = k)) = true := by
          simp only [List.any_cons, Bool.or_eq_true, decide_eq_true_eq] at h
          rcases h with h | h
          · exact absurd h hq
          · exact h
        have := ih hr
        unfold iget at this
        by_cases hx : q.1 = x
        · rw [List.find?_cons_of_pos (by simp [hx]), List.find?_cons_of_pos (by simp [hx]), if_neg (by intro e; exact hq (hx.trans e))]
        · rw [List.find?_cons_of_neg (by simp [hx]), List.find?_cons_of_neg (by simp [hx])]; exact this
  · rename_i h
    unfold iget
    rw [List.find?_append]
    by_cases hx : x = k
    · subst hx
      rw [if_pos rfl]
      have : kvs.find? (fun kv => decide (kv.1 = x)) = none := by
        rw [List.find?_eq_none]
        intro q hq e
        exact h (List.any_eq_true.mpr ⟨q, hq, e⟩)
      rw [this]; simp
    · rw [if_neg hx]
      have : List.find? (fun kv => decide (kv.1 = x)) [(k, v)] = none := by simp; intro e; exact hx e.symm
      rw [this]; simp
end Mine


end
noncomputable section
set_option autoImplicit false
set_option maxRecDepth 100000
set_option maxHeartbeats 0
set_option Elab.async false
namespace Mine
namespace Hd
noncomputable section
set_option linter.unusedVariables false
open PySem PySem.W PyProof.Rows PySem.Calls
theorem topGo_q : topGo = PySem.W.Fast.tw15667345088766844465 := PySem.W.Fast.te15667345088766844465
theorem segRun_q : segRun = PySem.W.Fast.tw14374325043358763698 := PySem.W.Fast.te14374325043358763698
theorem segRunT_q : segRunT = PySem.W.Fast.tw10110043849684766642 := PySem.W.Fast.te10110043849684766642
theorem topRun_q : topRun = PySem.W.Fast.tw14082659384304107361 := PySem.W.Fast.te14082659384304107361
theorem table_q : treeTable = PySem.W.Fast.tw14364793385576792824 := PySem.W.Fast.te14364793385576792824
theorem denote_q : denote = PySem.W.Fast.tw11892475500146522536 := PySem.W.Fast.te11892475500146522536
noncomputable def fA (l : List Stmt) (n : Nat) : Arguments := match l[n]? with | some (.FunctionDef _ a _ _ _ _ _ _ _ _) => a | _ => default
noncomputable def fB (l : List Stmt) (n : Nat) : List Stmt := match l[n]? with | some (.FunctionDef _ _ b _ _ _ _ _ _ _) => b | _ => []
noncomputable def fS (l : List Stmt) (n : Nat) : Scope := match l[n]? with | some (.FunctionDef _ _ _ _ _ _ s _ _ _) => s | _ => default
noncomputable def cB (l : List Stmt) (n : Nat) : List Stmt := match l[n]? with | some (.ClassDef _ _ _ b ..) => b | _ => []
noncomputable def cS (l : List Stmt) (n : Nat) : Scope := match l[n]? with | some (.ClassDef _ _ _ _ _ _ s ..) => s | _ => default
abbrev pw : Program := PySem.Challenge.pw_uf050007_10
abbrev TB : List Stmt := pw.main.body
noncomputable def vw : Program := view pw [1, 2, 3, 4, 5, 6, 7, 8, 10, 11, 12, 13, 14, 15, 16, 18, 19, 20, 21, 22, 23, 25, 26, 28, 30, 31, 32, 33, 34]
noncomputable def env : Env := { scope := pw.main.scope, locals := mainNs, globals := mainNs, cells := [], code := (.ref (nat_lit 13)), frame := some 14 }
noncomputable def ann : Option Value := (some (.ref (nat_lit 6)))
abbrev cE : Code := .body (behindTheImports pw) env
noncomputable def qq : Pos := (@Pos.mk (nat_lit 0) (nat_lit 0) (nat_lit 0) (nat_lit 0))
abbrev BB : List Frame := [topFrame qq]
abbrev s0 (w : World) (os : OsState) : Shared := Shared.mk (boot_heap w.params) (@Array.mk GenState []) boot_drawn boot_toks os
noncomputable def o11_0 (P : Params) : Obj := (.mk (.type "tuple") none (.seq (List.toArray []) (nat_lit 0)) (List.toArray []))
noncomputable def o12_0 (P : Params) : Obj := (.mk Value.none none (.fields (List.toArray [])) (List.toArray []))
noncomputable def o13_0 (P : Params) : Obj := (.mk (.type "code") none (.fields (List.toArray [(.str "<module>" (nat_lit 182)), (.str "<module>" (nat_lit 183)), (.str "/claim/cut.py" (nat_lit 184)), (.int ((nat_lit 1) : Int) (nat_lit 0)), (.int ((nat_lit 0) : Int) (nat_lit 0)), (.int ((nat_lit 0) : Int) (nat_lit 0)), (.int ((nat_lit 0) : Int) (nat_lit 0)), (.int ((nat_lit 0) : Int) (nat_lit 0)), (.ref (nat_lit 11)), (.bool false), (.int ((nat_lit 181) : Int) (nat_lit 0)), (.ref (nat_lit 12)), Value.none, Value.none, Value.none, Value.none, (.int ((nat_lit 185) : Int) (nat_lit 0)), (.int ((nat_lit 1) : Int) (nat_lit 0)), (.str "/claim/cut.py" (nat_lit 186))])) (List.toArray []))
noncomputable def o14_0 (P : Params) : Obj := (.mk (.type "frame") none .plain (List.toArray [(some (.ref (nat_lit 13))), (some (.ref (nat_lit 3))), (some (.ref (nat_lit 3))), none, (some (.str "__main__" (nat_lit 164))), none, (some (.ref (nat_lit 0)))]))
noncomputable def hp_a (P : Params) : Heap := Heap.mk (@Array.mk Obj [boot_o_0 P, boot_o_1 P, boot_o_2 P, boot_o_3 P, boot_o_4 P, boot_o_5 P, boot_o_6 P, boot_o_7 P, boot_o_8 P, boot_o_9 P, boot_o_10 P, o11_0 P, o12_0 P, o13_0 P, o14_0 P]) (@Life.mk [] [] [] (nat_lit 0) [] [] false (@List.toArray @Nat []) [] (nat_lit 0) false false false ((nat_lit 0) : Int) [((nat_lit 2000) : Int), ((nat_lit 10) : Int), ((nat_lit 10) : Int)] false (nat_lit 0) true [] [] (nat_lit 0) false)
abbrev sl_a (w : World) (os : OsState) : Shared := Shared.mk (hp_a w.params) (@Array.mk GenState []) (@Drawn.mk (nat_lit 0) (nat_lit 0) (nat_lit 0) (nat_lit 0)) (nat_lit 187) os
noncomputable def tr_b (P : Params) : PySem.W.BT := (.node (boot_o_0 P) (.node (boot_o_1 P) (.node (boot_o_3 P) (.node (boot_o_7 P) .nil .nil) (.node (o11_0 P) .nil .nil)) (.node (boot_o_5 P) (.node (boot_o_9 P) .nil .nil) (.node (o13_0 P) .nil .nil))) (.node (boot_o_2 P) (.node (boot_o_4 P) (.node (boot_o_8 P) .nil .nil) (.node (o12_0 P) .nil .nil)) (.node (boot_o_6 P) (.node (boot_o_10 P) .nil .nil) (.node (o14_0 P) .nil .nil))))
abbrev st_b (w : World) (os : OsState) : SharedT := SharedT.mk (tr_b w.params) (nat_lit 15) (@Life.mk [] [] [] (nat_lit 0) [] [] false (@List.toArray @Nat []) [] (nat_lit 0) false false false ((nat_lit 0) : Int) [((nat_lit 2000) : Int), ((nat_lit 10) : Int), ((nat_lit 10) : Int)] false (nat_lit 0) true [] [] (nat_lit 0) false) (@Array.mk GenState []) (@Drawn.mk (nat_lit 0) (nat_lit 0) (nat_lit 0) (nat_lit 0)) (nat_lit 187) os
theorem q_pre : ∀ w : World, (fun os => topGo treeTable pw w 11 ann (nat_lit 12) (s0 w os) (topStub pw)) = fun os => some (sl_a w os, Thread.mk (denote treeTable cE) cE (@Pos.mk (nat_lit 0) (nat_lit 0) (nat_lit 0) (nat_lit 0)) BB) := fun w => by rw [topGo_q, table_q, denote_q]; kernel_rfl
theorem q_block : ∀ w : World, (fun os => segRun treeTable pw w 11 ann 1 (nat_lit 1) (sl_a w os) (blockOf (behindTheImports pw) env cE (@Pos.mk (nat_lit 0) (nat_lit 0) (nat_lit 0) (nat_lit 0)) BB)) = fun os => some (Flow.next, (st_b w os).abs, cE, (@Pos.mk (nat_lit 0) (nat_lit 0) (nat_lit 0) (nat_lit 0))) := fun w => by rw [segRun_q, table_q]; kernel_rfl
noncomputable def o3_0 (P : Params) : Obj := (.mk (.type "dict") none (.dict (List.toArray [(.mk (PyData.keyHash P "__name__") (.str "__name__" (nat_lit 165)) (.str "threeroad.errors" (nat_lit 187))), (.mk (PyData.keyHash P "__doc__") (.str "__doc__" (nat_lit 166)) Value.none), (.mk (PyData.keyHash P "__package__") (.str "__package__" (nat_lit 167)) Value.none), (.mk (PyData.keyHash P "__loader__") (.str "__loader__" (nat_lit 168)) (.builtin "__main__.__loader__#opaque")), (.mk (PyData.keyHash P "__spec__") (.str "__spec__" (nat_lit 169)) Value.none), (.mk (PyData.keyHash P "__annotations__") (.str "__annotations__" (nat_lit 170)) (.ref (nat_lit 6))), (.mk (PyData.keyHash P "__builtins__") (.str "__builtins__" (nat_lit 171)) (.ref (nat_lit 4))), (.mk (PyData.keyHash P "__file__") (.str "__file__" (nat_lit 173)) (.str "/claim/cut.py" (nat_lit 172))), (.mk (PyData.keyHash P "__cached__") (.str "__cached__" (nat_lit 174)) Value.none), (.mk (PyData.keyHash P "RoadError") (.str "RoadError" (nat_lit 206)) (.ref (nat_lit 24))), (.mk (PyData.keyHash P "NoPath") (.str "NoPath" (nat_lit 222)) (.ref (nat_lit 37)))]) (nat_lit 11)) (List.toArray []))
noncomputable def o12_1 (P : Params) : Obj := (.mk Value.none none (.fields (List.toArray [(.int ((nat_lit 2) : Int) (nat_lit 0)), (.int ((nat_lit 0) : Int) (nat_lit 0)), (.ref (nat_lit 20)), (.int ((nat_lit 4) : Int) (nat_lit 0)), (.int ((nat_lit 0) : Int) (nat_lit 0)), (.ref (nat_lit 33))])) (List.toArray []))
noncomputable def o15_0 (P : Params) : Obj := (.mk (.type "tuple") none (.seq (List.toArray [(.type "ValueError")]) (nat_lit 0)) (List.toArray []))
noncomputable def o16_0 (P : Params) : Obj := (.mk (.type "builtin_function_or_method") none (.fields (List.toArray [(.builtin "type.__prepare__"), (.type "type")])) (List.toArray []))
noncomputable def o17_0 (P : Params) : Obj := (.mk (.type "dict") none (.dict (List.toArray [(.mk (PyData.keyHash P "__module__") (.str "__module__" (nat_lit 196)) (.str "threeroad.errors" (nat_lit 187))), (.mk (PyData.keyHash P "__qualname__") (.str "__qualname__" (nat_lit 198)) (.str "RoadError" (nat_lit 197))), (.mk (PyData.keyHash P "__firstlineno__") (.str "__firstlineno__" (nat_lit 200)) (.int ((nat_lit 2) : Int) (nat_lit 199))), (.mk (PyData.keyHash P "__static_attributes__") (.str "__static_attributes__" (nat_lit 201)) (.ref (nat_lit 22)))]) (nat_lit 4)) (List.toArray []))
noncomputable def o18_0 (P : Params) : Obj := (.mk (.type "tuple") none (.seq (List.toArray []) (nat_lit 0)) (List.toArray []))
noncomputable def o19_0 (P : Params) : Obj := (.mk Value.none none (.fields (List.toArray [])) (List.toArray []))
noncomputable def o20_0 (P : Params) : Obj := (.mk (.type "code") none (.fields (List.toArray [(.str "RoadError" (nat_lit 191)), (.str "RoadError" (nat_lit 192)), (.str "/claim/cut.py" (nat_lit 193)), (.int ((nat_lit 2) : Int) (nat_lit 0)), (.int ((nat_lit 0) : Int) (nat_lit 0)), (.int ((nat_lit 0) : Int) (nat_lit 0)), (.int ((nat_lit 0) : Int) (nat_lit 0)), (.int ((nat_lit 0) : Int) (nat_lit 0)), (.ref (nat_lit 18)), (.bool false), (.int ((nat_lit 181) : Int) (nat_lit 0)), (.ref (nat_lit 19)), Value.none, Value.none, Value.none, Value.none, (.int ((nat_lit 194) : Int) (nat_lit 0)), (.int ((nat_lit 2) : Int) (nat_lit 0)), (.str "/claim/cut.py" (nat_lit 195))])) (List.toArray []))
noncomputable def o21_0 (P : Params) : Obj := (.mk (.type "frame") none .plain (List.toArray [(some (.ref (nat_lit 20))), (some (.ref (nat_lit 3))), (some (.ref (nat_lit 17))), none, (some (.str "threeroad.errors" (nat_lit 187))), none, (some (.ref (nat_lit 0)))]))
noncomputable def o22_0 (P : Params) : Obj := (.mk (.type "tuple") none (.seq (List.toArray []) (nat_lit 0)) (List.toArray []))
noncomputable def o23_0 (P : Params) : Obj := (.mk (.type "dict") none (.dict (List.toArray [(.mk (PyData.keyHash P "__module__") (.str "__module__" (nat_lit 196)) (.str "threeroad.errors" (nat_lit 187))), (.mk (PyData.keyHash P "__firstlineno__") (.str "__firstlineno__" (nat_lit 200)) (.int ((nat_lit 2) : Int) (nat_lit 199))), (.mk (PyData.keyHash P "__static_attributes__") (.str "__static_attributes__" (nat_lit 201)) (.ref (nat_lit 22))), (.mk (PyData.keyHash P "__weakref__") (.str "__weakref__" (nat_lit 203)) (.ref (nat_lit 25))), (.mk (PyData.keyHash P "__doc__") (.str "__doc__" (nat_lit 204)) Value.none)]) (nat_lit 3)) (List.toArray []))
noncomputable def o24_0 (P : Params) : Obj := (.mk (.type "type") none (.cls (.mk "RoadError" [(.type "ValueError")] [(.ref (nat_lit 24)), (.type "ValueError"), (.type "Exception"), (.type "BaseException"), (.type "object")] (nat_lit 23) "RoadError" true [] [(.ref (nat_lit 37))] false none false)) (List.toArray [(some (.ref (nat_lit 15))), none, (some (.str "RoadError" (nat_lit 189))), (some (.str "RoadError" (nat_lit 197))), (some (.builtin "ValueError.__new__")), (some (.bool true))]))
noncomputable def o25_0 (P : Params) : Obj := (.mk (.type "getset_descriptor") none (.fields (List.toArray [(.str "__weakref__" (nat_lit 202)), (.ref (nat_lit 24)), (.builtin "ExceptionGroup.__weakref__"), Value.none])) (List.toArray []))
noncomputable def o26_0 (P : Params) : Obj := (.mk (.type "super") none (.fields (List.toArray [(.ref (nat_lit 24)), (.ref (nat_lit 24)), (.ref (nat_lit 24))])) (List.toArray []))
noncomputable def o27_0 (P : Params) : Obj := (.mk (.type "builtin_function_or_method") none (.fields (List.toArray [(.builtin "object.__init_subclass__"), (.ref (nat_lit 24))])) (List.toArray []))
noncomputable def o28_0 (P : Params) : Obj := (.mk (.type "tuple") none (.seq (List.toArray [(.ref (nat_lit 24))]) (nat_lit 0)) (List.toArray []))
noncomputable def o29_0 (P : Params) : Obj := (.mk (.type "builtin_function_or_method") none (.fields (List.toArray [(.builtin "type.__prepare__"), (.type "type")])) (List.toArray []))
noncomputable def o30_0 (P : Params) : Obj := (.mk (.type "dict") none (.dict (List.toArray [(.mk (PyData.keyHash P "__module__") (.str "__module__" (nat_lit 214)) (.str "threeroad.errors" (nat_lit 187))), (.mk (PyData.keyHash P "__qualname__") (.str "__qualname__" (nat_lit 216)) (.str "NoPath" (nat_lit 215))), (.mk (PyData.keyHash P "__firstlineno__") (.str "__firstlineno__" (nat_lit 218)) (.int ((nat_lit 4) : Int) (nat_lit 217))), (.mk (PyData.keyHash P "__static_attributes__") (.str "__static_attributes__" (nat_lit 219)) (.ref (nat_lit 35)))]) (nat_lit 4)) (List.toArray []))
noncomputable def o31_0 (P : Params) : Obj := (.mk (.type "tuple") none (.seq (List.toArray []) (nat_lit 0)) (List.toArray []))
noncomputable def o32_0 (P : Params) : Obj := (.mk Value.none none (.fields (List.toArray [])) (List.toArray []))
noncomputable def o33_0 (P : Params) : Obj := (.mk (.type "code") none (.fields (List.toArray [(.str "NoPath" (nat_lit 209)), (.str "NoPath" (nat_lit 210)), (.str "/claim/cut.py" (nat_lit 211)), (.int ((nat_lit 4) : Int) (nat_lit 0)), (.int ((nat_lit 0) : Int) (nat_lit 0)), (.int ((nat_lit 0) : Int) (nat_lit 0)), (.int ((nat_lit 0) : Int) (nat_lit 0)), (.int ((nat_lit 0) : Int) (nat_lit 0)), (.ref (nat_lit 31)), (.bool false), (.int ((nat_lit 181) : Int) (nat_lit 0)), (.ref (nat_lit 32)), Value.none, Value.none, Value.none, Value.none, (.int ((nat_lit 212) : Int) (nat_lit 0)), (.int ((nat_lit 4) : Int) (nat_lit 0)), (.str "/claim/cut.py" (nat_lit 213))])) (List.toArray []))
noncomputable def o34_0 (P : Params) : Obj := (.mk (.type "frame") none .plain (List.toArray [(some (.ref (nat_lit 33))), (some (.ref (nat_lit 3))), (some (.ref (nat_lit 30))), none, (some (.str "threeroad.errors" (nat_lit 187))), none, (some (.ref (nat_lit 0)))]))
noncomputable def o35_0 (P : Params) : Obj := (.mk (.type "tuple") none (.seq (List.toArray []) (nat_lit 0)) (List.toArray []))
noncomputable def o36_0 (P : Params) : Obj := (.mk (.type "dict") none (.dict (List.toArray [(.mk (PyData.keyHash P "__module__") (.str "__module__" (nat_lit 214)) (.str "threeroad.errors" (nat_lit 187))), (.mk (PyData.keyHash P "__firstlineno__") (.str "__firstlineno__" (nat_lit 218)) (.int ((nat_lit 4) : Int) (nat_lit 217))), (.mk (PyData.keyHash P "__static_attributes__") (.str "__static_attributes__" (nat_lit 219)) (.ref (nat_lit 35))), (.mk (PyData.keyHash P "__doc__") (.str "__doc__" (nat_lit 220)) Value.none)]) (nat_lit 2)) (List.toArray []))
noncomputable def o37_0 (P : Params) : Obj := (.mk (.type "type") none (.cls (.mk "NoPath" [(.ref (nat_lit 24))] [(.ref (nat_lit 37)), (.ref (nat_lit 24)), (.type "ValueError"), (.type "Exception"), (.type "BaseException"), (.type "object")] (nat_lit 36) "NoPath" true [] [] false none false)) (List.toArray [(some (.ref (nat_lit 28))), none, (some (.str "NoPath" (nat_lit 207))), (some (.str "NoPath" (nat_lit 215))), (some (.builtin "ValueError.__new__")), (some (.bool true))]))
noncomputable def o38_0 (P : Params) : Obj := (.mk (.type "super") none (.fields (List.toArray [(.ref (nat_lit 37)), (.ref (nat_lit 37)), (.ref (nat_lit 37))])) (List.toArray []))
noncomputable def o39_0 (P : Params) : Obj := (.mk (.type "builtin_function_or_method") none (.fields (List.toArray [(.builtin "object.__init_subclass__"), (.ref (nat_lit 37))])) (List.toArray []))
noncomputable def tr_3 (P : Params) : PySem.W.BT := (.node (boot_o_0 P) (.node (boot_o_1 P) (.node (o3_0 P) (.node (boot_o_7 P) (.node (o15_0 P) (.node (o31_0 P) .nil .nil) .nil) (.node (o23_0 P) (.node (o39_0 P) .nil .nil) .nil)) (.node (o11_0 P) (.node (o19_0 P) (.node (o35_0 P) .nil .nil) .nil) (.node (o27_0 P) .nil .nil))) (.node (boot_o_5 P) (.node (boot_o_9 P) (.node (o17_0 P) (.node (o33_0 P) .nil .nil) .nil) (.node (o25_0 P) .nil .nil)) (.node (o13_0 P) (.node (o21_0 P) (.node (o37_0 P) .nil .nil) .nil) (.node (o29_0 P) .nil .nil)))) (.node (boot_o_2 P) (.node (boot_o_4 P) (.node (boot_o_8 P) (.node (o16_0 P) (.node (o32_0 P) .nil .nil) .nil) (.node (o24_0 P) .nil .nil)) (.node (o12_1 P) (.node (o20_0 P) (.node (o36_0 P) .nil .nil) .nil) (.node (o28_0 P) .nil .nil))) (.node (boot_o_6 P) (.node (boot_o_10 P) (.node (o18_0 P) (.node (o34_0 P) .nil .nil) .nil) (.node (o26_0 P) .nil .nil)) (.node (o14_0 P) (.node (o22_0 P) (.node (o38_0 P) .nil .nil) .nil) (.node (o30_0 P) .nil .nil)))))
abbrev st_3 (w : World) (os : OsState) : SharedT := SharedT.mk (tr_3 w.params) (nat_lit 40) (@Life.mk [] [] [] (nat_lit 0) [] [] false (@List.toArray @Nat []) [] (nat_lit 0) false false false ((nat_lit 0) : Int) [((nat_lit 2000) : Int), ((nat_lit 10) : Int), ((nat_lit 10) : Int)] false (nat_lit 0) true [] [] (nat_lit 0) false) (@Array.mk GenState []) (@Drawn.mk (nat_lit 0) (nat_lit 0) (nat_lit 0) (nat_lit 0)) (nat_lit 223) os
noncomputable def ss_3 : List Stmt := ((behindTheImports pw).drop 0).take 3
theorem q_3 : ∀ w : World, (fun os => segRunT treeTable pw w 11 ann 1 (nat_lit 409) (st_b w os) (piecesOf ss_3 env cE (@Pos.mk (nat_lit 0) (nat_lit 0) (nat_lit 0) (nat_lit 0)) BB)) = fun os => some (Flow.next, st_3 w os, cE, (@Pos.mk (nat_lit 4) (nat_lit 0) (nat_lit 5) (nat_lit 8))) := fun w => by rw [segRunT_q, table_q]; kernel_rfl
noncomputable def o3_1 (P : Params) : Obj := (.mk (.type "dict") none (.dict (List.toArray [(.mk (PyData.keyHash P "__name__") (.str "__name__" (nat_lit 165)) (.str "threeroad.errors" (nat_lit 187))), (.mk (PyData.keyHash P "__doc__") (.str "__doc__" (nat_lit 166)) Value.none), (.mk (PyData.keyHash P "__package__") (.str "__package__" (nat_lit 167)) Value.none), (.mk (PyData.keyHash P "__loader__") (.str "__loader__" (nat_lit 168)) (.builtin "__main__.__loader__#opaque")), (.mk (PyData.keyHash P "__spec__") (.str "__spec__" (nat_lit 169)) Value.none), (.mk (PyData.keyHash P "__annotations__") (.str "__annotations__" (nat_lit 170)) (.ref (nat_lit 6))), (.mk (PyData.keyHash P "__builtins__") (.str "__builtins__" (nat_lit 171)) (.ref (nat_lit 4))), (.mk (PyData.keyHash P "__file__") (.str "__file__" (nat_lit 173)) (.str "/claim/cut.py" (nat_lit 172))), (.mk (PyData.keyHash P "__cached__") (.str "__cached__" (nat_lit 174)) Value.none), (.mk (PyData.keyHash P "RoadError") (.str "RoadError" (nat_lit 206)) (.ref (nat_lit 24))), (.mk (PyData.keyHash P "NoPath") (.str "NoPath" (nat_lit 222)) (.ref (nat_lit 37))), (.mk (PyData.keyHash P "NoFile") (.str "NoFile" (nat_lit 238)) (.ref (nat_lit 49))), (.mk (PyData.keyHash P "InTheWay") (.str "InTheWay" (nat_lit 254)) (.ref (nat_lit 61)))]) (nat_lit 13)) (List.toArray []))
noncomputable def o12_2 (P : Params) : Obj := (.mk Value.none none (.fields (List.toArray [(.int ((nat_lit 2) : Int) (nat_lit 0)), (.int ((nat_lit 0) : Int) (nat_lit 0)), (.ref (nat_lit 20)), (.int ((nat_lit 4) : Int) (nat_lit 0)), (.int ((nat_lit 0) : Int) (nat_lit 0)), (.ref (nat_lit 33)), (.int ((nat_lit 6) : Int) (nat_lit 0)), (.int ((nat_lit 0) : Int) (nat_lit 0)), (.ref (nat_lit 45)), (.int ((nat_lit 8) : Int) (nat_lit 0)), (.int ((nat_lit 0) : Int) (nat_lit 0)), (.ref (nat_lit 57))])) (List.toArray []))
noncomputable def o24_1 (P : Params) : Obj := (.mk (.type "type") none (.cls (.mk "RoadError" [(.type "ValueError")] [(.ref (nat_lit 24)), (.type "ValueError"), (.type "Exception"), (.type "BaseException"), (.type "object")] (nat_lit 23) "RoadError" true [] [(.ref (nat_lit 37)), (.ref (nat_lit 49)), (.ref (nat_lit 61))] false none false)) (List.toArray [(some (.ref (nat_lit 15))), none, (some (.str "RoadError" (nat_lit 189))), (some (.str "RoadError" (nat_lit 197))), (some (.builtin "ValueError.__new__")), (some (.bool true))]))
noncomputable def o40_0 (P : Params) : Obj := (.mk (.type "tuple") none (.seq (List.toArray [(.ref (nat_lit 24))]) (nat_lit 0)) (List.toArray []))
noncomputable def o41_0 (P : Params) : Obj := (.mk (.type "builtin_function_or_method") none (.fields (List.toArray [(.builtin "type.__prepare__"), (.type "type")])) (List.toArray []))
noncomputable def o42_0 (P : Params) : Obj := (.mk (.type "dict") none (.dict (List.toArray [(.mk (PyData.keyHash P "__module__") (.str "__module__" (nat_lit 230)) (.str "threeroad.errors" (nat_lit 187))), (.mk (PyData.keyHash P "__qualname__") (.str "__qualname__" (nat_lit 232)) (.str "NoFile" (nat_lit 231))), (.mk (PyData.keyHash P "__firstlineno__") (.str "__firstlineno__" (nat_lit 234)) (.int ((nat_lit 6) : Int) (nat_lit 233))), (.mk (PyData.keyHash P "__static_attributes__") (.str "__static_attributes__" (nat_lit 235)) (.ref (nat_lit 47)))]) (nat_lit 4)) (List.toArray []))
noncomputable def o43_0 (P : Params) : Obj := (.mk (.type "tuple") none (.seq (List.toArray []) (nat_lit 0)) (List.toArray []))
noncomputable def o44_0 (P : Params) : Obj := (.mk Value.none none (.fields (List.toArray [])) (List.toArray []))
noncomputable def o45_0 (P : Params) : Obj := (.mk (.type "code") none (.fields (List.toArray [(.str "NoFile" (nat_lit 225)), (.str "NoFile" (nat_lit 226)), (.str "/claim/cut.py" (nat_lit 227)), (.int ((nat_lit 6) : Int) (nat_lit 0)), (.int ((nat_lit 0) : Int) (nat_lit 0)), (.int ((nat_lit 0) : Int) (nat_lit 0)), (.int ((nat_lit 0) : Int) (nat_lit 0)), (.int ((nat_lit 0) : Int) (nat_lit 0)), (.ref (nat_lit 43)), (.bool false), (.int ((nat_lit 181) : Int) (nat_lit 0)), (.ref (nat_lit 44)), Value.none, Value.none, Value.none, Value.none, (.int ((nat_lit 228) : Int) (nat_lit 0)), (.int ((nat_lit 6) : Int) (nat_lit 0)), (.str "/claim/cut.py" (nat_lit 229))])) (List.toArray []))
noncomputable def o46_0 (P : Params) : Obj := (.mk (.type "frame") none .plain (List.toArray [(some (.ref (nat_lit 45))), (some (.ref (nat_lit 3))), (some (.ref (nat_lit 42))), none, (some (.str "threeroad.errors" (nat_lit 187))), none, (some (.ref (nat_lit 0)))]))
noncomputable def o47_0 (P : Params) : Obj := (.mk (.type "tuple") none (.seq (List.toArray []) (nat_lit 0)) (List.toArray []))
noncomputable def o48_0 (P : Params) : Obj := (.mk (.type "dict") none (.dict (List.toArray [(.mk (PyData.keyHash P "__module__") (.str "__module__" (nat_lit 230)) (.str "threeroad.errors" (nat_lit 187))), (.mk (PyData.keyHash P "__firstlineno__") (.str "__firstlineno__" (nat_lit 234)) (.int ((nat_lit 6) : Int) (nat_lit 233))), (.mk (PyData.keyHash P "__static_attributes__") (.str "__static_attributes__" (nat_lit 235)) (.ref (nat_lit 47))), (.mk (PyData.keyHash P "__doc__") (.str "__doc__" (nat_lit 236)) Value.none)]) (nat_lit 2)) (List.toArray []))
noncomputable def o49_0 (P : Params) : Obj := (.mk (.type "type") none (.cls (.mk "NoFile" [(.ref (nat_lit 24))] [(.ref (nat_lit 49)), (.ref (nat_lit 24)), (.type "ValueError"), (.type "Exception"), (.type "BaseException"), (.type "object")] (nat_lit 48) "NoFile" true [] [] false none false)) (List.toArray [(some (.ref (nat_lit 40))), none, (some (.str "NoFile" (nat_lit 223))), (some (.str "NoFile" (nat_lit 231))), (some (.builtin "ValueError.__new__")), (some (.bool true))]))
noncomputable def o50_0 (P : Params) : Obj := (.mk (.type "super") none (.fields (List.toArray [(.ref (nat_lit 49)), (.ref (nat_lit 49)), (.ref (nat_lit 49))])) (List.toArray []))
noncomputable def o51_0 (P : Params) : Obj := (.mk (.type "builtin_function_or_method") none (.fields (List.toArray [(.builtin "object.__init_subclass__"), (.ref (nat_lit 49))])) (List.toArray []))
noncomputable def o52_0 (P : Params) : Obj := (.mk (.type "tuple") none (.seq (List.toArray [(.ref (nat_lit 24))]) (nat_lit 0)) (List.toArray []))
noncomputable def o53_0 (P : Params) : Obj := (.mk (.type "builtin_function_or_method") none (.fields (List.toArray [(.builtin "type.__prepare__"), (.type "type")])) (List.toArray []))
noncomputable def o54_0 (P : Params) : Obj := (.mk (.type "dict") none (.dict (List.toArray [(.mk (PyData.keyHash P "__module__") (.str "__module__" (nat_lit 246)) (.str "threeroad.errors" (nat_lit 187))), (.mk (PyData.keyHash P "__qualname__") (.str "__qualname__" (nat_lit 248)) (.str "InTheWay" (nat_lit 247))), (.mk (PyData.keyHash P "__firstlineno__") (.str "__firstlineno__" (nat_lit 250)) (.int ((nat_lit 8) : Int) (nat_lit 249))), (.mk (PyData.keyHash P "__static_attributes__") (.str "__static_attributes__" (nat_lit 251)) (.ref (nat_lit 59)))]) (nat_lit 4)) (List.toArray []))
noncomputable def o55_0 (P : Params) : Obj := (.mk (.type "tuple") none (.seq (List.toArray []) (nat_lit 0)) (List.toArray []))
noncomputable def o56_0 (P : Params) : Obj := (.mk Value.none none (.fields (List.toArray [])) (List.toArray []))
noncomputable def o57_0 (P : Params) : Obj := (.mk (.type "code") none (.fields (List.toArray [(.str "InTheWay" (nat_lit 241)), (.str "InTheWay" (nat_lit 242)), (.str "/claim/cut.py" (nat_lit 243)), (.int ((nat_lit 8) : Int) (nat_lit 0)), (.int ((nat_lit 0) : Int) (nat_lit 0)), (.int ((nat_lit 0) : Int) (nat_lit 0)), (.int ((nat_lit 0) : Int) (nat_lit 0)), (.int ((nat_lit 0) : Int) (nat_lit 0)), (.ref (nat_lit 55)), (.bool false), (.int ((nat_lit 181) : Int) (nat_lit 0)), (.ref (nat_lit 56)), Value.none, Value.none, Value.none, Value.none, (.int ((nat_lit 244) : Int) (nat_lit 0)), (.int ((nat_lit 8) : Int) (nat_lit 0)), (.str "/claim/cut.py" (nat_lit 245))])) (List.toArray []))
noncomputable def o58_0 (P : Params) : Obj := (.mk (.type "frame") none .plain (List.toArray [(some (.ref (nat_lit 57))), (some (.ref (nat_lit 3))), (some (.ref (nat_lit 54))), none, (some (.str "threeroad.errors" (nat_lit 187))), none, (some (.ref (nat_lit 0)))]))
noncomputable def o59_0 (P : Params) : Obj := (.mk (.type "tuple") none (.seq (List.toArray []) (nat_lit 0)) (List.toArray []))
noncomputable def o60_0 (P : Params) : Obj := (.mk (.type "dict") none (.dict (List.toArray [(.mk (PyData.keyHash P "__module__") (.str "__module__" (nat_lit 246)) (.str "threeroad.errors" (nat_lit 187))), (.mk (PyData.keyHash P "__firstlineno__") (.str "__firstlineno__" (nat_lit 250)) (.int ((nat_lit 8) : Int) (nat_lit 249))), (.mk (PyData.keyHash P "__static_attributes__") (.str "__static_attributes__" (nat_lit 251)) (.ref (nat_lit 59))), (.mk (PyData.keyHash P "__doc__") (.str "__doc__" (nat_lit 252)) Value.none)]) (nat_lit 2)) (List.toArray []))
noncomputable def o61_0 (P : Params) : Obj := (.mk (.type "type") none (.cls (.mk "InTheWay" [(.ref (nat_lit 24))] [(.ref (nat_lit 61)), (.ref (nat_lit 24)), (.type "ValueError"), (.type "Exception"), (.type "BaseException"), (.type "object")] (nat_lit 60) "InTheWay" true [] [] false none false)) (List.toArray [(some (.ref (nat_lit 52))), none, (some (.str "InTheWay" (nat_lit 239))), (some (.str "InTheWay" (nat_lit 247))), (some (.builtin "ValueError.__new__")), (some (.bool true))]))
noncomputable def o62_0 (P : Params) : Obj := (.mk (.type "super") none (.fields (List.toArray [(.ref (nat_lit 61)), (.ref (nat_lit 61)), (.ref (nat_lit 61))])) (List.toArray []))
noncomputable def o63_0 (P : Params) : Obj := (.mk (.type "builtin_function_or_method") none (.fields (List.toArray [(.builtin "object.__init_subclass__"), (.ref (nat_lit 61))])) (List.toArray []))
noncomputable def tr_5 (P : Params) : PySem.W.BT := (.node (boot_o_0 P) (.node (boot_o_1 P) (.node (o3_1 P) (.node (boot_o_7 P) (.node (o15_0 P) (.node (o31_0 P) (.node (o63_0 P) .nil .nil) .nil) (.node (o47_0 P) .nil .nil)) (.node (o23_0 P) (.node (o39_0 P) .nil .nil) (.node (o55_0 P) .nil .nil))) (.node (o11_0 P) (.node (o19_0 P) (.node (o35_0 P) .nil .nil) (.node (o51_0 P) .nil .nil)) (.node (o27_0 P) (.node (o43_0 P) .nil .nil) (.node (o59_0 P) .nil .nil)))) (.node (boot_o_5 P) (.node (boot_o_9 P) (.node (o17_0 P) (.node (o33_0 P) .nil .nil) (.node (o49_0 P) .nil .nil)) (.node (o25_0 P) (.node (o41_0 P) .nil .nil) (.node (o57_0 P) .nil .nil))) (.node (o13_0 P) (.node (o21_0 P) (.node (o37_0 P) .nil .nil) (.node (o53_0 P) .nil .nil)) (.node (o29_0 P) (.node (o45_0 P) .nil .nil) (.node (o61_0 P) .nil .nil))))) (.node (boot_o_2 P) (.node (boot_o_4 P) (.node (boot_o_8 P) (.node (o16_0 P) (.node (o32_0 P) .nil .nil) (.node (o48_0 P) .nil .nil)) (.node (o24_1 P) (.node (o40_0 P) .nil .nil) (.node (o56_0 P) .nil .nil))) (.node (o12_2 P) (.node (o20_0 P) (.node (o36_0 P) .nil .nil) (.node (o52_0 P) .nil .nil)) (.node (o28_0 P) (.node (o44_0 P) .nil .nil) (.node (o60_0 P) .nil .nil)))) (.node (boot_o_6 P) (.node (boot_o_10 P) (.node (o18_0 P) (.node (o34_0 P) .nil .nil) (.node (o50_0 P) .nil .nil)) (.node (o26_0 P) (.node (o42_0 P) .nil .nil) (.node (o58_0 P) .nil .nil))) (.node (o14_0 P) (.node (o22_0 P) (.node (o38_0 P) .nil .nil) (.node (o54_0 P) .nil .nil)) (.node (o30_0 P) (.node (o46_0 P) .nil .nil) (.node (o62_0 P) .nil .nil))))))
abbrev st_5 (w : World) (os : OsState) : SharedT := SharedT.mk (tr_5 w.params) (nat_lit 64) (@Life.mk [] [] [] (nat_lit 0) [] [] false (@List.toArray @Nat []) [] (nat_lit 0) false false false ((nat_lit 0) : Int) [((nat_lit 2000) : Int), ((nat_lit 10) : Int), ((nat_lit 10) : Int)] false (nat_lit 0) true [] [] (nat_lit 0) false) (@Array.mk GenState []) (@Drawn.mk (nat_lit 0) (nat_lit 0) (nat_lit 0) (nat_lit 0)) (nat_lit 255) os
noncomputable def ss_5 : List Stmt := ((behindTheImports pw).drop 3).take 2
theorem q_5 : ∀ w : World, (fun os => segRunT treeTable pw w 11 ann 1 (nat_lit 427) (st_3 w os) (piecesOf ss_5 env cE (@Pos.mk (nat_lit 4) (nat_lit 0) (nat_lit 5) (nat_lit 8)) BB)) = fun os => some (Flow.next, st_5 w os, cE, (@Pos.mk (nat_lit 8) (nat_lit 0) (nat_lit 9) (nat_lit 8))) := fun w => by rw [segRunT_q, table_q]; kernel_rfl
noncomputable def o3_2 (P : Params) : Obj := (.mk (.type "dict") none (.dict (List.toArray [(.mk (PyData.keyHash P "__name__") (.str "__name__" (nat_lit 165)) (.str "threeroad.errors" (nat_lit 187))), (.mk (PyData.keyHash P "__doc__") (.str "__doc__" (nat_lit 166)) Value.none), (.mk (PyData.keyHash P "__package__") (.str "__package__" (nat_lit 167)) Value.none), (.mk (PyData.keyHash P "__loader__") (.str "__loader__" (nat_lit 168)) (.builtin "__main__.__loader__#opaque")), (.mk (PyData.keyHash P "__spec__") (.str "__spec__" (nat_lit 169)) Value.none), (.mk (PyData.keyHash P "__annotations__") (.str "__annotations__" (nat_lit 170)) (.ref (nat_lit 6))), (.mk (PyData.keyHash P "__builtins__") (.str "__builtins__" (nat_lit 171)) (.ref (nat_lit 4))), (.mk (PyData.keyHash P "__file__") (.str "__file__" (nat_lit 173)) (.str "/claim/cut.py" (nat_lit 172))), (.mk (PyData.keyHash P "__cached__") (.str "__cached__" (nat_lit 174)) Value.none), (.mk (PyData.keyHash P "RoadError") (.str "RoadError" (nat_lit 206)) (.ref (nat_lit 24))), (.mk (PyData.keyHash P "NoPath") (.str "NoPath" (nat_lit 222)) (.ref (nat_lit 37))), (.mk (PyData.keyHash P "NoFile") (.str "NoFile" (nat_lit 238)) (.ref (nat_lit 49))), (.mk (PyData.keyHash P "InTheWay") (.str "InTheWay" (nat_lit 254)) (.ref (nat_lit 61))), (.mk (PyData.keyHash P "NoClash") (.str "NoClash" (nat_lit 270)) (.ref (nat_lit 73))), (.mk (PyData.keyHash P "Clashed") (.str "Clashed" (nat_lit 286)) (.ref (nat_lit 85)))]) (nat_lit 15)) (List.toArray []))
noncomputable def o12_3 (P : Params) : Obj := (.mk Value.none none (.fields (List.toArray [(.int ((nat_lit 2) : Int) (nat_lit 0)), (.int ((nat_lit 0) : Int) (nat_lit 0)), (.ref (nat_lit 20)), (.int ((nat_lit 4) : Int) (nat_lit 0)), (.int ((nat_lit 0) : Int) (nat_lit 0)), (.ref (nat_lit 33)), (.int ((nat_lit 6) : Int) (nat_lit 0)), (.int ((nat_lit 0) : Int) (nat_lit 0)), (.ref (nat_lit 45)), (.int ((nat_lit 8) : Int) (nat_lit 0)), (.int ((nat_lit 0) : Int) (nat_lit 0)), (.ref (nat_lit 57)), (.int ((nat_lit 10) : Int) (nat_lit 0)), (.int ((nat_lit 0) : Int) (nat_lit 0)), (.ref (nat_lit 69)), (.int ((nat_lit 12) : Int) (nat_lit 0)), (.int ((nat_lit 0) : Int) (nat_lit 0)), (.ref (nat_lit 81))])) (List.toArray []))
noncomputable def o24_2 (P : Params) : Obj := (.mk (.type "type") none (.cls (.mk "RoadError" [(.type "ValueError")] [(.ref (nat_lit 24)), (.type "ValueError"), (.type "Exception"), (.type "BaseException"), (.type "object")] (nat_lit 23) "RoadError" true [] [(.ref (nat_lit 37)), (.ref (nat_lit 49)), (.ref (nat_lit 61)), (.ref (nat_lit 73)), (.ref (nat_lit 85))] false none false)) (List.toArray [(some (.ref (nat_lit 15))), none, (some (.str "RoadError" (nat_lit 189))), (some (.str "RoadError" (nat_lit 197))), (some (.builtin "ValueError.__new__")), (some (.bool true))]))
noncomputable def o64_0 (P : Params) : Obj := (.mk (.type "tuple") none (.seq (List.toArray [(.ref (nat_lit 24))]) (nat_lit 0)) (List.toArray []))
noncomputable def o65_0 (P : Params) : Obj := (.mk (.type "builtin_function_or_method") none (.fields (List.toArray [(.builtin "type.__prepare__"), (.type "type")])) (List.toArray []))
noncomputable def o66_0 (P : Params) : Obj := (.mk (.type "dict") none (.dict (List.toArray [(.mk (PyData.keyHash P "__module__") (.str "__module__" (nat_lit 262)) (.str "threeroad.errors" (nat_lit 187))), (.mk (PyData.keyHash P "__qualname__") (.str "__qualname__" (nat_lit 264)) (.str "NoClash" (nat_lit 263))), (.mk (PyData.keyHash P "__firstlineno__") (.str "__firstlineno__" (nat_lit 266)) (.int ((nat_lit 10) : Int) (nat_lit 265))), (.mk (PyData.keyHash P "__static_attributes__") (.str "__static_attributes__" (nat_lit 267)) (.ref (nat_lit 71)))]) (nat_lit 4)) (List.toArray []))
noncomputable def o67_0 (P : Params) : Obj := (.mk (.type "tuple") none (.seq (List.toArray []) (nat_lit 0)) (List.toArray []))
noncomputable def o68_0 (P : Params) : Obj := (.mk Value.none none (.fields (List.toArray [])) (List.toArray []))
noncomputable def o69_0 (P : Params) : Obj := (.mk (.type "code") none (.fields (List.toArray [(.str "NoClash" (nat_lit 257)), (.str "NoClash" (nat_lit 258)), (.str "/claim/cut.py" (nat_lit 259)), (.int ((nat_lit 10) : Int) (nat_lit 0)), (.int ((nat_lit 0) : Int) (nat_lit 0)), (.int ((nat_lit 0) : Int) (nat_lit 0)), (.int ((nat_lit 0) : Int) (nat_lit 0)), (.int ((nat_lit 0) : Int) (nat_lit 0)), (.ref (nat_lit 67)), (.bool false), (.int ((nat_lit 181) : Int) (nat_lit 0)), (.ref (nat_lit 68)), Value.none, Value.none, Value.none, Value.none, (.int ((nat_lit 260) : Int) (nat_lit 0)), (.int ((nat_lit 10) : Int) (nat_lit 0)), (.str "/claim/cut.py" (nat_lit 261))])) (List.toArray []))
noncomputable def o70_0 (P : Params) : Obj := (.mk (.type "frame") none .plain (List.toArray [(some (.ref (nat_lit 69))), (some (.ref (nat_lit 3))), (some (.ref (nat_lit 66))), none, (some (.str "threeroad.errors" (nat_lit 187))), none, (some (.ref (nat_lit 0)))]))
noncomputable def o71_0 (P : Params) : Obj := (.mk (.type "tuple") none (.seq (List.toArray []) (nat_lit 0)) (List.toArray []))
noncomputable def o72_0 (P : Params) : Obj := (.mk (.type "dict") none (.dict (List.toArray [(.mk (PyData.keyHash P "__module__") (.str "__module__" (nat_lit 262)) (.str "threeroad.errors" (nat_lit 187))), (.mk (PyData.keyHash P "__firstlineno__") (.str "__firstlineno__" (nat_lit 266)) (.int ((nat_lit 10) : Int) (nat_lit 265))), (.mk (PyData.keyHash P "__static_attributes__") (.str "__static_attributes__" (nat_lit 267)) (.ref (nat_lit 71))), (.mk (PyData.keyHash P "__doc__") (.str "__doc__" (nat_lit 268)) Value.none)]) (nat_lit 2)) (List.toArray []))
noncomputable def o73_0 (P : Params) : Obj := (.mk (.type "type") none (.cls (.mk "NoClash" [(.ref (nat_lit 24))] [(.ref (nat_lit 73)), (.ref (nat_lit 24)), (.type "ValueError"), (.type "Exception"), (.type "BaseException"), (.type "object")] (nat_lit 72) "NoClash" true [] [] false none false)) (List.toArray [(some (.ref (nat_lit 64))), none, (some (.str "NoClash" (nat_lit 255))), (some (.str "NoClash" (nat_lit 263))), (some (.builtin "ValueError.__new__")), (some (.bool true))]))
noncomputable def o74_0 (P : Params) : Obj := (.mk (.type "super") none (.fields (List.toArray [(.ref (nat_lit 73)), (.ref (nat_lit 73)), (.ref (nat_lit 73))])) (List.toArray []))
noncomputable def o75_0 (P : Params) : Obj := (.mk (.type "builtin_function_or_method") none (.fields (List.toArray [(.builtin "object.__init_subclass__"), (.ref (nat_lit 73))])) (List.toArray []))
noncomputable def o76_0 (P : Params) : Obj := (.mk (.type "tuple") none (.seq (List.toArray [(.ref (nat_lit 24))]) (nat_lit 0)) (List.toArray []))
noncomputable def o77_0 (P : Params) : Obj := (.mk (.type "builtin_function_or_method") none (.fields (List.toArray [(.builtin "type.__prepare__"), (.type "type")])) (List.toArray []))
noncomputable def o78_0 (P : Params) : Obj := (.mk (.type "dict") none (.dict (List.toArray [(.mk (PyData.keyHash P "__module__") (.str "__module__" (nat_lit 278)) (.str "threeroad.errors" (nat_lit 187))), (.mk (PyData.keyHash P "__qualname__") (.str "__qualname__" (nat_lit 280)) (.str "Clashed" (nat_lit 279))), (.mk (PyData.keyHash P "__firstlineno__") (.str "__firstlineno__" (nat_lit 282)) (.int ((nat_lit 12) : Int) (nat_lit 281))), (.mk (PyData.keyHash P "__static_attributes__") (.str "__static_attributes__" (nat_lit 283)) (.ref (nat_lit 83)))]) (nat_lit 4)) (List.toArray []))
noncomputable def o79_0 (P : Params) : Obj := (.mk (.type "tuple") none (.seq (List.toArray []) (nat_lit 0)) (List.toArray []))
noncomputable def o80_0 (P : Params) : Obj := (.mk Value.none none (.fields (List.toArray [])) (List.toArray []))
noncomputable def o81_0 (P : Params) : Obj := (.mk (.type "code") none (.fields (List.toArray [(.str "Clashed" (nat_lit 273)), (.str "Clashed" (nat_lit 274)), (.str "/claim/cut.py" (nat_lit 275)), (.int ((nat_lit 12) : Int) (nat_lit 0)), (.int ((nat_lit 0) : Int) (nat_lit 0)), (.int ((nat_lit 0) : Int) (nat_lit 0)), (.int ((nat_lit 0) : Int) (nat_lit 0)), (.int ((nat_lit 0) : Int) (nat_lit 0)), (.ref (nat_lit 79)), (.bool false), (.int ((nat_lit 181) : Int) (nat_lit 0)), (.ref (nat_lit 80)), Value.none, Value.none, Value.none, Value.none, (.int ((nat_lit 276) : Int) (nat_lit 0)), (.int ((nat_lit 12) : Int) (nat_lit 0)), (.str "/claim/cut.py" (nat_lit 277))])) (List.toArray []))
noncomputable def o82_0 (P : Params) : Obj := (.mk (.type "frame") none .plain (List.toArray [(some (.ref (nat_lit 81))), (some (.ref (nat_lit 3))), (some (.ref (nat_lit 78))), none, (some (.str "threeroad.errors" (nat_lit 187))), none, (some (.ref (nat_lit 0)))]))
noncomputable def o83_0 (P : Params) : Obj := (.mk (.type "tuple") none (.seq (List.toArray []) (nat_lit 0)) (List.toArray []))
noncomputable def o84_0 (P : Params) : Obj := (.mk (.type "dict") none (.dict (List.toArray [(.mk (PyData.keyHash P "__module__") (.str "__module__" (nat_lit 278)) (.str "threeroad.errors" (nat_lit 187))), (.mk (PyData.keyHash P "__firstlineno__") (.str "__firstlineno__" (nat_lit 282)) (.int ((nat_lit 12) : Int) (nat_lit 281))), (.mk (PyData.keyHash P "__static_attributes__") (.str "__static_attributes__" (nat_lit 283)) (.ref (nat_lit 83))), (.mk (PyData.keyHash P "__doc__") (.str "__doc__" (nat_lit 284)) Value.none)]) (nat_lit 2)) (List.toArray []))
noncomputable def o85_0 (P : Params) : Obj := (.mk (.type "type") none (.cls (.mk "Clashed" [(.ref (nat_lit 24))] [(.ref (nat_lit 85)), (.ref (nat_lit 24)), (.type "ValueError"), (.type "Exception"), (.type "BaseException"), (.type "object")] (nat_lit 84) "Clashed" true [] [] false none false)) (List.toArray [(some (.ref (nat_lit 76))), none, (some (.str "Clashed" (nat_lit 271))), (some (.str "Clashed" (nat_lit 279))), (some (.builtin "ValueError.__new__")), (some (.bool true))]))
noncomputable def o86_0 (P : Params) : Obj := (.mk (.type "super") none (.fields (List.toArray [(.ref (nat_lit 85)), (.ref (nat_lit 85)), (.ref (nat_lit 85))])) (List.toArray []))
noncomputable def o87_0 (P : Params) : Obj := (.mk (.type "builtin_function_or_method") none (.fields (List.toArray [(.builtin "object.__init_subclass__"), (.ref (nat_lit 85))])) (List.toArray []))
noncomputable def tr_7 (P : Params) : PySem.W.BT := (.node (boot_o_0 P) (.node (boot_o_1 P) (.node (o3_2 P) (.node (boot_o_7 P) (.node (o15_0 P) (.node (o31_0 P) (.node (o63_0 P) .nil .nil) .nil) (.node (o47_0 P) (.node (o79_0 P) .nil .nil) .nil)) (.node (o23_0 P) (.node (o39_0 P) (.node (o71_0 P) .nil .nil) .nil) (.node (o55_0 P) (.node (o87_0 P) .nil .nil) .nil))) (.node (o11_0 P) (.node (o19_0 P) (.node (o35_0 P) (.node (o67_0 P) .nil .nil) .nil) (.node (o51_0 P) (.node (o83_0 P) .nil .nil) .nil)) (.node (o27_0 P) (.node (o43_0 P) (.node (o75_0 P) .nil .nil) .nil) (.node (o59_0 P) .nil .nil)))) (.node (boot_o_5 P) (.node (boot_o_9 P) (.node (o17_0 P) (.node (o33_0 P) (.node (o65_0 P) .nil .nil) .nil) (.node (o49_0 P) (.node (o81_0 P) .nil .nil) .nil)) (.node (o25_0 P) (.node (o41_0 P) (.node (o73_0 P) .nil .nil) .nil) (.node (o57_0 P) .nil .nil))) (.node (o13_0 P) (.node (o21_0 P) (.node (o37_0 P) (.node (o69_0 P) .nil .nil) .nil) (.node (o53_0 P) (.node (o85_0 P) .nil .nil) .nil)) (.node (o29_0 P) (.node (o45_0 P) (.node (o77_0 P) .nil .nil) .nil) (.node (o61_0 P) .nil .nil))))) (.node (boot_o_2 P) (.node (boot_o_4 P) (.node (boot_o_8 P) (.node (o16_0 P) (.node (o32_0 P) (.node (o64_0 P) .nil .nil) .nil) (.node (o48_0 P) (.node (o80_0 P) .nil .nil) .nil)) (.node (o24_2 P) (.node (o40_0 P) (.node (o72_0 P) .nil .nil) .nil) (.node (o56_0 P) .nil .nil))) (.node (o12_3 P) (.node (o20_0 P) (.node (o36_0 P) (.node (o68_0 P) .nil .nil) .nil) (.node (o52_0 P) (.node (o84_0 P) .nil .nil) .nil)) (.node (o28_0 P) (.node (o44_0 P) (.node (o76_0 P) .nil .nil) .nil) (.node (o60_0 P) .nil .nil)))) (.node (boot_o_6 P) (.node (boot_o_10 P) (.node (o18_0 P) (.node (o34_0 P) (.node (o66_0 P) .nil .nil) .nil) (.node (o50_0 P) (.node (o82_0 P) .nil .nil) .nil)) (.node (o26_0 P) (.node (o42_0 P) (.node (o74_0 P) .nil .nil) .nil) (.node (o58_0 P) .nil .nil))) (.node (o14_0 P) (.node (o22_0 P) (.node (o38_0 P) (.node (o70_0 P) .nil .nil) .nil) (.node (o54_0 P) (.node (o86_0 P) .nil .nil) .nil)) (.node (o30_0 P) (.node (o46_0 P) (.node (o78_0 P) .nil .nil) .nil) (.node (o62_0 P) .nil .nil))))))
abbrev st_7 (w : World) (os : OsState) : SharedT := SharedT.mk (tr_7 w.params) (nat_lit 88) (@Life.mk [] [] [] (nat_lit 0) [] [] false (@List.toArray @Nat []) [] (nat_lit 0) false false false ((nat_lit 0) : Int) [((nat_lit 2000) : Int), ((nat_lit 10) : Int), ((nat_lit 10) : Int)] false (nat_lit 0) true [] [] (nat_lit 0) false) (@Array.mk GenState []) (@Drawn.mk (nat_lit 0) (nat_lit 0) (nat_lit 0) (nat_lit 0)) (nat_lit 287) os
noncomputable def ss_7 : List Stmt := ((behindTheImports pw).drop 5).take 2
theorem q_7 : ∀ w : World, (fun os => segRunT treeTable pw w 11 ann 1 (nat_lit 427) (st_5 w os) (piecesOf ss_7 env cE (@Pos.mk (nat_lit 8) (nat_lit 0) (nat_lit 9) (nat_lit 8)) BB)) = fun os => some (Flow.next, st_7 w os, cE, (@Pos.mk (nat_lit 12) (nat_lit 0) (nat_lit 13) (nat_lit 8))) := fun w => by rw [segRunT_q, table_q]; kernel_rfl
noncomputable def o3_3 (P : Params) : Obj := (.mk (.type "dict") none (.dict (List.toArray [(.mk (PyData.keyHash P "__name__") (.str "__name__" (nat_lit 165)) (.str "threeroad.paths" (nat_lit 319))), (.mk (PyData.keyHash P "__doc__") (.str "__doc__" (nat_lit 166)) Value.none), (.mk (PyData.keyHash P "__package__") (.str "__package__" (nat_lit 167)) Value.none), (.mk (PyData.keyHash P "__loader__") (.str "__loader__" (nat_lit 168)) (.builtin "__main__.__loader__#opaque")), (.mk (PyData.keyHash P "__spec__") (.str "__spec__" (nat_lit 169)) Value.none), (.mk (PyData.keyHash P "__annotations__") (.str "__annotations__" (nat_lit 170)) (.ref (nat_lit 6))), (.mk (PyData.keyHash P "__builtins__") (.str "__builtins__" (nat_lit 171)) (.ref (nat_lit 4))), (.mk (PyData.keyHash P "__file__") (.str "__file__" (nat_lit 173)) (.str "/claim/cut.py" (nat_lit 172))), (.mk (PyData.keyHash P "__cached__") (.str "__cached__" (nat_lit 174)) Value.none), (.mk (PyData.keyHash P "RoadError") (.str "RoadError" (nat_lit 206)) (.ref (nat_lit 24))), (.mk (PyData.keyHash P "NoPath") (.str "NoPath" (nat_lit 222)) (.ref (nat_lit 37))), (.mk (PyData.keyHash P "NoFile") (.str "NoFile" (nat_lit 238)) (.ref (nat_lit 49))), (.mk (PyData.keyHash P "InTheWay") (.str "InTheWay" (nat_lit 254)) (.ref (nat_lit 61))), (.mk (PyData.keyHash P "NoClash") (.str "NoClash" (nat_lit 270)) (.ref (nat_lit 73))), (.mk (PyData.keyHash P "Clashed") (.str "Clashed" (nat_lit 286)) (.ref (nat_lit 85))), (.mk (PyData.keyHash P "NoVersion") (.str "NoVersion" (nat_lit 302)) (.ref (nat_lit 97))), (.mk (PyData.keyHash P "SameVersion") (.str "SameVersion" (nat_lit 318)) (.ref (nat_lit 109))), (.mk (PyData.keyHash P "SIGNS") (.str "SIGNS" (nat_lit 322)) (.str "abcdefghijklmnopqrstuvwxyzABCDEFGHIJKLMNOPQRSTUVWXYZ0123456789.-_" (nat_lit 321)))]) (nat_lit 18)) (List.toArray []))
noncomputable def o12_4 (P : Params) : Obj := (.mk Value.none none (.fields (List.toArray [(.int ((nat_lit 2) : Int) (nat_lit 0)), (.int ((nat_lit 0) : Int) (nat_lit 0)), (.ref (nat_lit 20)), (.int ((nat_lit 4) : Int) (nat_lit 0)), (.int ((nat_lit 0) : Int) (nat_lit 0)), (.ref (nat_lit 33)), (.int ((nat_lit 6) : Int) (nat_lit 0)), (.int ((nat_lit 0) : Int) (nat_lit 0)), (.ref (nat_lit 45)), (.int ((nat_lit 8) : Int) (nat_lit 0)), (.int ((nat_lit 0) : Int) (nat_lit 0)), (.ref (nat_lit 57)), (.int ((nat_lit 10) : Int) (nat_lit 0)), (.int ((nat_lit 0) : Int) (nat_lit 0)), (.ref (nat_lit 69)), (.int ((nat_lit 12) : Int) (nat_lit 0)), (.int ((nat_lit 0) : Int) (nat_lit 0)), (.ref (nat_lit 81)), (.int ((nat_lit 14) : Int) (nat_lit 0)), (.int ((nat_lit 0) : Int) (nat_lit 0)), (.ref (nat_lit 93)), (.int ((nat_lit 16) : Int) (nat_lit 0)), (.int ((nat_lit 0) : Int) (nat_lit 0)), (.ref (nat_lit 105))])) (List.toArray []))
noncomputable def o24_3 (P : Params) : Obj := (.mk (.type "type") none (.cls (.mk "RoadError" [(.type "ValueError")] [(.ref (nat_lit 24)), (.type "ValueError"), (.type "Exception"), (.type "BaseException"), (.type "object")] (nat_lit 23) "RoadError" true [] [(.ref (nat_lit 37)), (.ref (nat_lit 49)), (.ref (nat_lit 61)), (.ref (nat_lit 73)), (.ref (nat_lit 85)), (.ref (nat_lit 97)), (.ref (nat_lit 109))] false none false)) (List.toArray [(some (.ref (nat_lit 15))), none, (some (.str "RoadError" (nat_lit 189))), (some (.str "RoadError" (nat_lit 197))), (some (.builtin "ValueError.__new__")), (some (.bool true))]))
noncomputable def o88_0 (P : Params) : Obj := (.mk (.type "tuple") none (.seq (List.toArray [(.ref (nat_lit 24))]) (nat_lit 0)) (List.toArray []))
noncomputable def o89_0 (P : Params) : Obj := (.mk (.type "builtin_function_or_method") none (.fields (List.toArray [(.builtin "type.__prepare__"), (.type "type")])) (List.toArray []))
noncomputable def o90_0 (P : Params) : Obj := (.mk (.type "dict") none (.dict (List.toArray [(.mk (PyData.keyHash P "__module__") (.str "__module__" (nat_lit 294)) (.str "threeroad.errors" (nat_lit 187))), (.mk (PyData.keyHash P "__qualname__") (.str "__qualname__" (nat_lit 296)) (.str "NoVersion" (nat_lit 295))), (.mk (PyData.keyHash P "__firstlineno__") (.str "__firstlineno__" (nat_lit 298)) (.int ((nat_lit 14) : Int) (nat_lit 297))), (.mk (PyData.keyHash P "__static_attributes__") (.str "__static_attributes__" (nat_lit 299)) (.ref (nat_lit 95)))]) (nat_lit 4)) (List.toArray []))
noncomputable def o91_0 (P : Params) : Obj := (.mk (.type "tuple") none (.seq (List.toArray []) (nat_lit 0)) (List.toArray []))
noncomputable def o92_0 (P : Params) : Obj := (.mk Value.none none (.fields (List.toArray [])) (List.toArray []))
noncomputable def o93_0 (P : Params) : Obj := (.mk (.type "code") none (.fields (List.toArray [(.str "NoVersion" (nat_lit 289)), (.str "NoVersion" (nat_lit 290)), (.str "/claim/cut.py" (nat_lit 291)), (.int ((nat_lit 14) : Int) (nat_lit 0)), (.int ((nat_lit 0) : Int) (nat_lit 0)), (.int ((nat_lit 0) : Int) (nat_lit 0)), (.int ((nat_lit 0) : Int) (nat_lit 0)), (.int ((nat_lit 0) : Int) (nat_lit 0)), (.ref (nat_lit 91)), (.bool false), (.int ((nat_lit 181) : Int) (nat_lit 0)), (.ref (nat_lit 92)), Value.none, Value.none, Value.none, Value.none, (.int ((nat_lit 292) : Int) (nat_lit 0)), (.int ((nat_lit 14) : Int) (nat_lit 0)), (.str "/claim/cut.py" (nat_lit 293))])) (List.toArray []))
noncomputable def o94_0 (P : Params) : Obj := (.mk (.type "frame") none .plain (List.toArray [(some (.ref (nat_lit 93))), (some (.ref (nat_lit 3))), (some (.ref (nat_lit 90))), none, (some (.str "threeroad.errors" (nat_lit 187))), none, (some (.ref (nat_lit 0)))]))
noncomputable def o95_0 (P : Params) : Obj := (.mk (.type "tuple") none (.seq (List.toArray []) (nat_lit 0)) (List.toArray []))
noncomputable def o96_0 (P : Params) : Obj := (.mk (.type "dict") none (.dict (List.toArray [(.mk (PyData.keyHash P "__module__") (.str "__module__" (nat_lit 294)) (.str "threeroad.errors" (nat_lit 187))), (.mk (PyData.keyHash P "__firstlineno__") (.str "__firstlineno__" (nat_lit 298)) (.int ((nat_lit 14) : Int) (nat_lit 297))), (.mk (PyData.keyHash P "__static_attributes__") (.str "__static_attributes__" (nat_lit 299)) (.ref (nat_lit 95))), (.mk (PyData.keyHash P "__doc__") (.str "__doc__" (nat_lit 300)) Value.none)]) (nat_lit 2)) (List.toArray []))
noncomputable def o97_0 (P : Params) : Obj := (.mk (.type "type") none (.cls (.mk "NoVersion" [(.ref (nat_lit 24))] [(.ref (nat_lit 97)), (.ref (nat_lit 24)), (.type "ValueError"), (.type "Exception"), (.type "BaseException"), (.type "object")] (nat_lit 96) "NoVersion" true [] [] false none false)) (List.toArray [(some (.ref (nat_lit 88))), none, (some (.str "NoVersion" (nat_lit 287))), (some (.str "NoVersion" (nat_lit 295))), (some (.builtin "ValueError.__new__")), (some (.bool true))]))
noncomputable def o98_0 (P : Params) : Obj := (.mk (.type "super") none (.fields (List.toArray [(.ref (nat_lit 97)), (.ref (nat_lit 97)), (.ref (nat_lit 97))])) (List.toArray []))
noncomputable def o99_0 (P : Params) : Obj := (.mk (.type "builtin_function_or_method") none (.fields (List.toArray [(.builtin "object.__init_subclass__"), (.ref (nat_lit 97))])) (List.toArray []))
noncomputable def o100_0 (P : Params) : Obj := (.mk (.type "tuple") none (.seq (List.toArray [(.ref (nat_lit 24))]) (nat_lit 0)) (List.toArray []))
noncomputable def o101_0 (P : Params) : Obj := (.mk (.type "builtin_function_or_method") none (.fields (List.toArray [(.builtin "type.__prepare__"), (.type "type")])) (List.toArray []))
noncomputable def o102_0 (P : Params) : Obj := (.mk (.type "dict") none (.dict (List.toArray [(.mk (PyData.keyHash P "__module__") (.str "__module__" (nat_lit 310)) (.str "threeroad.errors" (nat_lit 187))), (.mk (PyData.keyHash P "__qualname__") (.str "__qualname__" (nat_lit 312)) (.str "SameVersion" (nat_lit 311))), (.mk (PyData.keyHash P "__firstlineno__") (.str "__firstlineno__" (nat_lit 314)) (.int ((nat_lit 16) : Int) (nat_lit 313))), (.mk (PyData.keyHash P "__static_attributes__") (.str "__static_attributes__" (nat_lit 315)) (.ref (nat_lit 107)))]) (nat_lit 4)) (List.toArray []))
noncomputable def o103_0 (P : Params) : Obj := (.mk (.type "tuple") none (.seq (List.toArray []) (nat_lit 0)) (List.toArray []))
noncomputable def o104_0 (P : Params) : Obj := (.mk Value.none none (.fields (List.toArray [])) (List.toArray []))
noncomputable def o105_0 (P : Params) : Obj := (.mk (.type "code") none (.fields (List.toArray [(.str "SameVersion" (nat_lit 305)), (.str "SameVersion" (nat_lit 306)), (.str "/claim/cut.py" (nat_lit 307)), (.int ((nat_lit 16) : Int) (nat_lit 0)), (.int ((nat_lit 0) : Int) (nat_lit 0)), (.int ((nat_lit 0) : Int) (nat_lit 0)), (.int ((nat_lit 0) : Int) (nat_lit 0)), (.int ((nat_lit 0) : Int) (nat_lit 0)), (.ref (nat_lit 103)), (.bool false), (.int ((nat_lit 181) : Int) (nat_lit 0)), (.ref (nat_lit 104)), Value.none, Value.none, Value.none, Value.none, (.int ((nat_lit 308) : Int) (nat_lit 0)), (.int ((nat_lit 16) : Int) (nat_lit 0)), (.str "/claim/cut.py" (nat_lit 309))])) (List.toArray []))
noncomputable def o106_0 (P : Params) : Obj := (.mk (.type "frame") none .plain (List.toArray [(some (.ref (nat_lit 105))), (some (.ref (nat_lit 3))), (some (.ref (nat_lit 102))), none, (some (.str "threeroad.errors" (nat_lit 187))), none, (some (.ref (nat_lit 0)))]))
noncomputable def o107_0 (P : Params) : Obj := (.mk (.type "tuple") none (.seq (List.toArray []) (nat_lit 0)) (List.toArray []))
noncomputable def o108_0 (P : Params) : Obj := (.mk (.type "dict") none (.dict (List.toArray [(.mk (PyData.keyHash P "__module__") (.str "__module__" (nat_lit 310)) (.str "threeroad.errors" (nat_lit 187))), (.mk (PyData.keyHash P "__firstlineno__") (.str "__firstlineno__" (nat_lit 314)) (.int ((nat_lit 16) : Int) (nat_lit 313))), (.mk (PyData.keyHash P "__static_attributes__") (.str "__static_attributes__" (nat_lit 315)) (.ref (nat_lit 107))), (.mk (PyData.keyHash P "__doc__") (.str "__doc__" (nat_lit 316)) Value.none)]) (nat_lit 2)) (List.toArray []))
noncomputable def o109_0 (P : Params) : Obj := (.mk (.type "type") none (.cls (.mk "SameVersion" [(.ref (nat_lit 24))] [(.ref (nat_lit 109)), (.ref (nat_lit 24)), (.type "ValueError"), (.type "Exception"), (.type "BaseException"), (.type "object")] (nat_lit 108) "SameVersion" true [] [] false none false)) (List.toArray [(some (.ref (nat_lit 100))), none, (some (.str "SameVersion" (nat_lit 303))), (some (.str "SameVersion" (nat_lit 311))), (some (.builtin "ValueError.__new__")), (some (.bool true))]))
noncomputable def o110_0 (P : Params) : Obj := (.mk (.type "super") none (.fields (List.toArray [(.ref (nat_lit 109)), (.ref (nat_lit 109)), (.ref (nat_lit 109))])) (List.toArray []))
noncomputable def o111_0 (P : Params) : Obj := (.mk (.type "builtin_function_or_method") none (.fields (List.toArray [(.builtin "object.__init_subclass__"), (.ref (nat_lit 109))])) (List.toArray []))
noncomputable def tr_11 (P : Params) : PySem.W.BT := (.node (boot_o_0 P) (.node (boot_o_1 P) (.node (o3_3 P) (.node (boot_o_7 P) (.node (o15_0 P) (.node (o31_0 P) (.node (o63_0 P) .nil .nil) (.node (o95_0 P) .nil .nil)) (.node (o47_0 P) (.node (o79_0 P) .nil .nil) (.node (o111_0 P) .nil .nil))) (.node (o23_0 P) (.node (o39_0 P) (.node (o71_0 P) .nil .nil) (.node (o103_0 P) .nil .nil)) (.node (o55_0 P) (.node (o87_0 P) .nil .nil) .nil))) (.node (o11_0 P) (.node (o19_0 P) (.node (o35_0 P) (.node (o67_0 P) .nil .nil) (.node (o99_0 P) .nil .nil)) (.node (o51_0 P) (.node (o83_0 P) .nil .nil) .nil)) (.node (o27_0 P) (.node (o43_0 P) (.node (o75_0 P) .nil .nil) (.node (o107_0 P) .nil .nil)) (.node (o59_0 P) (.node (o91_0 P) .nil .nil) .nil)))) (.node (boot_o_5 P) (.node (boot_o_9 P) (.node (o17_0 P) (.node (o33_0 P) (.node (o65_0 P) .nil .nil) (.node (o97_0 P) .nil .nil)) (.node (o49_0 P) (.node (o81_0 P) .nil .nil) .nil)) (.node (o25_0 P) (.node (o41_0 P) (.node (o73_0 P) .nil .nil) (.node (o105_0 P) .nil .nil)) (.node (o57_0 P) (.node (o89_0 P) .nil .nil) .nil))) (.node (o13_0 P) (.node (o21_0 P) (.node (o37_0 P) (.node (o69_0 P) .nil .nil) (.node (o101_0 P) .nil .nil)) (.node (o53_0 P) (.node (o85_0 P) .nil .nil) .nil)) (.node (o29_0 P) (.node (o45_0 P) (.node (o77_0 P) .nil .nil) (.node (o109_0 P) .nil .nil)) (.node (o61_0 P) (.node (o93_0 P) .nil .nil) .nil))))) (.node (boot_o_2 P) (.node (boot_o_4 P) (.node (boot_o_8 P) (.node (o16_0 P) (.node (o32_0 P) (.node (o64_0 P) .nil .nil) (.node (o96_0 P) .nil .nil)) (.node (o48_0 P) (.node (o80_0 P) .nil .nil) .nil)) (.node (o24_3 P) (.node (o40_0 P) (.node (o72_0 P) .nil .nil) (.node (o104_0 P) .nil .nil)) (.node (o56_0 P) (.node (o88_0 P) .nil .nil) .nil))) (.node (o12_4 P) (.node (o20_0 P) (.node (o36_0 P) (.node (o68_0 P) .nil .nil) (.node (o100_0 P) .nil .nil)) (.node (o52_0 P) (.node (o84_0 P) .nil .nil) .nil)) (.node (o28_0 P) (.node (o44_0 P) (.node (o76_0 P) .nil .nil) (.node (o108_0 P) .nil .nil)) (.node (o60_0 P) (.node (o92_0 P) .nil .nil) .nil)))) (.node (boot_o_6 P) (.node (boot_o_10 P) (.node (o18_0 P) (.node (o34_0 P) (.node (o66_0 P) .nil .nil) (.node (o98_0 P) .nil .nil)) (.node (o50_0 P) (.node (o82_0 P) .nil .nil) .nil)) (.node (o26_0 P) (.node (o42_0 P) (.node (o74_0 P) .nil .nil) (.node (o106_0 P) .nil .nil)) (.node (o58_0 P) (.node (o90_0 P) .nil .nil) .nil))) (.node (o14_0 P) (.node (o22_0 P) (.node (o38_0 P) (.node (o70_0 P) .nil .nil) (.node (o102_0 P) .nil .nil)) (.node (o54_0 P) (.node (o86_0 P) .nil .nil) .nil)) (.node (o30_0 P) (.node (o46_0 P) (.node (o78_0 P) .nil .nil) (.node (o110_0 P) .nil .nil)) (.node (o62_0 P) (.node (o94_0 P) .nil .nil) .nil))))))
abbrev st_11 (w : World) (os : OsState) : SharedT := SharedT.mk (tr_11 w.params) (nat_lit 112) (@Life.mk [] [] [] (nat_lit 0) [] [] false (@List.toArray @Nat []) [] (nat_lit 0) false false false ((nat_lit 0) : Int) [((nat_lit 2000) : Int), ((nat_lit 10) : Int), ((nat_lit 10) : Int)] false (nat_lit 0) true [] [] (nat_lit 0) false) (@Array.mk GenState []) (@Drawn.mk (nat_lit 0) (nat_lit 0) (nat_lit 0) (nat_lit 0)) (nat_lit 323) os
noncomputable def ss_11 : List Stmt := ((behindTheImports pw).drop 7).take 4
theorem q_11 : ∀ w : World, (fun os => segRunT treeTable pw w 11 ann 1 (nat_lit 445) (st_7 w os) (piecesOf ss_11 env cE (@Pos.mk (nat_lit 12) (nat_lit 0) (nat_lit 13) (nat_lit 8)) BB)) = fun os => some (Flow.next, st_11 w os, cE, (@Pos.mk (nat_lit 19) (nat_lit 0) (nat_lit 19) (nat_lit 5))) := fun w => by rw [segRunT_q, table_q]; kernel_rfl
noncomputable def o3_4 (P : Params) : Obj := (.mk (.type "dict") none (.dict (List.toArray [(.mk (PyData.keyHash P "__name__") (.str "__name__" (nat_lit 165)) (.str "threeroad.book" (nat_lit 449))), (.mk (PyData.keyHash P "__doc__") (.str "__doc__" (nat_lit 166)) Value.none), (.mk (PyData.keyHash P "__package__") (.str "__package__" (nat_lit 167)) Value.none), (.mk (PyData.keyHash P "__loader__") (.str "__loader__" (nat_lit 168)) (.builtin "__main__.__loader__#opaque")), (.mk (PyData.keyHash P "__spec__") (.str "__spec__" (nat_lit 169)) Value.none), (.mk (PyData.keyHash P "__annotations__") (.str "__annotations__" (nat_lit 170)) (.ref (nat_lit 6))), (.mk (PyData.keyHash P "__builtins__") (.str "__builtins__" (nat_lit 171)) (.ref (nat_lit 4))), (.mk (PyData.keyHash P "__file__") (.str "__file__" (nat_lit 173)) (.str "/claim/cut.py" (nat_lit 172))), (.mk (PyData.keyHash P "__cached__") (.str "__cached__" (nat_lit 174)) Value.none), (.mk (PyData.keyHash P "RoadError") (.str "RoadError" (nat_lit 206)) (.ref (nat_lit 24))), (.mk (PyData.keyHash P "NoPath") (.str "NoPath" (nat_lit 222)) (.ref (nat_lit 37))), (.mk (PyData.keyHash P "NoFile") (.str "NoFile" (nat_lit 238)) (.ref (nat_lit 49))), (.mk (PyData.keyHash P "InTheWay") (.str "InTheWay" (nat_lit 254)) (.ref (nat_lit 61))), (.mk (PyData.keyHash P "NoClash") (.str "NoClash" (nat_lit 270)) (.ref (nat_lit 73))), (.mk (PyData.keyHash P "Clashed") (.str "Clashed" (nat_lit 286)) (.ref (nat_lit 85))), (.mk (PyData.keyHash P "NoVersion") (.str "NoVersion" (nat_lit 302)) (.ref (nat_lit 97))), (.mk (PyData.keyHash P "SameVersion") (.str "SameVersion" (nat_lit 318)) (.ref (nat_lit 109))), (.mk (PyData.keyHash P "SIGNS") (.str "SIGNS" (nat_lit 322)) (.str "abcdefghijklmnopqrstuvwxyzABCDEFGHIJKLMNOPQRSTUVWXYZ0123456789.-_" (nat_lit 321))), (.mk (PyData.keyHash P "MOST_PARTS") (.str "MOST_PARTS" (nat_lit 324)) (.int ((nat_lit 8) : Int) (nat_lit 323))), (.mk (PyData.keyHash P "LONGEST_PART") (.str "LONGEST_PART" (nat_lit 326)) (.int ((nat_lit 12) : Int) (nat_lit 325))), (.mk (PyData.keyHash P "is_part") (.str "is_part" (nat_lit 334)) (.ref (nat_lit 118))), (.mk (PyData.keyHash P "is_path") (.str "is_path" (nat_lit 343)) (.ref (nat_lit 125))), (.mk (PyData.keyHash P "above") (.str "above" (nat_lit 349)) (.ref (nat_lit 130))), (.mk (PyData.keyHash P "is_beneath") (.str "is_beneath" (nat_lit 357)) (.ref (nat_lit 137))), (.mk (PyData.keyHash P "all_paths") (.str "all_paths" (nat_lit 371)) (.ref (nat_lit 144))), (.mk (PyData.keyHash P "marks") (.str "marks" (nat_lit 385)) (.ref (nat_lit 151))), (.mk (PyData.keyHash P "clashing") (.str "clashing" (nat_lit 391)) (.ref (nat_lit 156))), (.mk (PyData.keyHash P "standing") (.str "standing" (nat_lit 404)) (.ref (nat_lit 163))), (.mk (PyData.keyHash P "clashes") (.str "clashes" (nat_lit 410)) (.ref (nat_lit 168))), (.mk (PyData.keyHash P "joined") (.str "joined" (nat_lit 425)) (.ref (nat_lit 175))), (.mk (PyData.keyHash P "done") (.str "done" (nat_lit 438)) (.ref (nat_lit 182))), (.mk (PyData.keyHash P "changed") (.str "changed" (nat_lit 448)) (.ref (nat_lit 189)))]) (nat_lit 32)) (List.toArray []))
noncomputable def o12_5 (P : Params) : Obj := (.mk Value.none none (.fields (List.toArray [(.int ((nat_lit 2) : Int) (nat_lit 0)), (.int ((nat_lit 0) : Int) (nat_lit 0)), (.ref (nat_lit 20)), (.int ((nat_lit 4) : Int) (nat_lit 0)), (.int ((nat_lit 0) : Int) (nat_lit 0)), (.ref (nat_lit 33)), (.int ((nat_lit 6) : Int) (nat_lit 0)), (.int ((nat_lit 0) : Int) (nat_lit 0)), (.ref (nat_lit 45)), (.int ((nat_lit 8) : Int) (nat_lit 0)), (.int ((nat_lit 0) : Int) (nat_lit 0)), (.ref (nat_lit 57)), (.int ((nat_lit 10) : Int) (nat_lit 0)), (.int ((nat_lit 0) : Int) (nat_lit 0)), (.ref (nat_lit 69)), (.int ((nat_lit 12) : Int) (nat_lit 0)), (.int ((nat_lit 0) : Int) (nat_lit 0)), (.ref (nat_lit 81)), (.int ((nat_lit 14) : Int) (nat_lit 0)), (.int ((nat_lit 0) : Int) (nat_lit 0)), (.ref (nat_lit 93)), (.int ((nat_lit 16) : Int) (nat_lit 0)), (.int ((nat_lit 0) : Int) (nat_lit 0)), (.ref (nat_lit 105)), (.int ((nat_lit 22) : Int) (nat_lit 0)), (.int ((nat_lit 0) : Int) (nat_lit 0)), (.ref (nat_lit 117)), (.int ((nat_lit 29) : Int) (nat_lit 0)), (.int ((nat_lit 0) : Int) (nat_lit 0)), (.ref (nat_lit 124)), (.int ((nat_lit 37) : Int) (nat_lit 0)), (.int ((nat_lit 0) : Int) (nat_lit 0)), (.ref (nat_lit 129)), (.int ((nat_lit 40) : Int) (nat_lit 0)), (.int ((nat_lit 0) : Int) (nat_lit 0)), (.ref (nat_lit 136)), (.int ((nat_lit 43) : Int) (nat_lit 0)), (.int ((nat_lit 0) : Int) (nat_lit 0)), (.ref (nat_lit 143)), (.int ((nat_lit 49) : Int) (nat_lit 0)), (.int ((nat_lit 0) : Int) (nat_lit 0)), (.ref (nat_lit 150)), (.int ((nat_lit 65) : Int) (nat_lit 0)), (.int ((nat_lit 0) : Int) (nat_lit 0)), (.ref (nat_lit 155)), (.int ((nat_lit 67) : Int) (nat_lit 0)), (.int ((nat_lit 0) : Int) (nat_lit 0)), (.ref (nat_lit 162)), (.int ((nat_lit 77) : Int) (nat_lit 0)), (.int ((nat_lit 0) : Int) (nat_lit 0)), (.ref (nat_lit 167)), (.int ((nat_lit 85) : Int) (nat_lit 0)), (.int ((nat_lit 0) : Int) (nat_lit 0)), (.ref (nat_lit 174)), (.int ((nat_lit 108) : Int) (nat_lit 0)), (.int ((nat_lit 0) : Int) (nat_lit 0)), (.ref (nat_lit 181)), (.int ((nat_lit 123) : Int) (nat_lit 0)), (.int ((nat_lit 0) : Int) (nat_lit 0)), (.ref (nat_lit 188))])) (List.toArray []))
noncomputable def o112_0 (P : Params) : Obj := (.mk (.type "tuple") none (.seq (List.toArray []) (nat_lit 0)) (List.toArray []))
noncomputable def o113_0 (P : Params) : Obj := (.mk Value.none none (.fields (List.toArray [])) (List.toArray []))
noncomputable def o114_0 (P : Params) : Obj := (.mk (.type "tuple") none (.seq (List.toArray [(.str "text" (nat_lit 330)), (.str "sign" (nat_lit 331))]) (nat_lit 0)) (List.toArray []))
noncomputable def o115_0 (P : Params) : Obj := (.mk (.type "tuple") none (.seq (List.toArray []) (nat_lit 0)) (List.toArray []))
noncomputable def o116_0 (P : Params) : Obj := (.mk Value.none none (.func (.mk "is_part" "is_part" (fA TB 13) (.stmts (fB TB 13)) (fS TB 13) (nat_lit 0) [] Value.none Value.none Value.none Value.none none Value.none Value.none (nat_lit 0))) (List.toArray []))
noncomputable def o117_0 (P : Params) : Obj := (.mk (.type "code") none (.fields (List.toArray [(.str "is_part" (nat_lit 327)), (.str "is_part" (nat_lit 328)), (.str "/claim/cut.py" (nat_lit 329)), (.int ((nat_lit 22) : Int) (nat_lit 0)), (.int ((nat_lit 1) : Int) (nat_lit 0)), (.int ((nat_lit 0) : Int) (nat_lit 0)), (.int ((nat_lit 0) : Int) (nat_lit 0)), (.int ((nat_lit 3) : Int) (nat_lit 0)), (.ref (nat_lit 112)), (.bool true), (.int ((nat_lit 181) : Int) (nat_lit 0)), (.ref (nat_lit 113)), Value.none, (.ref (nat_lit 114)), (.ref (nat_lit 115)), (.ref (nat_lit 116)), (.int ((nat_lit 332) : Int) (nat_lit 0)), (.int ((nat_lit 22) : Int) (nat_lit 0)), (.str "/claim/cut.py" (nat_lit 333))])) (List.toArray []))
noncomputable def o118_0 (P : Params) : Obj := (.mk (.type "function") none (.func (.mk "is_part" "is_part" (fA TB 13) (.stmts (fB TB 13)) (fS TB 13) (nat_lit 3) [] Value.none Value.none Value.none (.str "threeroad.paths" (nat_lit 319)) none (.ref (nat_lit 117)) Value.none (nat_lit 0))) (List.toArray []))
noncomputable def o119_0 (P : Params) : Obj := (.mk (.type "tuple") none (.seq (List.toArray []) (nat_lit 0)) (List.toArray []))
noncomputable def o120_0 (P : Params) : Obj := (.mk Value.none none (.fields (List.toArray [])) (List.toArray []))
noncomputable def o121_0 (P : Params) : Obj := (.mk (.type "tuple") none (.seq (List.toArray [(.str "text" (nat_lit 338)), (.str "parts" (nat_lit 339)), (.str "part" (nat_lit 340))]) (nat_lit 0)) (List.toArray []))
noncomputable def o122_0 (P : Params) : Obj := (.mk (.type "tuple") none (.seq (List.toArray []) (nat_lit 0)) (List.toArray []))
noncomputable def o123_0 (P : Params) : Obj := (.mk Value.none none (.func (.mk "is_path" "is_path" (fA TB 14) (.stmts (fB TB 14)) (fS TB 14) (nat_lit 0) [] Value.none Value.none Value.none Value.none none Value.none Value.none (nat_lit 0))) (List.toArray []))
noncomputable def o124_0 (P : Params) : Obj := (.mk (.type "code") none (.fields (List.toArray [(.str "is_path" (nat_lit 335)), (.str "is_path" (nat_lit 336)), (.str "/claim/cut.py" (nat_lit 337)), (.int ((nat_lit 29) : Int) (nat_lit 0)), (.int ((nat_lit 1) : Int) (nat_lit 0)), (.int ((nat_lit 0) : Int) (nat_lit 0)), (.int ((nat_lit 0) : Int) (nat_lit 0)), (.int ((nat_lit 3) : Int) (nat_lit 0)), (.ref (nat_lit 119)), (.bool true), (.int ((nat_lit 181) : Int) (nat_lit 0)), (.ref (nat_lit 120)), Value.none, (.ref (nat_lit 121)), (.ref (nat_lit 122)), (.ref (nat_lit 123)), (.int ((nat_lit 341) : Int) (nat_lit 0)), (.int ((nat_lit 29) : Int) (nat_lit 0)), (.str "/claim/cut.py" (nat_lit 342))])) (List.toArray []))
noncomputable def o125_0 (P : Params) : Obj := (.mk (.type "function") none (.func (.mk "is_path" "is_path" (fA TB 14) (.stmts (fB TB 14)) (fS TB 14) (nat_lit 3) [] Value.none Value.none Value.none (.str "threeroad.paths" (nat_lit 319)) none (.ref (nat_lit 124)) Value.none (nat_lit 0))) (List.toArray []))
noncomputable def o126_0 (P : Params) : Obj := (.mk (.type "tuple") none (.seq (List.toArray []) (nat_lit 0)) (List.toArray []))
noncomputable def o127_0 (P : Params) : Obj := (.mk Value.none none (.fields (List.toArray [])) (List.toArray []))
noncomputable def o128_0 (P : Params) : Obj := (.mk Value.none none (.func (.mk "above" "above" (fA TB 15) (.stmts (fB TB 15)) (fS TB 15) (nat_lit 0) [] Value.none Value.none Value.none Value.none none Value.none Value.none (nat_lit 0))) (List.toArray []))
noncomputable def o129_0 (P : Params) : Obj := (.mk (.type "code") none (.fields (List.toArray [(.str "above" (nat_lit 344)), (.str "above" (nat_lit 345)), (.str "/claim/cut.py" (nat_lit 346)), (.int ((nat_lit 37) : Int) (nat_lit 0)), (.int ((nat_lit 1) : Int) (nat_lit 0)), (.int ((nat_lit 0) : Int) (nat_lit 0)), (.int ((nat_lit 0) : Int) (nat_lit 0)), (.int ((nat_lit 3) : Int) (nat_lit 0)), (.ref (nat_lit 126)), (.bool true), (.int ((nat_lit 181) : Int) (nat_lit 0)), (.ref (nat_lit 127)), Value.none, Value.none, Value.none, (.ref (nat_lit 128)), (.int ((nat_lit 347) : Int) (nat_lit 0)), (.int ((nat_lit 37) : Int) (nat_lit 0)), (.str "/claim/cut.py" (nat_lit 348))])) (List.toArray []))
noncomputable def o130_0 (P : Params) : Obj := (.mk (.type "function") none (.func (.mk "above" "above" (fA TB 15) (.stmts (fB TB 15)) (fS TB 15) (nat_lit 3) [] Value.none Value.none Value.none (.str "threeroad.paths" (nat_lit 319)) none (.ref (nat_lit 129)) Value.none (nat_lit 0))) (List.toArray []))
noncomputable def o131_0 (P : Params) : Obj := (.mk (.type "tuple") none (.seq (List.toArray []) (nat_lit 0)) (List.toArray []))
noncomputable def o132_0 (P : Params) : Obj := (.mk Value.none none (.fields (List.toArray [])) (List.toArray []))
noncomputable def o133_0 (P : Params) : Obj := (.mk (.type "tuple") none (.seq (List.toArray [(.str "path" (nat_lit 353)), (.str "upper" (nat_lit 354))]) (nat_lit 0)) (List.toArray []))
noncomputable def o134_0 (P : Params) : Obj := (.mk (.type "tuple") none (.seq (List.toArray []) (nat_lit 0)) (List.toArray []))
noncomputable def o135_0 (P : Params) : Obj := (.mk Value.none none (.func (.mk "is_beneath" "is_beneath" (fA TB 16) (.stmts (fB TB 16)) (fS TB 16) (nat_lit 0) [] Value.none Value.none Value.none Value.none none Value.none Value.none (nat_lit 0))) (List.toArray []))
noncomputable def o136_0 (P : Params) : Obj := (.mk (.type "code") none (.fields (List.toArray [(.str "is_beneath" (nat_lit 350)), (.str "is_beneath" (nat_lit 351)), (.str "/claim/cut.py" (nat_lit 352)), (.int ((nat_lit 40) : Int) (nat_lit 0)), (.int ((nat_lit 2) : Int) (nat_lit 0)), (.int ((nat_lit 0) : Int) (nat_lit 0)), (.int ((nat_lit 0) : Int) (nat_lit 0)), (.int ((nat_lit 3) : Int) (nat_lit 0)), (.ref (nat_lit 131)), (.bool true), (.int ((nat_lit 181) : Int) (nat_lit 0)), (.ref (nat_lit 132)), Value.none, (.ref (nat_lit 133)), (.ref (nat_lit 134)), (.ref (nat_lit 135)), (.int ((nat_lit 355) : Int) (nat_lit 0)), (.int ((nat_lit 40) : Int) (nat_lit 0)), (.str "/claim/cut.py" (nat_lit 356))])) (List.toArray []))
noncomputable def o137_0 (P : Params) : Obj := (.mk (.type "function") none (.func (.mk "is_beneath" "is_beneath" (fA TB 16) (.stmts (fB TB 16)) (fS TB 16) (nat_lit 3) [] Value.none Value.none Value.none (.str "threeroad.paths" (nat_lit 319)) none (.ref (nat_lit 136)) Value.none (nat_lit 0))) (List.toArray []))
noncomputable def o138_0 (P : Params) : Obj := (.mk (.type "tuple") none (.seq (List.toArray []) (nat_lit 0)) (List.toArray []))
noncomputable def o139_0 (P : Params) : Obj := (.mk Value.none none (.fields (List.toArray [])) (List.toArray []))
noncomputable def o140_0 (P : Params) : Obj := (.mk (.type "tuple") none (.seq (List.toArray [(.str "elder" (nat_lit 363)), (.str "one" (nat_lit 364)), (.str "other" (nat_lit 365)), (.str "found" (nat_lit 366)), (.str "tree" (nat_lit 367)), (.str "path" (nat_lit 368))]) (nat_lit 0)) (List.toArray []))
noncomputable def o141_0 (P : Params) : Obj := (.mk (.type "tuple") none (.seq (List.toArray []) (nat_lit 0)) (List.toArray []))
noncomputable def o142_0 (P : Params) : Obj := (.mk Value.none none (.func (.mk "all_paths" "all_paths" (fA TB 18) (.stmts (fB TB 18)) (fS TB 18) (nat_lit 0) [] Value.none Value.none Value.none Value.none none Value.none Value.none (nat_lit 0))) (List.toArray []))
noncomputable def o143_0 (P : Params) : Obj := (.mk (.type "code") none (.fields (List.toArray [(.str "all_paths" (nat_lit 360)), (.str "all_paths" (nat_lit 361)), (.str "/claim/cut.py" (nat_lit 362)), (.int ((nat_lit 43) : Int) (nat_lit 0)), (.int ((nat_lit 3) : Int) (nat_lit 0)), (.int ((nat_lit 0) : Int) (nat_lit 0)), (.int ((nat_lit 0) : Int) (nat_lit 0)), (.int ((nat_lit 3) : Int) (nat_lit 0)), (.ref (nat_lit 138)), (.bool true), (.int ((nat_lit 181) : Int) (nat_lit 0)), (.ref (nat_lit 139)), Value.none, (.ref (nat_lit 140)), (.ref (nat_lit 141)), (.ref (nat_lit 142)), (.int ((nat_lit 369) : Int) (nat_lit 0)), (.int ((nat_lit 43) : Int) (nat_lit 0)), (.str "/claim/cut.py" (nat_lit 370))])) (List.toArray []))
noncomputable def o144_0 (P : Params) : Obj := (.mk (.type "function") none (.func (.mk "all_paths" "all_paths" (fA TB 18) (.stmts (fB TB 18)) (fS TB 18) (nat_lit 3) [] Value.none Value.none Value.none (.str "threeroad.joining" (nat_lit 358)) none (.ref (nat_lit 143)) Value.none (nat_lit 0))) (List.toArray []))
noncomputable def o145_0 (P : Params) : Obj := (.mk (.type "tuple") none (.seq (List.toArray []) (nat_lit 0)) (List.toArray []))
noncomputable def o146_0 (P : Params) : Obj := (.mk Value.none none (.fields (List.toArray [])) (List.toArray []))
noncomputable def o147_0 (P : Params) : Obj := (.mk (.type "tuple") none (.seq (List.toArray [(.str "elder" (nat_lit 375)), (.str "one" (nat_lit 376)), (.str "other" (nat_lit 377)), (.str "told" (nat_lit 378)), (.str "path" (nat_lit 379)), (.str "was" (nat_lit 380)), (.str "mine" (nat_lit 381)), (.str "theirs" (nat_lit 382))]) (nat_lit 0)) (List.toArray []))
noncomputable def o148_0 (P : Params) : Obj := (.mk (.type "tuple") none (.seq (List.toArray []) (nat_lit 0)) (List.toArray []))
noncomputable def o149_0 (P : Params) : Obj := (.mk Value.none none (.func (.mk "marks" "marks" (fA TB 19) (.stmts (fB TB 19)) (fS TB 19) (nat_lit 0) [] Value.none Value.none Value.none Value.none none Value.none Value.none (nat_lit 0))) (List.toArray []))
noncomputable def o150_0 (P : Params) : Obj := (.mk (.type "code") none (.fields (List.toArray [(.str "marks" (nat_lit 372)), (.str "marks" (nat_lit 373)), (.str "/claim/cut.py" (nat_lit 374)), (.int ((nat_lit 49) : Int) (nat_lit 0)), (.int ((nat_lit 3) : Int) (nat_lit 0)), (.int ((nat_lit 0) : Int) (nat_lit 0)), (.int ((nat_lit 0) : Int) (nat_lit 0)), (.int ((nat_lit 3) : Int) (nat_lit 0)), (.ref (nat_lit 145)), (.bool true), (.int ((nat_lit 181) : Int) (nat_lit 0)), (.ref (nat_lit 146)), Value.none, (.ref (nat_lit 147)), (.ref (nat_lit 148)), (.ref (nat_lit 149)), (.int ((nat_lit 383) : Int) (nat_lit 0)), (.int ((nat_lit 49) : Int) (nat_lit 0)), (.str "/claim/cut.py" (nat_lit 384))])) (List.toArray []))
noncomputable def o151_0 (P : Params) : Obj := (.mk (.type "function") none (.func (.mk "marks" "marks" (fA TB 19) (.stmts (fB TB 19)) (fS TB 19) (nat_lit 3) [] Value.none Value.none Value.none (.str "threeroad.joining" (nat_lit 358)) none (.ref (nat_lit 150)) Value.none (nat_lit 0))) (List.toArray []))
noncomputable def o152_0 (P : Params) : Obj := (.mk (.type "tuple") none (.seq (List.toArray []) (nat_lit 0)) (List.toArray []))
noncomputable def o153_0 (P : Params) : Obj := (.mk Value.none none (.fields (List.toArray [])) (List.toArray []))
noncomputable def o154_0 (P : Params) : Obj := (.mk Value.none none (.func (.mk "clashing" "clashing" (fA TB 20) (.stmts (fB TB 20)) (fS TB 20) (nat_lit 0) [] Value.none Value.none Value.none Value.none none Value.none Value.none (nat_lit 0))) (List.toArray []))
noncomputable def o155_0 (P : Params) : Obj := (.mk (.type "code") none (.fields (List.toArray [(.str "clashing" (nat_lit 386)), (.str "clashing" (nat_lit 387)), (.str "/claim/cut.py" (nat_lit 388)), (.int ((nat_lit 65) : Int) (nat_lit 0)), (.int ((nat_lit 3) : Int) (nat_lit 0)), (.int ((nat_lit 0) : Int) (nat_lit 0)), (.int ((nat_lit 0) : Int) (nat_lit 0)), (.int ((nat_lit 3) : Int) (nat_lit 0)), (.ref (nat_lit 152)), (.bool true), (.int ((nat_lit 181) : Int) (nat_lit 0)), (.ref (nat_lit 153)), Value.none, Value.none, Value.none, (.ref (nat_lit 154)), (.int ((nat_lit 389) : Int) (nat_lit 0)), (.int ((nat_lit 65) : Int) (nat_lit 0)), (.str "/claim/cut.py" (nat_lit 390))])) (List.toArray []))
noncomputable def o156_0 (P : Params) : Obj := (.mk (.type "function") none (.func (.mk "clashing" "clashing" (fA TB 20) (.stmts (fB TB 20)) (fS TB 20) (nat_lit 3) [] Value.none Value.none Value.none (.str "threeroad.joining" (nat_lit 358)) none (.ref (nat_lit 155)) Value.none (nat_lit 0))) (List.toArray []))
noncomputable def o157_0 (P : Params) : Obj := (.mk (.type "tuple") none (.seq (List.toArray []) (nat_lit 0)) (List.toArray []))
noncomputable def o158_0 (P : Params) : Obj := (.mk Value.none none (.fields (List.toArray [])) (List.toArray []))
noncomputable def o159_0 (P : Params) : Obj := (.mk (.type "tuple") none (.seq (List.toArray [(.str "elder" (nat_lit 395)), (.str "one" (nat_lit 396)), (.str "other" (nat_lit 397)), (.str "away" (nat_lit 398)), (.str "found" (nat_lit 399)), (.str "path" (nat_lit 400)), (.str "text" (nat_lit 401))]) (nat_lit 0)) (List.toArray []))
noncomputable def o160_0 (P : Params) : Obj := (.mk (.type "tuple") none (.seq (List.toArray []) (nat_lit 0)) (List.toArray []))
noncomputable def o161_0 (P : Params) : Obj := (.mk Value.none none (.func (.mk "standing" "standing" (fA TB 21) (.stmts (fB TB 21)) (fS TB 21) (nat_lit 0) [] Value.none Value.none Value.none Value.none none Value.none Value.none (nat_lit 0))) (List.toArray []))
noncomputable def o162_0 (P : Params) : Obj := (.mk (.type "code") none (.fields (List.toArray [(.str "standing" (nat_lit 392)), (.str "standing" (nat_lit 393)), (.str "/claim/cut.py" (nat_lit 394)), (.int ((nat_lit 67) : Int) (nat_lit 0)), (.int ((nat_lit 3) : Int) (nat_lit 0)), (.int ((nat_lit 0) : Int) (nat_lit 0)), (.int ((nat_lit 0) : Int) (nat_lit 0)), (.int ((nat_lit 3) : Int) (nat_lit 0)), (.ref (nat_lit 157)), (.bool true), (.int ((nat_lit 181) : Int) (nat_lit 0)), (.ref (nat_lit 158)), Value.none, (.ref (nat_lit 159)), (.ref (nat_lit 160)), (.ref (nat_lit 161)), (.int ((nat_lit 402) : Int) (nat_lit 0)), (.int ((nat_lit 67) : Int) (nat_lit 0)), (.str "/claim/cut.py" (nat_lit 403))])) (List.toArray []))
noncomputable def o163_0 (P : Params) : Obj := (.mk (.type "function") none (.func (.mk "standing" "standing" (fA TB 21) (.stmts (fB TB 21)) (fS TB 21) (nat_lit 3) [] Value.none Value.none Value.none (.str "threeroad.joining" (nat_lit 358)) none (.ref (nat_lit 162)) Value.none (nat_lit 0))) (List.toArray []))
noncomputable def o164_0 (P : Params) : Obj := (.mk (.type "tuple") none (.seq (List.toArray []) (nat_lit 0)) (List.toArray []))
noncomputable def o165_0 (P : Params) : Obj := (.mk Value.none none (.fields (List.toArray [])) (List.toArray []))
noncomputable def o166_0 (P : Params) : Obj := (.mk Value.none none (.func (.mk "clashes" "clashes" (fA TB 22) (.stmts (fB TB 22)) (fS TB 22) (nat_lit 0) [] Value.none Value.none Value.none Value.none none Value.none Value.none (nat_lit 0))) (List.toArray []))
noncomputable def o167_0 (P : Params) : Obj := (.mk (.type "code") none (.fields (List.toArray [(.str "clashes" (nat_lit 405)), (.str "clashes" (nat_lit 406)), (.str "/claim/cut.py" (nat_lit 407)), (.int ((nat_lit 77) : Int) (nat_lit 0)), (.int ((nat_lit 3) : Int) (nat_lit 0)), (.int ((nat_lit 0) : Int) (nat_lit 0)), (.int ((nat_lit 0) : Int) (nat_lit 0)), (.int ((nat_lit 3) : Int) (nat_lit 0)), (.ref (nat_lit 164)), (.bool true), (.int ((nat_lit 181) : Int) (nat_lit 0)), (.ref (nat_lit 165)), Value.none, Value.none, Value.none, (.ref (nat_lit 166)), (.int ((nat_lit 408) : Int) (nat_lit 0)), (.int ((nat_lit 77) : Int) (nat_lit 0)), (.str "/claim/cut.py" (nat_lit 409))])) (List.toArray []))
noncomputable def o168_0 (P : Params) : Obj := (.mk (.type "function") none (.func (.mk "clashes" "clashes" (fA TB 22) (.stmts (fB TB 22)) (fS TB 22) (nat_lit 3) [] Value.none Value.none Value.none (.str "threeroad.joining" (nat_lit 358)) none (.ref (nat_lit 167)) Value.none (nat_lit 0))) (List.toArray []))
noncomputable def o169_0 (P : Params) : Obj := (.mk (.type "tuple") none (.seq (List.toArray []) (nat_lit 0)) (List.toArray []))
noncomputable def o170_0 (P : Params) : Obj := (.mk Value.none none (.fields (List.toArray [])) (List.toArray []))
noncomputable def o171_0 (P : Params) : Obj := (.mk (.type "tuple") none (.seq (List.toArray [(.str "elder" (nat_lit 414)), (.str "one" (nat_lit 415)), (.str "other" (nat_lit 416)), (.str "picks" (nat_lit 417)), (.str "known" (nat_lit 418)), (.str "clash" (nat_lit 419)), (.str "path" (nat_lit 420)), (.str "files" (nat_lit 421)), (.str "folder" (nat_lit 422))]) (nat_lit 0)) (List.toArray []))
noncomputable def o172_0 (P : Params) : Obj := (.mk (.type "tuple") none (.seq (List.toArray []) (nat_lit 0)) (List.toArray []))
noncomputable def o173_0 (P : Params) : Obj := (.mk Value.none none (.func (.mk "joined" "joined" (fA TB 23) (.stmts (fB TB 23)) (fS TB 23) (nat_lit 0) [] Value.none Value.none Value.none Value.none none Value.none Value.none (nat_lit 0))) (List.toArray []))
noncomputable def o174_0 (P : Params) : Obj := (.mk (.type "code") none (.fields (List.toArray [(.str "joined" (nat_lit 411)), (.str "joined" (nat_lit 412)), (.str "/claim/cut.py" (nat_lit 413)), (.int ((nat_lit 85) : Int) (nat_lit 0)), (.int ((nat_lit 4) : Int) (nat_lit 0)), (.int ((nat_lit 0) : Int) (nat_lit 0)), (.int ((nat_lit 0) : Int) (nat_lit 0)), (.int ((nat_lit 3) : Int) (nat_lit 0)), (.ref (nat_lit 169)), (.bool true), (.int ((nat_lit 181) : Int) (nat_lit 0)), (.ref (nat_lit 170)), Value.none, (.ref (nat_lit 171)), (.ref (nat_lit 172)), (.ref (nat_lit 173)), (.int ((nat_lit 423) : Int) (nat_lit 0)), (.int ((nat_lit 85) : Int) (nat_lit 0)), (.str "/claim/cut.py" (nat_lit 424))])) (List.toArray []))
noncomputable def o175_0 (P : Params) : Obj := (.mk (.type "function") none (.func (.mk "joined" "joined" (fA TB 23) (.stmts (fB TB 23)) (fS TB 23) (nat_lit 3) [] Value.none Value.none Value.none (.str "threeroad.joining" (nat_lit 358)) none (.ref (nat_lit 174)) Value.none (nat_lit 0))) (List.toArray []))
noncomputable def o176_0 (P : Params) : Obj := (.mk (.type "tuple") none (.seq (List.toArray []) (nat_lit 0)) (List.toArray []))
noncomputable def o177_0 (P : Params) : Obj := (.mk Value.none none (.fields (List.toArray [])) (List.toArray []))
noncomputable def o178_0 (P : Params) : Obj := (.mk (.type "tuple") none (.seq (List.toArray [(.str "tree" (nat_lit 431)), (.str "deed" (nat_lit 432)), (.str "path" (nat_lit 433)), (.str "fresh" (nat_lit 434)), (.str "other" (nat_lit 435))]) (nat_lit 0)) (List.toArray []))
noncomputable def o179_0 (P : Params) : Obj := (.mk (.type "tuple") none (.seq (List.toArray []) (nat_lit 0)) (List.toArray []))
noncomputable def o180_0 (P : Params) : Obj := (.mk Value.none none (.func (.mk "done" "done" (fA TB 25) (.stmts (fB TB 25)) (fS TB 25) (nat_lit 0) [] Value.none Value.none Value.none Value.none none Value.none Value.none (nat_lit 0))) (List.toArray []))
noncomputable def o181_0 (P : Params) : Obj := (.mk (.type "code") none (.fields (List.toArray [(.str "done" (nat_lit 428)), (.str "done" (nat_lit 429)), (.str "/claim/cut.py" (nat_lit 430)), (.int ((nat_lit 108) : Int) (nat_lit 0)), (.int ((nat_lit 2) : Int) (nat_lit 0)), (.int ((nat_lit 0) : Int) (nat_lit 0)), (.int ((nat_lit 0) : Int) (nat_lit 0)), (.int ((nat_lit 3) : Int) (nat_lit 0)), (.ref (nat_lit 176)), (.bool true), (.int ((nat_lit 181) : Int) (nat_lit 0)), (.ref (nat_lit 177)), Value.none, (.ref (nat_lit 178)), (.ref (nat_lit 179)), (.ref (nat_lit 180)), (.int ((nat_lit 436) : Int) (nat_lit 0)), (.int ((nat_lit 108) : Int) (nat_lit 0)), (.str "/claim/cut.py" (nat_lit 437))])) (List.toArray []))
noncomputable def o182_0 (P : Params) : Obj := (.mk (.type "function") none (.func (.mk "done" "done" (fA TB 25) (.stmts (fB TB 25)) (fS TB 25) (nat_lit 3) [] Value.none Value.none Value.none (.str "threeroad.trees" (nat_lit 426)) none (.ref (nat_lit 181)) Value.none (nat_lit 0))) (List.toArray []))
noncomputable def o183_0 (P : Params) : Obj := (.mk (.type "tuple") none (.seq (List.toArray []) (nat_lit 0)) (List.toArray []))
noncomputable def o184_0 (P : Params) : Obj := (.mk Value.none none (.fields (List.toArray [])) (List.toArray []))
noncomputable def o185_0 (P : Params) : Obj := (.mk (.type "tuple") none (.seq (List.toArray [(.str "tree" (nat_lit 442)), (.str "deeds" (nat_lit 443)), (.str "fresh" (nat_lit 444)), (.str "deed" (nat_lit 445))]) (nat_lit 0)) (List.toArray []))
noncomputable def o186_0 (P : Params) : Obj := (.mk (.type "tuple") none (.seq (List.toArray []) (nat_lit 0)) (List.toArray []))
noncomputable def o187_0 (P : Params) : Obj := (.mk Value.none none (.func (.mk "changed" "changed" (fA TB 26) (.stmts (fB TB 26)) (fS TB 26) (nat_lit 0) [] Value.none Value.none Value.none Value.none none Value.none Value.none (nat_lit 0))) (List.toArray []))
noncomputable def o188_0 (P : Params) : Obj := (.mk (.type "code") none (.fields (List.toArray [(.str "changed" (nat_lit 439)), (.str "changed" (nat_lit 440)), (.str "/claim/cut.py" (nat_lit 441)), (.int ((nat_lit 123) : Int) (nat_lit 0)), (.int ((nat_lit 2) : Int) (nat_lit 0)), (.int ((nat_lit 0) : Int) (nat_lit 0)), (.int ((nat_lit 0) : Int) (nat_lit 0)), (.int ((nat_lit 3) : Int) (nat_lit 0)), (.ref (nat_lit 183)), (.bool true), (.int ((nat_lit 181) : Int) (nat_lit 0)), (.ref (nat_lit 184)), Value.none, (.ref (nat_lit 185)), (.ref (nat_lit 186)), (.ref (nat_lit 187)), (.int ((nat_lit 446) : Int) (nat_lit 0)), (.int ((nat_lit 123) : Int) (nat_lit 0)), (.str "/claim/cut.py" (nat_lit 447))])) (List.toArray []))
noncomputable def o189_0 (P : Params) : Obj := (.mk (.type "function") none (.func (.mk "changed" "changed" (fA TB 26) (.stmts (fB TB 26)) (fS TB 26) (nat_lit 3) [] Value.none Value.none Value.none (.str "threeroad.trees" (nat_lit 426)) none (.ref (nat_lit 188)) Value.none (nat_lit 0))) (List.toArray []))
noncomputable def tr_28 (P : Params) : PySem.W.BT := (.node (boot_o_0 P) (.node (boot_o_1 P) (.node (o3_4 P) (.node (boot_o_7 P) (.node (o15_0 P) (.node (o31_0 P) (.node (o63_0 P) (.node (o127_0 P) .nil .nil) .nil) (.node (o95_0 P) (.node (o159_0 P) .nil .nil) .nil)) (.node (o47_0 P) (.node (o79_0 P) (.node (o143_0 P) .nil .nil) .nil) (.node (o111_0 P) (.node (o175_0 P) .nil .nil) .nil))) (.node (o23_0 P) (.node (o39_0 P) (.node (o71_0 P) (.node (o135_0 P) .nil .nil) .nil) (.node (o103_0 P) (.node (o167_0 P) .nil .nil) .nil)) (.node (o55_0 P) (.node (o87_0 P) (.node (o151_0 P) .nil .nil) .nil) (.node (o119_0 P) (.node (o183_0 P) .nil .nil) .nil)))) (.node (o11_0 P) (.node (o19_0 P) (.node (o35_0 P) (.node (o67_0 P) (.node (o131_0 P) .nil .nil) .nil) (.node (o99_0 P) (.node (o163_0 P) .nil .nil) .nil)) (.node (o51_0 P) (.node (o83_0 P) (.node (o147_0 P) .nil .nil) .nil) (.node (o115_0 P) (.node (o179_0 P) .nil .nil) .nil))) (.node (o27_0 P) (.node (o43_0 P) (.node (o75_0 P) (.node (o139_0 P) .nil .nil) .nil) (.node (o107_0 P) (.node (o171_0 P) .nil .nil) .nil)) (.node (o59_0 P) (.node (o91_0 P) (.node (o155_0 P) .nil .nil) .nil) (.node (o123_0 P) (.node (o187_0 P) .nil .nil) .nil))))) (.node (boot_o_5 P) (.node (boot_o_9 P) (.node (o17_0 P) (.node (o33_0 P) (.node (o65_0 P) (.node (o129_0 P) .nil .nil) .nil) (.node (o97_0 P) (.node (o161_0 P) .nil .nil) .nil)) (.node (o49_0 P) (.node (o81_0 P) (.node (o145_0 P) .nil .nil) .nil) (.node (o113_0 P) (.node (o177_0 P) .nil .nil) .nil))) (.node (o25_0 P) (.node (o41_0 P) (.node (o73_0 P) (.node (o137_0 P) .nil .nil) .nil) (.node (o105_0 P) (.node (o169_0 P) .nil .nil) .nil)) (.node (o57_0 P) (.node (o89_0 P) (.node (o153_0 P) .nil .nil) .nil) (.node (o121_0 P) (.node (o185_0 P) .nil .nil) .nil)))) (.node (o13_0 P) (.node (o21_0 P) (.node (o37_0 P) (.node (o69_0 P) (.node (o133_0 P) .nil .nil) .nil) (.node (o101_0 P) (.node (o165_0 P) .nil .nil) .nil)) (.node (o53_0 P) (.node (o85_0 P) (.node (o149_0 P) .nil .nil) .nil) (.node (o117_0 P) (.node (o181_0 P) .nil .nil) .nil))) (.node (o29_0 P) (.node (o45_0 P) (.node (o77_0 P) (.node (o141_0 P) .nil .nil) .nil) (.node (o109_0 P) (.node (o173_0 P) .nil .nil) .nil)) (.node (o61_0 P) (.node (o93_0 P) (.node (o157_0 P) .nil .nil) .nil) (.node (o125_0 P) (.node (o189_0 P) .nil .nil) .nil)))))) (.node (boot_o_2 P) (.node (boot_o_4 P) (.node (boot_o_8 P) (.node (o16_0 P) (.node (o32_0 P) (.node (o64_0 P) (.node (o128_0 P) .nil .nil) .nil) (.node (o96_0 P) (.node (o160_0 P) .nil .nil) .nil)) (.node (o48_0 P) (.node (o80_0 P) (.node (o144_0 P) .nil .nil) .nil) (.node (o112_0 P) (.node (o176_0 P) .nil .nil) .nil))) (.node (o24_3 P) (.node (o40_0 P) (.node (o72_0 P) (.node (o136_0 P) .nil .nil) .nil) (.node (o104_0 P) (.node (o168_0 P) .nil .nil) .nil)) (.node (o56_0 P) (.node (o88_0 P) (.node (o152_0 P) .nil .nil) .nil) (.node (o120_0 P) (.node (o184_0 P) .nil .nil) .nil)))) (.node (o12_5 P) (.node (o20_0 P) (.node (o36_0 P) (.node (o68_0 P) (.node (o132_0 P) .nil .nil) .nil) (.node (o100_0 P) (.node (o164_0 P) .nil .nil) .nil)) (.node (o52_0 P) (.node (o84_0 P) (.node (o148_0 P) .nil .nil) .nil) (.node (o116_0 P) (.node (o180_0 P) .nil .nil) .nil))) (.node (o28_0 P) (.node (o44_0 P) (.node (o76_0 P) (.node (o140_0 P) .nil .nil) .nil) (.node (o108_0 P) (.node (o172_0 P) .nil .nil) .nil)) (.node (o60_0 P) (.node (o92_0 P) (.node (o156_0 P) .nil .nil) .nil) (.node (o124_0 P) (.node (o188_0 P) .nil .nil) .nil))))) (.node (boot_o_6 P) (.node (boot_o_10 P) (.node (o18_0 P) (.node (o34_0 P) (.node (o66_0 P) (.node (o130_0 P) .nil .nil) .nil) (.node (o98_0 P) (.node (o162_0 P) .nil .nil) .nil)) (.node (o50_0 P) (.node (o82_0 P) (.node (o146_0 P) .nil .nil) .nil) (.node (o114_0 P) (.node (o178_0 P) .nil .nil) .nil))) (.node (o26_0 P) (.node (o42_0 P) (.node (o74_0 P) (.node (o138_0 P) .nil .nil) .nil) (.node (o106_0 P) (.node (o170_0 P) .nil .nil) .nil)) (.node (o58_0 P) (.node (o90_0 P) (.node (o154_0 P) .nil .nil) .nil) (.node (o122_0 P) (.node (o186_0 P) .nil .nil) .nil)))) (.node (o14_0 P) (.node (o22_0 P) (.node (o38_0 P) (.node (o70_0 P) (.node (o134_0 P) .nil .nil) .nil) (.node (o102_0 P) (.node (o166_0 P) .nil .nil) .nil)) (.node (o54_0 P) (.node (o86_0 P) (.node (o150_0 P) .nil .nil) .nil) (.node (o118_0 P) (.node (o182_0 P) .nil .nil) .nil))) (.node (o30_0 P) (.node (o46_0 P) (.node (o78_0 P) (.node (o142_0 P) .nil .nil) .nil) (.node (o110_0 P) (.node (o174_0 P) .nil .nil) .nil)) (.node (o62_0 P) (.node (o94_0 P) (.node (o158_0 P) .nil .nil) .nil) (.node (o126_0 P) .nil .nil)))))))
abbrev st_28 (w : World) (os : OsState) : SharedT := SharedT.mk (tr_28 w.params) (nat_lit 190) (@Life.mk [] [] [] (nat_lit 0) [] [] false (@List.toArray @Nat []) [] (nat_lit 0) false false false ((nat_lit 0) : Int) [((nat_lit 2000) : Int), ((nat_lit 10) : Int), ((nat_lit 10) : Int)] false (nat_lit 0) true [] [] (nat_lit 0) false) (@Array.mk GenState []) (@Drawn.mk (nat_lit 0) (nat_lit 0) (nat_lit 0) (nat_lit 0)) (nat_lit 451) os
noncomputable def ss_28 : List Stmt := ((behindTheImports pw).drop 11).take 17
theorem q_28 : ∀ w : World, (fun os => segRunT treeTable pw w 11 ann 1 (nat_lit 422) (st_11 w os) (piecesOf ss_28 env cE (@Pos.mk (nat_lit 19) (nat_lit 0) (nat_lit 19) (nat_lit 5)) BB)) = fun os => some (Flow.next, st_28 w os, cE, (@Pos.mk (nat_lit 128) (nat_lit 0) (nat_lit 128) (nat_lit 8))) := fun w => by rw [segRunT_q, table_q]; kernel_rfl
noncomputable def o3_5 (P : Params) : Obj := (.mk (.type "dict") none (.dict (List.toArray [(.mk (PyData.keyHash P "__name__") (.str "__name__" (nat_lit 165)) (.str "threeroad.book" (nat_lit 449))), (.mk (PyData.keyHash P "__doc__") (.str "__doc__" (nat_lit 166)) Value.none), (.mk (PyData.keyHash P "__package__") (.str "__package__" (nat_lit 167)) Value.none), (.mk (PyData.keyHash P "__loader__") (.str "__loader__" (nat_lit 168)) (.builtin "__main__.__loader__#opaque")), (.mk (PyData.keyHash P "__spec__") (.str "__spec__" (nat_lit 169)) Value.none), (.mk (PyData.keyHash P "__annotations__") (.str "__annotations__" (nat_lit 170)) (.ref (nat_lit 6))), (.mk (PyData.keyHash P "__builtins__") (.str "__builtins__" (nat_lit 171)) (.ref (nat_lit 4))), (.mk (PyData.keyHash P "__file__") (.str "__file__" (nat_lit 173)) (.str "/claim/cut.py" (nat_lit 172))), (.mk (PyData.keyHash P "__cached__") (.str "__cached__" (nat_lit 174)) Value.none), (.mk (PyData.keyHash P "RoadError") (.str "RoadError" (nat_lit 206)) (.ref (nat_lit 24))), (.mk (PyData.keyHash P "NoPath") (.str "NoPath" (nat_lit 222)) (.ref (nat_lit 37))), (.mk (PyData.keyHash P "NoFile") (.str "NoFile" (nat_lit 238)) (.ref (nat_lit 49))), (.mk (PyData.keyHash P "InTheWay") (.str "InTheWay" (nat_lit 254)) (.ref (nat_lit 61))), (.mk (PyData.keyHash P "NoClash") (.str "NoClash" (nat_lit 270)) (.ref (nat_lit 73))), (.mk (PyData.keyHash P "Clashed") (.str "Clashed" (nat_lit 286)) (.ref (nat_lit 85))), (.mk (PyData.keyHash P "NoVersion") (.str "NoVersion" (nat_lit 302)) (.ref (nat_lit 97))), (.mk (PyData.keyHash P "SameVersion") (.str "SameVersion" (nat_lit 318)) (.ref (nat_lit 109))), (.mk (PyData.keyHash P "SIGNS") (.str "SIGNS" (nat_lit 322)) (.str "abcdefghijklmnopqrstuvwxyzABCDEFGHIJKLMNOPQRSTUVWXYZ0123456789.-_" (nat_lit 321))), (.mk (PyData.keyHash P "MOST_PARTS") (.str "MOST_PARTS" (nat_lit 324)) (.int ((nat_lit 8) : Int) (nat_lit 323))), (.mk (PyData.keyHash P "LONGEST_PART") (.str "LONGEST_PART" (nat_lit 326)) (.int ((nat_lit 12) : Int) (nat_lit 325))), (.mk (PyData.keyHash P "is_part") (.str "is_part" (nat_lit 334)) (.ref (nat_lit 118))), (.mk (PyData.keyHash P "is_path") (.str "is_path" (nat_lit 343)) (.ref (nat_lit 125))), (.mk (PyData.keyHash P "above") (.str "above" (nat_lit 349)) (.ref (nat_lit 130))), (.mk (PyData.keyHash P "is_beneath") (.str "is_beneath" (nat_lit 357)) (.ref (nat_lit 137))), (.mk (PyData.keyHash P "all_paths") (.str "all_paths" (nat_lit 371)) (.ref (nat_lit 144))), (.mk (PyData.keyHash P "marks") (.str "marks" (nat_lit 385)) (.ref (nat_lit 151))), (.mk (PyData.keyHash P "clashing") (.str "clashing" (nat_lit 391)) (.ref (nat_lit 156))), (.mk (PyData.keyHash P "standing") (.str "standing" (nat_lit 404)) (.ref (nat_lit 163))), (.mk (PyData.keyHash P "clashes") (.str "clashes" (nat_lit 410)) (.ref (nat_lit 168))), (.mk (PyData.keyHash P "joined") (.str "joined" (nat_lit 425)) (.ref (nat_lit 175))), (.mk (PyData.keyHash P "done") (.str "done" (nat_lit 438)) (.ref (nat_lit 182))), (.mk (PyData.keyHash P "changed") (.str "changed" (nat_lit 448)) (.ref (nat_lit 189))), (.mk (PyData.keyHash P "Book") (.str "Book" (nat_lit 576)) (.ref (nat_lit 279)))]) (nat_lit 33)) (List.toArray []))
noncomputable def o12_6 (P : Params) : Obj := (.mk Value.none none (.fields (List.toArray [(.int ((nat_lit 2) : Int) (nat_lit 0)), (.int ((nat_lit 0) : Int) (nat_lit 0)), (.ref (nat_lit 20)), (.int ((nat_lit 4) : Int) (nat_lit 0)), (.int ((nat_lit 0) : Int) (nat_lit 0)), (.ref (nat_lit 33)), (.int ((nat_lit 6) : Int) (nat_lit 0)), (.int ((nat_lit 0) : Int) (nat_lit 0)), (.ref (nat_lit 45)), (.int ((nat_lit 8) : Int) (nat_lit 0)), (.int ((nat_lit 0) : Int) (nat_lit 0)), (.ref (nat_lit 57)), (.int ((nat_lit 10) : Int) (nat_lit 0)), (.int ((nat_lit 0) : Int) (nat_lit 0)), (.ref (nat_lit 69)), (.int ((nat_lit 12) : Int) (nat_lit 0)), (.int ((nat_lit 0) : Int) (nat_lit 0)), (.ref (nat_lit 81)), (.int ((nat_lit 14) : Int) (nat_lit 0)), (.int ((nat_lit 0) : Int) (nat_lit 0)), (.ref (nat_lit 93)), (.int ((nat_lit 16) : Int) (nat_lit 0)), (.int ((nat_lit 0) : Int) (nat_lit 0)), (.ref (nat_lit 105)), (.int ((nat_lit 22) : Int) (nat_lit 0)), (.int ((nat_lit 0) : Int) (nat_lit 0)), (.ref (nat_lit 117)), (.int ((nat_lit 29) : Int) (nat_lit 0)), (.int ((nat_lit 0) : Int) (nat_lit 0)), (.ref (nat_lit 124)), (.int ((nat_lit 37) : Int) (nat_lit 0)), (.int ((nat_lit 0) : Int) (nat_lit 0)), (.ref (nat_lit 129)), (.int ((nat_lit 40) : Int) (nat_lit 0)), (.int ((nat_lit 0) : Int) (nat_lit 0)), (.ref (nat_lit 136)), (.int ((nat_lit 43) : Int) (nat_lit 0)), (.int ((nat_lit 0) : Int) (nat_lit 0)), (.ref (nat_lit 143)), (.int ((nat_lit 49) : Int) (nat_lit 0)), (.int ((nat_lit 0) : Int) (nat_lit 0)), (.ref (nat_lit 150)), (.int ((nat_lit 65) : Int) (nat_lit 0)), (.int ((nat_lit 0) : Int) (nat_lit 0)), (.ref (nat_lit 155)), (.int ((nat_lit 67) : Int) (nat_lit 0)), (.int ((nat_lit 0) : Int) (nat_lit 0)), (.ref (nat_lit 162)), (.int ((nat_lit 77) : Int) (nat_lit 0)), (.int ((nat_lit 0) : Int) (nat_lit 0)), (.ref (nat_lit 167)), (.int ((nat_lit 85) : Int) (nat_lit 0)), (.int ((nat_lit 0) : Int) (nat_lit 0)), (.ref (nat_lit 174)), (.int ((nat_lit 108) : Int) (nat_lit 0)), (.int ((nat_lit 0) : Int) (nat_lit 0)), (.ref (nat_lit 181)), (.int ((nat_lit 123) : Int) (nat_lit 0)), (.int ((nat_lit 0) : Int) (nat_lit 0)), (.ref (nat_lit 188)), (.int ((nat_lit 129) : Int) (nat_lit 0)), (.int ((nat_lit 0) : Int) (nat_lit 0)), (.ref (nat_lit 195))])) (List.toArray []))
noncomputable def o190_0 (P : Params) : Obj := (.mk (.type "tuple") none (.seq (List.toArray []) (nat_lit 0)) (List.toArray []))
noncomputable def o191_0 (P : Params) : Obj := (.mk (.type "builtin_function_or_method") none (.fields (List.toArray [(.builtin "type.__prepare__"), (.type "type")])) (List.toArray []))
noncomputable def o192_0 (P : Params) : Obj := (.mk (.type "dict") none (.dict (List.toArray [(.mk (PyData.keyHash P "__module__") (.str "__module__" (nat_lit 458)) (.str "threeroad.book" (nat_lit 449))), (.mk (PyData.keyHash P "__qualname__") (.str "__qualname__" (nat_lit 460)) (.str "Book" (nat_lit 459))), (.mk (PyData.keyHash P "__firstlineno__") (.str "__firstlineno__" (nat_lit 462)) (.int ((nat_lit 129) : Int) (nat_lit 461))), (.mk (PyData.keyHash P "__init__") (.str "__init__" (nat_lit 469)) (.ref (nat_lit 203))), (.mk (PyData.keyHash P "need") (.str "need" (nat_lit 477)) (.ref (nat_lit 210))), (.mk (PyData.keyHash P "many") (.str "many" (nat_lit 484)) (.ref (nat_lit 217))), (.mk (PyData.keyHash P "tree") (.str "tree" (nat_lit 492)) (.ref (nat_lit 224))), (.mk (PyData.keyHash P "parents") (.str "parents" (nat_lit 500)) (.ref (nat_lit 231))), (.mk (PyData.keyHash P "put_down") (.str "put_down" (nat_lit 509)) (.ref (nat_lit 238))), (.mk (PyData.keyHash P "grow") (.str "grow" (nat_lit 518)) (.ref (nat_lit 245))), (.mk (PyData.keyHash P "merge") (.str "merge" (nat_lit 530)) (.ref (nat_lit 252))), (.mk (PyData.keyHash P "elders") (.str "elders" (nat_lit 541)) (.ref (nat_lit 259))), (.mk (PyData.keyHash P "nearest") (.str "nearest" (nat_lit 547)) (.ref (nat_lit 264))), (.mk (PyData.keyHash P "road") (.str "road" (nat_lit 560)) (.ref (nat_lit 271))), (.mk (PyData.keyHash P "story") (.str "story" (nat_lit 566)) (.ref (nat_lit 276))), (.mk (PyData.keyHash P "__static_attributes__") (.str "__static_attributes__" (nat_lit 569)) (.ref (nat_lit 277)))]) (nat_lit 16)) (List.toArray []))
noncomputable def o193_0 (P : Params) : Obj := (.mk (.type "tuple") none (.seq (List.toArray []) (nat_lit 0)) (List.toArray []))
noncomputable def o194_0 (P : Params) : Obj := (.mk Value.none none (.fields (List.toArray [(.int ((nat_lit 131) : Int) (nat_lit 0)), (.int ((nat_lit 4) : Int) (nat_lit 0)), (.ref (nat_lit 202)), (.int ((nat_lit 135) : Int) (nat_lit 0)), (.int ((nat_lit 4) : Int) (nat_lit 0)), (.ref (nat_lit 209)), (.int ((nat_lit 139) : Int) (nat_lit 0)), (.int ((nat_lit 4) : Int) (nat_lit 0)), (.ref (nat_lit 216)), (.int ((nat_lit 142) : Int) (nat_lit 0)), (.int ((nat_lit 4) : Int) (nat_lit 0)), (.ref (nat_lit 223)), (.int ((nat_lit 146) : Int) (nat_lit 0)), (.int ((nat_lit 4) : Int) (nat_lit 0)), (.ref (nat_lit 230)), (.int ((nat_lit 150) : Int) (nat_lit 0)), (.int ((nat_lit 4) : Int) (nat_lit 0)), (.ref (nat_lit 237)), (.int ((nat_lit 155) : Int) (nat_lit 0)), (.int ((nat_lit 4) : Int) (nat_lit 0)), (.ref (nat_lit 244)), (.int ((nat_lit 159) : Int) (nat_lit 0)), (.int ((nat_lit 4) : Int) (nat_lit 0)), (.ref (nat_lit 251)), (.int ((nat_lit 168) : Int) (nat_lit 0)), (.int ((nat_lit 4) : Int) (nat_lit 0)), (.ref (nat_lit 258)), (.int ((nat_lit 177) : Int) (nat_lit 0)), (.int ((nat_lit 4) : Int) (nat_lit 0)), (.ref (nat_lit 263)), (.int ((nat_lit 181) : Int) (nat_lit 0)), (.int ((nat_lit 4) : Int) (nat_lit 0)), (.ref (nat_lit 270)), (.int ((nat_lit 196) : Int) (nat_lit 0)), (.int ((nat_lit 4) : Int) (nat_lit 0)), (.ref (nat_lit 275))])) (List.toArray []))
noncomputable def o195_0 (P : Params) : Obj := (.mk (.type "code") none (.fields (List.toArray [(.str "Book" (nat_lit 453)), (.str "Book" (nat_lit 454)), (.str "/claim/cut.py" (nat_lit 455)), (.int ((nat_lit 129) : Int) (nat_lit 0)), (.int ((nat_lit 0) : Int) (nat_lit 0)), (.int ((nat_lit 0) : Int) (nat_lit 0)), (.int ((nat_lit 0) : Int) (nat_lit 0)), (.int ((nat_lit 0) : Int) (nat_lit 0)), (.ref (nat_lit 193)), (.bool false), (.int ((nat_lit 181) : Int) (nat_lit 0)), (.ref (nat_lit 194)), Value.none, Value.none, Value.none, Value.none, (.int ((nat_lit 456) : Int) (nat_lit 0)), (.int ((nat_lit 129) : Int) (nat_lit 0)), (.str "/claim/cut.py" (nat_lit 457))])) (List.toArray []))
noncomputable def o196_0 (P : Params) : Obj := (.mk (.type "frame") none .plain (List.toArray [(some (.ref (nat_lit 195))), (some (.ref (nat_lit 3))), (some (.ref (nat_lit 192))), none, (some (.str "threeroad.book" (nat_lit 449))), none, (some (.ref (nat_lit 0)))]))
noncomputable def o197_0 (P : Params) : Obj := (.mk (.type "tuple") none (.seq (List.toArray []) (nat_lit 0)) (List.toArray []))
noncomputable def o198_0 (P : Params) : Obj := (.mk Value.none none (.fields (List.toArray [])) (List.toArray []))
noncomputable def o199_0 (P : Params) : Obj := (.mk (.type "tuple") none (.seq (List.toArray [(.str "self" (nat_lit 466))]) (nat_lit 0)) (List.toArray []))
noncomputable def o200_0 (P : Params) : Obj := (.mk (.type "tuple") none (.seq (List.toArray []) (nat_lit 0)) (List.toArray []))
noncomputable def o201_0 (P : Params) : Obj := (.mk Value.none none (.func (.mk "__init__" "Book.__init__" (fA (cB TB 28) 0) (.stmts (fB (cB TB 28) 0)) (fS (cB TB 28) 0) (nat_lit 0) [] Value.none Value.none Value.none Value.none none Value.none Value.none (nat_lit 0))) (List.toArray []))
noncomputable def o202_0 (P : Params) : Obj := (.mk (.type "code") none (.fields (List.toArray [(.str "__init__" (nat_lit 463)), (.str "Book.__init__" (nat_lit 464)), (.str "/claim/cut.py" (nat_lit 465)), (.int ((nat_lit 131) : Int) (nat_lit 0)), (.int ((nat_lit 1) : Int) (nat_lit 0)), (.int ((nat_lit 0) : Int) (nat_lit 0)), (.int ((nat_lit 0) : Int) (nat_lit 0)), (.int ((nat_lit 3) : Int) (nat_lit 0)), (.ref (nat_lit 197)), (.bool true), (.int ((nat_lit 181) : Int) (nat_lit 0)), (.ref (nat_lit 198)), Value.none, (.ref (nat_lit 199)), (.ref (nat_lit 200)), (.ref (nat_lit 201)), (.int ((nat_lit 467) : Int) (nat_lit 0)), (.int ((nat_lit 131) : Int) (nat_lit 0)), (.str "/claim/cut.py" (nat_lit 468))])) (List.toArray []))
noncomputable def o203_0 (P : Params) : Obj := (.mk (.type "function") none (.func (.mk "__init__" "Book.__init__" (fA (cB TB 28) 0) (.stmts (fB (cB TB 28) 0)) (fS (cB TB 28) 0) (nat_lit 3) [] Value.none Value.none Value.none (.str "threeroad.book" (nat_lit 449)) none (.ref (nat_lit 202)) Value.none (nat_lit 0))) (List.toArray []))
noncomputable def o204_0 (P : Params) : Obj := (.mk (.type "tuple") none (.seq (List.toArray []) (nat_lit 0)) (List.toArray []))
noncomputable def o205_0 (P : Params) : Obj := (.mk Value.none none (.fields (List.toArray [])) (List.toArray []))
noncomputable def o206_0 (P : Params) : Obj := (.mk (.type "tuple") none (.seq (List.toArray [(.str "self" (nat_lit 473)), (.str "number" (nat_lit 474))]) (nat_lit 0)) (List.toArray []))
noncomputable def o207_0 (P : Params) : Obj := (.mk (.type "tuple") none (.seq (List.toArray []) (nat_lit 0)) (List.toArray []))
noncomputable def o208_0 (P : Params) : Obj := (.mk Value.none none (.func (.mk "need" "Book.need" (fA (cB TB 28) 1) (.stmts (fB (cB TB 28) 1)) (fS (cB TB 28) 1) (nat_lit 0) [] Value.none Value.none Value.none Value.none none Value.none Value.none (nat_lit 0))) (List.toArray []))
noncomputable def o209_0 (P : Params) : Obj := (.mk (.type "code") none (.fields (List.toArray [(.str "need" (nat_lit 470)), (.str "Book.need" (nat_lit 471)), (.str "/claim/cut.py" (nat_lit 472)), (.int ((nat_lit 135) : Int) (nat_lit 0)), (.int ((nat_lit 2) : Int) (nat_lit 0)), (.int ((nat_lit 0) : Int) (nat_lit 0)), (.int ((nat_lit 0) : Int) (nat_lit 0)), (.int ((nat_lit 3) : Int) (nat_lit 0)), (.ref (nat_lit 204)), (.bool true), (.int ((nat_lit 181) : Int) (nat_lit 0)), (.ref (nat_lit 205)), Value.none, (.ref (nat_lit 206)), (.ref (nat_lit 207)), (.ref (nat_lit 208)), (.int ((nat_lit 475) : Int) (nat_lit 0)), (.int ((nat_lit 135) : Int) (nat_lit 0)), (.str "/claim/cut.py" (nat_lit 476))])) (List.toArray []))
noncomputable def o210_0 (P : Params) : Obj := (.mk (.type "function") none (.func (.mk "need" "Book.need" (fA (cB TB 28) 1) (.stmts (fB (cB TB 28) 1)) (fS (cB TB 28) 1) (nat_lit 3) [] Value.none Value.none Value.none (.str "threeroad.book" (nat_lit 449)) none (.ref (nat_lit 209)) Value.none (nat_lit 0))) (List.toArray []))
noncomputable def o211_0 (P : Params) : Obj := (.mk (.type "tuple") none (.seq (List.toArray []) (nat_lit 0)) (List.toArray []))
noncomputable def o212_0 (P : Params) : Obj := (.mk Value.none none (.fields (List.toArray [])) (List.toArray []))
noncomputable def o213_0 (P : Params) : Obj := (.mk (.type "tuple") none (.seq (List.toArray [(.str "self" (nat_lit 481))]) (nat_lit 0)) (List.toArray []))
noncomputable def o214_0 (P : Params) : Obj := (.mk (.type "tuple") none (.seq (List.toArray []) (nat_lit 0)) (List.toArray []))
noncomputable def o215_0 (P : Params) : Obj := (.mk Value.none none (.func (.mk "many" "Book.many" (fA (cB TB 28) 2) (.stmts (fB (cB TB 28) 2)) (fS (cB TB 28) 2) (nat_lit 0) [] Value.none Value.none Value.none Value.none none Value.none Value.none (nat_lit 0))) (List.toArray []))
noncomputable def o216_0 (P : Params) : Obj := (.mk (.type "code") none (.fields (List.toArray [(.str "many" (nat_lit 478)), (.str "Book.many" (nat_lit 479)), (.str "/claim/cut.py" (nat_lit 480)), (.int ((nat_lit 139) : Int) (nat_lit 0)), (.int ((nat_lit 1) : Int) (nat_lit 0)), (.int ((nat_lit 0) : Int) (nat_lit 0)), (.int ((nat_lit 0) : Int) (nat_lit 0)), (.int ((nat_lit 3) : Int) (nat_lit 0)), (.ref (nat_lit 211)), (.bool true), (.int ((nat_lit 181) : Int) (nat_lit 0)), (.ref (nat_lit 212)), Value.none, (.ref (nat_lit 213)), (.ref (nat_lit 214)), (.ref (nat_lit 215)), (.int ((nat_lit 482) : Int) (nat_lit 0)), (.int ((nat_lit 139) : Int) (nat_lit 0)), (.str "/claim/cut.py" (nat_lit 483))])) (List.toArray []))
noncomputable def o217_0 (P : Params) : Obj := (.mk (.type "function") none (.func (.mk "many" "Book.many" (fA (cB TB 28) 2) (.stmts (fB (cB TB 28) 2)) (fS (cB TB 28) 2) (nat_lit 3) [] Value.none Value.none Value.none (.str "threeroad.book" (nat_lit 449)) none (.ref (nat_lit 216)) Value.none (nat_lit 0))) (List.toArray []))
noncomputable def o218_0 (P : Params) : Obj := (.mk (.type "tuple") none (.seq (List.toArray []) (nat_lit 0)) (List.toArray []))
noncomputable def o219_0 (P : Params) : Obj := (.mk Value.none none (.fields (List.toArray [])) (List.toArray []))
noncomputable def o220_0 (P : Params) : Obj := (.mk (.type "tuple") none (.seq (List.toArray [(.str "self" (nat_lit 488)), (.str "number" (nat_lit 489))]) (nat_lit 0)) (List.toArray []))
noncomputable def o221_0 (P : Params) : Obj := (.mk (.type "tuple") none (.seq (List.toArray []) (nat_lit 0)) (List.toArray []))
noncomputable def o222_0 (P : Params) : Obj := (.mk Value.none none (.func (.mk "tree" "Book.tree" (fA (cB TB 28) 3) (.stmts (fB (cB TB 28) 3)) (fS (cB TB 28) 3) (nat_lit 0) [] Value.none Value.none Value.none Value.none none Value.none Value.none (nat_lit 0))) (List.toArray []))
noncomputable def o223_0 (P : Params) : Obj := (.mk (.type "code") none (.fields (List.toArray [(.str "tree" (nat_lit 485)), (.str "Book.tree" (nat_lit 486)), (.str "/claim/cut.py" (nat_lit 487)), (.int ((nat_lit 142) : Int) (nat_lit 0)), (.int ((nat_lit 2) : Int) (nat_lit 0)), (.int ((nat_lit 0) : Int) (nat_lit 0)), (.int ((nat_lit 0) : Int) (nat_lit 0)), (.int ((nat_lit 3) : Int) (nat_lit 0)), (.ref (nat_lit 218)), (.bool true), (.int ((nat_lit 181) : Int) (nat_lit 0)), (.ref (nat_lit 219)), Value.none, (.ref (nat_lit 220)), (.ref (nat_lit 221)), (.ref (nat_lit 222)), (.int ((nat_lit 490) : Int) (nat_lit 0)), (.int ((nat_lit 142) : Int) (nat_lit 0)), (.str "/claim/cut.py" (nat_lit 491))])) (List.toArray []))
noncomputable def o224_0 (P : Params) : Obj := (.mk (.type "function") none (.func (.mk "tree" "Book.tree" (fA (cB TB 28) 3) (.stmts (fB (cB TB 28) 3)) (fS (cB TB 28) 3) (nat_lit 3) [] Value.none Value.none Value.none (.str "threeroad.book" (nat_lit 449)) none (.ref (nat_lit 223)) Value.none (nat_lit 0))) (List.toArray []))
noncomputable def o225_0 (P : Params) : Obj := (.mk (.type "tuple") none (.seq (List.toArray []) (nat_lit 0)) (List.toArray []))
noncomputable def o226_0 (P : Params) : Obj := (.mk Value.none none (.fields (List.toArray [])) (List.toArray []))
noncomputable def o227_0 (P : Params) : Obj := (.mk (.type "tuple") none (.seq (List.toArray [(.str "self" (nat_lit 496)), (.str "number" (nat_lit 497))]) (nat_lit 0)) (List.toArray []))
noncomputable def o228_0 (P : Params) : Obj := (.mk (.type "tuple") none (.seq (List.toArray []) (nat_lit 0)) (List.toArray []))
noncomputable def o229_0 (P : Params) : Obj := (.mk Value.none none (.func (.mk "parents" "Book.parents" (fA (cB TB 28) 4) (.stmts (fB (cB TB 28) 4)) (fS (cB TB 28) 4) (nat_lit 0) [] Value.none Value.none Value.none Value.none none Value.none Value.none (nat_lit 0))) (List.toArray []))
noncomputable def o230_0 (P : Params) : Obj := (.mk (.type "code") none (.fields (List.toArray [(.str "parents" (nat_lit 493)), (.str "Book.parents" (nat_lit 494)), (.str "/claim/cut.py" (nat_lit 495)), (.int ((nat_lit 146) : Int) (nat_lit 0)), (.int ((nat_lit 2) : Int) (nat_lit 0)), (.int ((nat_lit 0) : Int) (nat_lit 0)), (.int ((nat_lit 0) : Int) (nat_lit 0)), (.int ((nat_lit 3) : Int) (nat_lit 0)), (.ref (nat_lit 225)), (.bool true), (.int ((nat_lit 181) : Int) (nat_lit 0)), (.ref (nat_lit 226)), Value.none, (.ref (nat_lit 227)), (.ref (nat_lit 228)), (.ref (nat_lit 229)), (.int ((nat_lit 498) : Int) (nat_lit 0)), (.int ((nat_lit 146) : Int) (nat_lit 0)), (.str "/claim/cut.py" (nat_lit 499))])) (List.toArray []))
noncomputable def o231_0 (P : Params) : Obj := (.mk (.type "function") none (.func (.mk "parents" "Book.parents" (fA (cB TB 28) 4) (.stmts (fB (cB TB 28) 4)) (fS (cB TB 28) 4) (nat_lit 3) [] Value.none Value.none Value.none (.str "threeroad.book" (nat_lit 449)) none (.ref (nat_lit 230)) Value.none (nat_lit 0))) (List.toArray []))
noncomputable def o232_0 (P : Params) : Obj := (.mk (.type "tuple") none (.seq (List.toArray []) (nat_lit 0)) (List.toArray []))
noncomputable def o233_0 (P : Params) : Obj := (.mk Value.none none (.fields (List.toArray [])) (List.toArray []))
noncomputable def o234_0 (P : Params) : Obj := (.mk (.type "tuple") none (.seq (List.toArray [(.str "self" (nat_lit 504)), (.str "tree" (nat_lit 505)), (.str "parents" (nat_lit 506))]) (nat_lit 0)) (List.toArray []))
noncomputable def o235_0 (P : Params) : Obj := (.mk (.type "tuple") none (.seq (List.toArray []) (nat_lit 0)) (List.toArray []))
noncomputable def o236_0 (P : Params) : Obj := (.mk Value.none none (.func (.mk "put_down" "Book.put_down" (fA (cB TB 28) 5) (.stmts (fB (cB TB 28) 5)) (fS (cB TB 28) 5) (nat_lit 0) [] Value.none Value.none Value.none Value.none none Value.none Value.none (nat_lit 0))) (List.toArray []))
noncomputable def o237_0 (P : Params) : Obj := (.mk (.type "code") none (.fields (List.toArray [(.str "put_down" (nat_lit 501)), (.str "Book.put_down" (nat_lit 502)), (.str "/claim/cut.py" (nat_lit 503)), (.int ((nat_lit 150) : Int) (nat_lit 0)), (.int ((nat_lit 3) : Int) (nat_lit 0)), (.int ((nat_lit 0) : Int) (nat_lit 0)), (.int ((nat_lit 0) : Int) (nat_lit 0)), (.int ((nat_lit 3) : Int) (nat_lit 0)), (.ref (nat_lit 232)), (.bool true), (.int ((nat_lit 181) : Int) (nat_lit 0)), (.ref (nat_lit 233)), Value.none, (.ref (nat_lit 234)), (.ref (nat_lit 235)), (.ref (nat_lit 236)), (.int ((nat_lit 507) : Int) (nat_lit 0)), (.int ((nat_lit 150) : Int) (nat_lit 0)), (.str "/claim/cut.py" (nat_lit 508))])) (List.toArray []))
noncomputable def o238_0 (P : Params) : Obj := (.mk (.type "function") none (.func (.mk "put_down" "Book.put_down" (fA (cB TB 28) 5) (.stmts (fB (cB TB 28) 5)) (fS (cB TB 28) 5) (nat_lit 3) [] Value.none Value.none Value.none (.str "threeroad.book" (nat_lit 449)) none (.ref (nat_lit 237)) Value.none (nat_lit 0))) (List.toArray []))
noncomputable def o239_0 (P : Params) : Obj := (.mk (.type "tuple") none (.seq (List.toArray []) (nat_lit 0)) (List.toArray []))
noncomputable def o240_0 (P : Params) : Obj := (.mk Value.none none (.fields (List.toArray [])) (List.toArray []))
noncomputable def o241_0 (P : Params) : Obj := (.mk (.type "tuple") none (.seq (List.toArray [(.str "self" (nat_lit 513)), (.str "parent" (nat_lit 514)), (.str "deeds" (nat_lit 515))]) (nat_lit 0)) (List.toArray []))
noncomputable def o242_0 (P : Params) : Obj := (.mk (.type "tuple") none (.seq (List.toArray []) (nat_lit 0)) (List.toArray []))
noncomputable def o243_0 (P : Params) : Obj := (.mk Value.none none (.func (.mk "grow" "Book.grow" (fA (cB TB 28) 6) (.stmts (fB (cB TB 28) 6)) (fS (cB TB 28) 6) (nat_lit 0) [] Value.none Value.none Value.none Value.none none Value.none Value.none (nat_lit 0))) (List.toArray []))
noncomputable def o244_0 (P : Params) : Obj := (.mk (.type "code") none (.fields (List.toArray [(.str "grow" (nat_lit 510)), (.str "Book.grow" (nat_lit 511)), (.str "/claim/cut.py" (nat_lit 512)), (.int ((nat_lit 155) : Int) (nat_lit 0)), (.int ((nat_lit 3) : Int) (nat_lit 0)), (.int ((nat_lit 0) : Int) (nat_lit 0)), (.int ((nat_lit 0) : Int) (nat_lit 0)), (.int ((nat_lit 3) : Int) (nat_lit 0)), (.ref (nat_lit 239)), (.bool true), (.int ((nat_lit 181) : Int) (nat_lit 0)), (.ref (nat_lit 240)), Value.none, (.ref (nat_lit 241)), (.ref (nat_lit 242)), (.ref (nat_lit 243)), (.int ((nat_lit 516) : Int) (nat_lit 0)), (.int ((nat_lit 155) : Int) (nat_lit 0)), (.str "/claim/cut.py" (nat_lit 517))])) (List.toArray []))
noncomputable def o245_0 (P : Params) : Obj := (.mk (.type "function") none (.func (.mk "grow" "Book.grow" (fA (cB TB 28) 6) (.stmts (fB (cB TB 28) 6)) (fS (cB TB 28) 6) (nat_lit 3) [] Value.none Value.none Value.none (.str "threeroad.book" (nat_lit 449)) none (.ref (nat_lit 244)) Value.none (nat_lit 0))) (List.toArray []))
noncomputable def o246_0 (P : Params) : Obj := (.mk (.type "tuple") none (.seq (List.toArray []) (nat_lit 0)) (List.toArray []))
noncomputable def o247_0 (P : Params) : Obj := (.mk Value.none none (.fields (List.toArray [])) (List.toArray []))
noncomputable def o248_0 (P : Params) : Obj := (.mk (.type "tuple") none (.seq (List.toArray [(.str "self" (nat_lit 522)), (.str "one" (nat_lit 523)), (.str "other" (nat_lit 524)), (.str "picks" (nat_lit 525)), (.str "elder" (nat_lit 526)), (.str "tree" (nat_lit 527))]) (nat_lit 0)) (List.toArray []))
noncomputable def o249_0 (P : Params) : Obj := (.mk (.type "tuple") none (.seq (List.toArray []) (nat_lit 0)) (List.toArray []))
noncomputable def o250_0 (P : Params) : Obj := (.mk Value.none none (.func (.mk "merge" "Book.merge" (fA (cB TB 28) 7) (.stmts (fB (cB TB 28) 7)) (fS (cB TB 28) 7) (nat_lit 0) [] Value.none Value.none Value.none Value.none none Value.none Value.none (nat_lit 0))) (List.toArray []))
noncomputable def o251_0 (P : Params) : Obj := (.mk (.type "code") none (.fields (List.toArray [(.str "merge" (nat_lit 519)), (.str "Book.merge" (nat_lit 520)), (.str "/claim/cut.py" (nat_lit 521)), (.int ((nat_lit 159) : Int) (nat_lit 0)), (.int ((nat_lit 4) : Int) (nat_lit 0)), (.int ((nat_lit 0) : Int) (nat_lit 0)), (.int ((nat_lit 0) : Int) (nat_lit 0)), (.int ((nat_lit 3) : Int) (nat_lit 0)), (.ref (nat_lit 246)), (.bool true), (.int ((nat_lit 181) : Int) (nat_lit 0)), (.ref (nat_lit 247)), Value.none, (.ref (nat_lit 248)), (.ref (nat_lit 249)), (.ref (nat_lit 250)), (.int ((nat_lit 528) : Int) (nat_lit 0)), (.int ((nat_lit 159) : Int) (nat_lit 0)), (.str "/claim/cut.py" (nat_lit 529))])) (List.toArray []))
noncomputable def o252_0 (P : Params) : Obj := (.mk (.type "function") none (.func (.mk "merge" "Book.merge" (fA (cB TB 28) 7) (.stmts (fB (cB TB 28) 7)) (fS (cB TB 28) 7) (nat_lit 3) [] Value.none Value.none Value.none (.str "threeroad.book" (nat_lit 449)) none (.ref (nat_lit 251)) Value.none (nat_lit 0))) (List.toArray []))
noncomputable def o253_0 (P : Params) : Obj := (.mk (.type "tuple") none (.seq (List.toArray []) (nat_lit 0)) (List.toArray []))
noncomputable def o254_0 (P : Params) : Obj := (.mk Value.none none (.fields (List.toArray [])) (List.toArray []))
noncomputable def o255_0 (P : Params) : Obj := (.mk (.type "tuple") none (.seq (List.toArray [(.str "self" (nat_lit 534)), (.str "number" (nat_lit 535)), (.str "found" (nat_lit 536)), (.str "k" (nat_lit 537)), (.str "parent" (nat_lit 538))]) (nat_lit 0)) (List.toArray []))
noncomputable def o256_0 (P : Params) : Obj := (.mk (.type "tuple") none (.seq (List.toArray []) (nat_lit 0)) (List.toArray []))
noncomputable def o257_0 (P : Params) : Obj := (.mk Value.none none (.func (.mk "elders" "Book.elders" (fA (cB TB 28) 8) (.stmts (fB (cB TB 28) 8)) (fS (cB TB 28) 8) (nat_lit 0) [] Value.none Value.none Value.none Value.none none Value.none Value.none (nat_lit 0))) (List.toArray []))
noncomputable def o258_0 (P : Params) : Obj := (.mk (.type "code") none (.fields (List.toArray [(.str "elders" (nat_lit 531)), (.str "Book.elders" (nat_lit 532)), (.str "/claim/cut.py" (nat_lit 533)), (.int ((nat_lit 168) : Int) (nat_lit 0)), (.int ((nat_lit 2) : Int) (nat_lit 0)), (.int ((nat_lit 0) : Int) (nat_lit 0)), (.int ((nat_lit 0) : Int) (nat_lit 0)), (.int ((nat_lit 3) : Int) (nat_lit 0)), (.ref (nat_lit 253)), (.bool true), (.int ((nat_lit 181) : Int) (nat_lit 0)), (.ref (nat_lit 254)), Value.none, (.ref (nat_lit 255)), (.ref (nat_lit 256)), (.ref (nat_lit 257)), (.int ((nat_lit 539) : Int) (nat_lit 0)), (.int ((nat_lit 168) : Int) (nat_lit 0)), (.str "/claim/cut.py" (nat_lit 540))])) (List.toArray []))
noncomputable def o259_0 (P : Params) : Obj := (.mk (.type "function") none (.func (.mk "elders" "Book.elders" (fA (cB TB 28) 8) (.stmts (fB (cB TB 28) 8)) (fS (cB TB 28) 8) (nat_lit 3) [] Value.none Value.none Value.none (.str "threeroad.book" (nat_lit 449)) none (.ref (nat_lit 258)) Value.none (nat_lit 0))) (List.toArray []))
noncomputable def o260_0 (P : Params) : Obj := (.mk (.type "tuple") none (.seq (List.toArray []) (nat_lit 0)) (List.toArray []))
noncomputable def o261_0 (P : Params) : Obj := (.mk Value.none none (.fields (List.toArray [])) (List.toArray []))
noncomputable def o262_0 (P : Params) : Obj := (.mk Value.none none (.func (.mk "nearest" "Book.nearest" (fA (cB TB 28) 9) (.stmts (fB (cB TB 28) 9)) (fS (cB TB 28) 9) (nat_lit 0) [] Value.none Value.none Value.none Value.none none Value.none Value.none (nat_lit 0))) (List.toArray []))
noncomputable def o263_0 (P : Params) : Obj := (.mk (.type "code") none (.fields (List.toArray [(.str "nearest" (nat_lit 542)), (.str "Book.nearest" (nat_lit 543)), (.str "/claim/cut.py" (nat_lit 544)), (.int ((nat_lit 177) : Int) (nat_lit 0)), (.int ((nat_lit 3) : Int) (nat_lit 0)), (.int ((nat_lit 0) : Int) (nat_lit 0)), (.int ((nat_lit 0) : Int) (nat_lit 0)), (.int ((nat_lit 3) : Int) (nat_lit 0)), (.ref (nat_lit 260)), (.bool true), (.int ((nat_lit 181) : Int) (nat_lit 0)), (.ref (nat_lit 261)), Value.none, Value.none, Value.none, (.ref (nat_lit 262)), (.int ((nat_lit 545) : Int) (nat_lit 0)), (.int ((nat_lit 177) : Int) (nat_lit 0)), (.str "/claim/cut.py" (nat_lit 546))])) (List.toArray []))
noncomputable def o264_0 (P : Params) : Obj := (.mk (.type "function") none (.func (.mk "nearest" "Book.nearest" (fA (cB TB 28) 9) (.stmts (fB (cB TB 28) 9)) (fS (cB TB 28) 9) (nat_lit 3) [] Value.none Value.none Value.none (.str "threeroad.book" (nat_lit 449)) none (.ref (nat_lit 263)) Value.none (nat_lit 0))) (List.toArray []))
noncomputable def o265_0 (P : Params) : Obj := (.mk (.type "tuple") none (.seq (List.toArray []) (nat_lit 0)) (List.toArray []))
noncomputable def o266_0 (P : Params) : Obj := (.mk Value.none none (.fields (List.toArray [])) (List.toArray []))
noncomputable def o267_0 (P : Params) : Obj := (.mk (.type "tuple") none (.seq (List.toArray [(.str "self" (nat_lit 551)), (.str "elder" (nat_lit 552)), (.str "number" (nat_lit 553)), (.str "came" (nat_lit 554)), (.str "k" (nat_lit 555)), (.str "parent" (nat_lit 556)), (.str "row" (nat_lit 557))]) (nat_lit 0)) (List.toArray []))
noncomputable def o268_0 (P : Params) : Obj := (.mk (.type "tuple") none (.seq (List.toArray []) (nat_lit 0)) (List.toArray []))
noncomputable def o269_0 (P : Params) : Obj := (.mk Value.none none (.func (.mk "road" "Book.road" (fA (cB TB 28) 10) (.stmts (fB (cB TB 28) 10)) (fS (cB TB 28) 10) (nat_lit 0) [] Value.none Value.none Value.none Value.none none Value.none Value.none (nat_lit 0))) (List.toArray []))
noncomputable def o270_0 (P : Params) : Obj := (.mk (.type "code") none (.fields (List.toArray [(.str "road" (nat_lit 548)), (.str "Book.road" (nat_lit 549)), (.str "/claim/cut.py" (nat_lit 550)), (.int ((nat_lit 181) : Int) (nat_lit 0)), (.int ((nat_lit 3) : Int) (nat_lit 0)), (.int ((nat_lit 0) : Int) (nat_lit 0)), (.int ((nat_lit 0) : Int) (nat_lit 0)), (.int ((nat_lit 3) : Int) (nat_lit 0)), (.ref (nat_lit 265)), (.bool true), (.int ((nat_lit 181) : Int) (nat_lit 0)), (.ref (nat_lit 266)), Value.none, (.ref (nat_lit 267)), (.ref (nat_lit 268)), (.ref (nat_lit 269)), (.int ((nat_lit 558) : Int) (nat_lit 0)), (.int ((nat_lit 181) : Int) (nat_lit 0)), (.str "/claim/cut.py" (nat_lit 559))])) (List.toArray []))
noncomputable def o271_0 (P : Params) : Obj := (.mk (.type "function") none (.func (.mk "road" "Book.road" (fA (cB TB 28) 10) (.stmts (fB (cB TB 28) 10)) (fS (cB TB 28) 10) (nat_lit 3) [] Value.none Value.none Value.none (.str "threeroad.book" (nat_lit 449)) none (.ref (nat_lit 270)) Value.none (nat_lit 0))) (List.toArray []))
noncomputable def o272_0 (P : Params) : Obj := (.mk (.type "tuple") none (.seq (List.toArray []) (nat_lit 0)) (List.toArray []))
noncomputable def o273_0 (P : Params) : Obj := (.mk Value.none none (.fields (List.toArray [])) (List.toArray []))
noncomputable def o274_0 (P : Params) : Obj := (.mk Value.none none (.func (.mk "story" "Book.story" (fA (cB TB 28) 11) (.stmts (fB (cB TB 28) 11)) (fS (cB TB 28) 11) (nat_lit 0) [] Value.none Value.none Value.none Value.none none Value.none Value.none (nat_lit 0))) (List.toArray []))
noncomputable def o275_0 (P : Params) : Obj := (.mk (.type "code") none (.fields (List.toArray [(.str "story" (nat_lit 561)), (.str "Book.story" (nat_lit 562)), (.str "/claim/cut.py" (nat_lit 563)), (.int ((nat_lit 196) : Int) (nat_lit 0)), (.int ((nat_lit 3) : Int) (nat_lit 0)), (.int ((nat_lit 0) : Int) (nat_lit 0)), (.int ((nat_lit 0) : Int) (nat_lit 0)), (.int ((nat_lit 3) : Int) (nat_lit 0)), (.ref (nat_lit 272)), (.bool true), (.int ((nat_lit 181) : Int) (nat_lit 0)), (.ref (nat_lit 273)), Value.none, Value.none, Value.none, (.ref (nat_lit 274)), (.int ((nat_lit 564) : Int) (nat_lit 0)), (.int ((nat_lit 196) : Int) (nat_lit 0)), (.str "/claim/cut.py" (nat_lit 565))])) (List.toArray []))
noncomputable def o276_0 (P : Params) : Obj := (.mk (.type "function") none (.func (.mk "story" "Book.story" (fA (cB TB 28) 11) (.stmts (fB (cB TB 28) 11)) (fS (cB TB 28) 11) (nat_lit 3) [] Value.none Value.none Value.none (.str "threeroad.book" (nat_lit 449)) none (.ref (nat_lit 275)) Value.none (nat_lit 0))) (List.toArray []))
noncomputable def o277_0 (P : Params) : Obj := (.mk (.type "tuple") none (.seq (List.toArray [(.str "made_of" (nat_lit 567)), (.str "trees" (nat_lit 568))]) (nat_lit 0)) (List.toArray []))
noncomputable def o278_0 (P : Params) : Obj := (.mk (.type "dict") none (.dict (List.toArray [(.mk (PyData.keyHash P "__module__") (.str "__module__" (nat_lit 458)) (.str "threeroad.book" (nat_lit 449))), (.mk (PyData.keyHash P "__firstlineno__") (.str "__firstlineno__" (nat_lit 462)) (.int ((nat_lit 129) : Int) (nat_lit 461))), (.mk (PyData.keyHash P "__init__") (.str "__init__" (nat_lit 469)) (.ref (nat_lit 203))), (.mk (PyData.keyHash P "need") (.str "need" (nat_lit 477)) (.ref (nat_lit 210))), (.mk (PyData.keyHash P "many") (.str "many" (nat_lit 484)) (.ref (nat_lit 217))), (.mk (PyData.keyHash P "tree") (.str "tree" (nat_lit 492)) (.ref (nat_lit 224))), (.mk (PyData.keyHash P "parents") (.str "parents" (nat_lit 500)) (.ref (nat_lit 231))), (.mk (PyData.keyHash P "put_down") (.str "put_down" (nat_lit 509)) (.ref (nat_lit 238))), (.mk (PyData.keyHash P "grow") (.str "grow" (nat_lit 518)) (.ref (nat_lit 245))), (.mk (PyData.keyHash P "merge") (.str "merge" (nat_lit 530)) (.ref (nat_lit 252))), (.mk (PyData.keyHash P "elders") (.str "elders" (nat_lit 541)) (.ref (nat_lit 259))), (.mk (PyData.keyHash P "nearest") (.str "nearest" (nat_lit 547)) (.ref (nat_lit 264))), (.mk (PyData.keyHash P "road") (.str "road" (nat_lit 560)) (.ref (nat_lit 271))), (.mk (PyData.keyHash P "story") (.str "story" (nat_lit 566)) (.ref (nat_lit 276))), (.mk (PyData.keyHash P "__static_attributes__") (.str "__static_attributes__" (nat_lit 569)) (.ref (nat_lit 277))), (.mk (PyData.keyHash P "__dict__") (.str "__dict__" (nat_lit 571)) (.ref (nat_lit 280))), (.mk (PyData.keyHash P "__weakref__") (.str "__weakref__" (nat_lit 573)) (.ref (nat_lit 281))), (.mk (PyData.keyHash P "__doc__") (.str "__doc__" (nat_lit 574)) Value.none)]) (nat_lit 4)) (List.toArray []))
noncomputable def o279_0 (P : Params) : Obj := (.mk (.type "type") none (.cls (.mk "Book" [(.type "object")] [(.ref (nat_lit 279)), (.type "object")] (nat_lit 278) "Book" true [] [] false none false)) (List.toArray [none, none, (some (.str "Book" (nat_lit 451))), (some (.str "Book" (nat_lit 459))), (some (.builtin "object.__new__")), (some (.bool true))]))
noncomputable def o280_0 (P : Params) : Obj := (.mk (.type "getset_descriptor") none (.fields (List.toArray [(.str "__dict__" (nat_lit 570)), (.ref (nat_lit 279)), (.builtin "function.__dict__"), (.builtin "function.__dict__#set")])) (List.toArray []))
noncomputable def o281_0 (P : Params) : Obj := (.mk (.type "getset_descriptor") none (.fields (List.toArray [(.str "__weakref__" (nat_lit 572)), (.ref (nat_lit 279)), (.builtin "ExceptionGroup.__weakref__"), Value.none])) (List.toArray []))
noncomputable def o282_0 (P : Params) : Obj := (.mk (.type "super") none (.fields (List.toArray [(.ref (nat_lit 279)), (.ref (nat_lit 279)), (.ref (nat_lit 279))])) (List.toArray []))
noncomputable def o283_0 (P : Params) : Obj := (.mk (.type "builtin_function_or_method") none (.fields (List.toArray [(.builtin "object.__init_subclass__"), (.ref (nat_lit 279))])) (List.toArray []))
noncomputable def tr_29 (P : Params) : PySem.W.BT := (.node (boot_o_0 P) (.node (boot_o_1 P) (.node (o3_5 P) (.node (boot_o_7 P) (.node (o15_0 P) (.node (o31_0 P) (.node (o63_0 P) (.node (o127_0 P) (.node (o255_0 P) .nil .nil) .nil) (.node (o191_0 P) .nil .nil)) (.node (o95_0 P) (.node (o159_0 P) .nil .nil) (.node (o223_0 P) .nil .nil))) (.node (o47_0 P) (.node (o79_0 P) (.node (o143_0 P) (.node (o271_0 P) .nil .nil) .nil) (.node (o207_0 P) .nil .nil)) (.node (o111_0 P) (.node (o175_0 P) .nil .nil) (.node (o239_0 P) .nil .nil)))) (.node (o23_0 P) (.node (o39_0 P) (.node (o71_0 P) (.node (o135_0 P) (.node (o263_0 P) .nil .nil) .nil) (.node (o199_0 P) .nil .nil)) (.node (o103_0 P) (.node (o167_0 P) .nil .nil) (.node (o231_0 P) .nil .nil))) (.node (o55_0 P) (.node (o87_0 P) (.node (o151_0 P) (.node (o279_0 P) .nil .nil) .nil) (.node (o215_0 P) .nil .nil)) (.node (o119_0 P) (.node (o183_0 P) .nil .nil) (.node (o247_0 P) .nil .nil))))) (.node (o11_0 P) (.node (o19_0 P) (.node (o35_0 P) (.node (o67_0 P) (.node (o131_0 P) (.node (o259_0 P) .nil .nil) .nil) (.node (o195_0 P) .nil .nil)) (.node (o99_0 P) (.node (o163_0 P) .nil .nil) (.node (o227_0 P) .nil .nil))) (.node (o51_0 P) (.node (o83_0 P) (.node (o147_0 P) (.node (o275_0 P) .nil .nil) .nil) (.node (o211_0 P) .nil .nil)) (.node (o115_0 P) (.node (o179_0 P) .nil .nil) (.node (o243_0 P) .nil .nil)))) (.node (o27_0 P) (.node (o43_0 P) (.node (o75_0 P) (.node (o139_0 P) (.node (o267_0 P) .nil .nil) .nil) (.node (o203_0 P) .nil .nil)) (.node (o107_0 P) (.node (o171_0 P) .nil .nil) (.node (o235_0 P) .nil .nil))) (.node (o59_0 P) (.node (o91_0 P) (.node (o155_0 P) (.node (o283_0 P) .nil .nil) .nil) (.node (o219_0 P) .nil .nil)) (.node (o123_0 P) (.node (o187_0 P) .nil .nil) (.node (o251_0 P) .nil .nil)))))) (.node (boot_o_5 P) (.node (boot_o_9 P) (.node (o17_0 P) (.node (o33_0 P) (.node (o65_0 P) (.node (o129_0 P) (.node (o257_0 P) .nil .nil) .nil) (.node (o193_0 P) .nil .nil)) (.node (o97_0 P) (.node (o161_0 P) .nil .nil) (.node (o225_0 P) .nil .nil))) (.node (o49_0 P) (.node (o81_0 P) (.node (o145_0 P) (.node (o273_0 P) .nil .nil) .nil) (.node (o209_0 P) .nil .nil)) (.node (o113_0 P) (.node (o177_0 P) .nil .nil) (.node (o241_0 P) .nil .nil)))) (.node (o25_0 P) (.node (o41_0 P) (.node (o73_0 P) (.node (o137_0 P) (.node (o265_0 P) .nil .nil) .nil) (.node (o201_0 P) .nil .nil)) (.node (o105_0 P) (.node (o169_0 P) .nil .nil) (.node (o233_0 P) .nil .nil))) (.node (o57_0 P) (.node (o89_0 P) (.node (o153_0 P) (.node (o281_0 P) .nil .nil) .nil) (.node (o217_0 P) .nil .nil)) (.node (o121_0 P) (.node (o185_0 P) .nil .nil) (.node (o249_0 P) .nil .nil))))) (.node (o13_0 P) (.node (o21_0 P) (.node (o37_0 P) (.node (o69_0 P) (.node (o133_0 P) (.node (o261_0 P) .nil .nil) .nil) (.node (o197_0 P) .nil .nil)) (.node (o101_0 P) (.node (o165_0 P) .nil .nil) (.node (o229_0 P) .nil .nil))) (.node (o53_0 P) (.node (o85_0 P) (.node (o149_0 P) (.node (o277_0 P) .nil .nil) .nil) (.node (o213_0 P) .nil .nil)) (.node (o117_0 P) (.node (o181_0 P) .nil .nil) (.node (o245_0 P) .nil .nil)))) (.node (o29_0 P) (.node (o45_0 P) (.node (o77_0 P) (.node (o141_0 P) (.node (o269_0 P) .nil .nil) .nil) (.node (o205_0 P) .nil .nil)) (.node (o109_0 P) (.node (o173_0 P) .nil .nil) (.node (o237_0 P) .nil .nil))) (.node (o61_0 P) (.node (o93_0 P) (.node (o157_0 P) .nil .nil) (.node (o221_0 P) .nil .nil)) (.node (o125_0 P) (.node (o189_0 P) .nil .nil) (.node (o253_0 P) .nil .nil))))))) (.node (boot_o_2 P) (.node (boot_o_4 P) (.node (boot_o_8 P) (.node (o16_0 P) (.node (o32_0 P) (.node (o64_0 P) (.node (o128_0 P) (.node (o256_0 P) .nil .nil) .nil) (.node (o192_0 P) .nil .nil)) (.node (o96_0 P) (.node (o160_0 P) .nil .nil) (.node (o224_0 P) .nil .nil))) (.node (o48_0 P) (.node (o80_0 P) (.node (o144_0 P) (.node (o272_0 P) .nil .nil) .nil) (.node (o208_0 P) .nil .nil)) (.node (o112_0 P) (.node (o176_0 P) .nil .nil) (.node (o240_0 P) .nil .nil)))) (.node (o24_3 P) (.node (o40_0 P) (.node (o72_0 P) (.node (o136_0 P) (.node (o264_0 P) .nil .nil) .nil) (.node (o200_0 P) .nil .nil)) (.node (o104_0 P) (.node (o168_0 P) .nil .nil) (.node (o232_0 P) .nil .nil))) (.node (o56_0 P) (.node (o88_0 P) (.node (o152_0 P) (.node (o280_0 P) .nil .nil) .nil) (.node (o216_0 P) .nil .nil)) (.node (o120_0 P) (.node (o184_0 P) .nil .nil) (.node (o248_0 P) .nil .nil))))) (.node (o12_6 P) (.node (o20_0 P) (.node (o36_0 P) (.node (o68_0 P) (.node (o132_0 P) (.node (o260_0 P) .nil .nil) .nil) (.node (o196_0 P) .nil .nil)) (.node (o100_0 P) (.node (o164_0 P) .nil .nil) (.node (o228_0 P) .nil .nil))) (.node (o52_0 P) (.node (o84_0 P) (.node (o148_0 P) (.node (o276_0 P) .nil .nil) .nil) (.node (o212_0 P) .nil .nil)) (.node (o116_0 P) (.node (o180_0 P) .nil .nil) (.node (o244_0 P) .nil .nil)))) (.node (o28_0 P) (.node (o44_0 P) (.node (o76_0 P) (.node (o140_0 P) (.node (o268_0 P) .nil .nil) .nil) (.node (o204_0 P) .nil .nil)) (.node (o108_0 P) (.node (o172_0 P) .nil .nil) (.node (o236_0 P) .nil .nil))) (.node (o60_0 P) (.node (o92_0 P) (.node (o156_0 P) .nil .nil) (.node (o220_0 P) .nil .nil)) (.node (o124_0 P) (.node (o188_0 P) .nil .nil) (.node (o252_0 P) .nil .nil)))))) (.node (boot_o_6 P) (.node (boot_o_10 P) (.node (o18_0 P) (.node (o34_0 P) (.node (o66_0 P) (.node (o130_0 P) (.node (o258_0 P) .nil .nil) .nil) (.node (o194_0 P) .nil .nil)) (.node (o98_0 P) (.node (o162_0 P) .nil .nil) (.node (o226_0 P) .nil .nil))) (.node (o50_0 P) (.node (o82_0 P) (.node (o146_0 P) (.node (o274_0 P) .nil .nil) .nil) (.node (o210_0 P) .nil .nil)) (.node (o114_0 P) (.node (o178_0 P) .nil .nil) (.node (o242_0 P) .nil .nil)))) (.node (o26_0 P) (.node (o42_0 P) (.node (o74_0 P) (.node (o138_0 P) (.node (o266_0 P) .nil .nil) .nil) (.node (o202_0 P) .nil .nil)) (.node (o106_0 P) (.node (o170_0 P) .nil .nil) (.node (o234_0 P) .nil .nil))) (.node (o58_0 P) (.node (o90_0 P) (.node (o154_0 P) (.node (o282_0 P) .nil .nil) .nil) (.node (o218_0 P) .nil .nil)) (.node (o122_0 P) (.node (o186_0 P) .nil .nil) (.node (o250_0 P) .nil .nil))))) (.node (o14_0 P) (.node (o22_0 P) (.node (o38_0 P) (.node (o70_0 P) (.node (o134_0 P) (.node (o262_0 P) .nil .nil) .nil) (.node (o198_0 P) .nil .nil)) (.node (o102_0 P) (.node (o166_0 P) .nil .nil) (.node (o230_0 P) .nil .nil))) (.node (o54_0 P) (.node (o86_0 P) (.node (o150_0 P) (.node (o278_0 P) .nil .nil) .nil) (.node (o214_0 P) .nil .nil)) (.node (o118_0 P) (.node (o182_0 P) .nil .nil) (.node (o246_0 P) .nil .nil)))) (.node (o30_0 P) (.node (o46_0 P) (.node (o78_0 P) (.node (o142_0 P) (.node (o270_0 P) .nil .nil) .nil) (.node (o206_0 P) .nil .nil)) (.node (o110_0 P) (.node (o174_0 P) .nil .nil) (.node (o238_0 P) .nil .nil))) (.node (o62_0 P) (.node (o94_0 P) (.node (o158_0 P) .nil .nil) (.node (o222_0 P) .nil .nil)) (.node (o126_0 P) (.node (o190_0 P) .nil .nil) (.node (o254_0 P) .nil .nil))))))))
abbrev st_29 (w : World) (os : OsState) : SharedT := SharedT.mk (tr_29 w.params) (nat_lit 284) (@Life.mk [] [] [] (nat_lit 0) [] [] false (@List.toArray @Nat []) [] (nat_lit 0) false false false ((nat_lit 0) : Int) [((nat_lit 2000) : Int), ((nat_lit 10) : Int), ((nat_lit 10) : Int)] false (nat_lit 0) true [] [] (nat_lit 0) false) (@Array.mk GenState []) (@Drawn.mk (nat_lit 0) (nat_lit 0) (nat_lit 0) (nat_lit 0)) (nat_lit 577) os
noncomputable def ss_29 : List Stmt := ((behindTheImports pw).drop 28).take 1
theorem q_29 : ∀ w : World, (fun os => segRunT treeTable pw w 11 ann 1 (nat_lit 580) (st_28 w os) (piecesOf ss_29 env cE (@Pos.mk (nat_lit 128) (nat_lit 0) (nat_lit 128) (nat_lit 8)) BB)) = fun os => some (Flow.next, st_29 w os, cE, (@Pos.mk (nat_lit 129) (nat_lit 0) (nat_lit 203) (nat_lit 19))) := fun w => by rw [segRunT_q, table_q]; kernel_rfl
noncomputable def o3_6 (P : Params) : Obj := (.mk (.type "dict") none (.dict (List.toArray [(.mk (PyData.keyHash P "__name__") (.str "__name__" (nat_lit 165)) (.str "law_uf050007_10" (nat_lit 577))), (.mk (PyData.keyHash P "__doc__") (.str "__doc__" (nat_lit 166)) Value.none), (.mk (PyData.keyHash P "__package__") (.str "__package__" (nat_lit 167)) Value.none), (.mk (PyData.keyHash P "__loader__") (.str "__loader__" (nat_lit 168)) (.builtin "__main__.__loader__#opaque")), (.mk (PyData.keyHash P "__spec__") (.str "__spec__" (nat_lit 169)) Value.none), (.mk (PyData.keyHash P "__annotations__") (.str "__annotations__" (nat_lit 170)) (.ref (nat_lit 6))), (.mk (PyData.keyHash P "__builtins__") (.str "__builtins__" (nat_lit 171)) (.ref (nat_lit 4))), (.mk (PyData.keyHash P "__file__") (.str "__file__" (nat_lit 173)) (.str "/claim/cut.py" (nat_lit 172))), (.mk (PyData.keyHash P "__cached__") (.str "__cached__" (nat_lit 174)) Value.none), (.mk (PyData.keyHash P "RoadError") (.str "RoadError" (nat_lit 206)) (.ref (nat_lit 24))), (.mk (PyData.keyHash P "NoPath") (.str "NoPath" (nat_lit 222)) (.ref (nat_lit 37))), (.mk (PyData.keyHash P "NoFile") (.str "NoFile" (nat_lit 238)) (.ref (nat_lit 49))), (.mk (PyData.keyHash P "InTheWay") (.str "InTheWay" (nat_lit 254)) (.ref (nat_lit 61))), (.mk (PyData.keyHash P "NoClash") (.str "NoClash" (nat_lit 270)) (.ref (nat_lit 73))), (.mk (PyData.keyHash P "Clashed") (.str "Clashed" (nat_lit 286)) (.ref (nat_lit 85))), (.mk (PyData.keyHash P "NoVersion") (.str "NoVersion" (nat_lit 302)) (.ref (nat_lit 97))), (.mk (PyData.keyHash P "SameVersion") (.str "SameVersion" (nat_lit 318)) (.ref (nat_lit 109))), (.mk (PyData.keyHash P "SIGNS") (.str "SIGNS" (nat_lit 322)) (.str "abcdefghijklmnopqrstuvwxyzABCDEFGHIJKLMNOPQRSTUVWXYZ0123456789.-_" (nat_lit 321))), (.mk (PyData.keyHash P "MOST_PARTS") (.str "MOST_PARTS" (nat_lit 324)) (.int ((nat_lit 8) : Int) (nat_lit 323))), (.mk (PyData.keyHash P "LONGEST_PART") (.str "LONGEST_PART" (nat_lit 326)) (.int ((nat_lit 12) : Int) (nat_lit 325))), (.mk (PyData.keyHash P "is_part") (.str "is_part" (nat_lit 334)) (.ref (nat_lit 118))), (.mk (PyData.keyHash P "is_path") (.str "is_path" (nat_lit 343)) (.ref (nat_lit 125))), (.mk (PyData.keyHash P "above") (.str "above" (nat_lit 349)) (.ref (nat_lit 130))), (.mk (PyData.keyHash P "is_beneath") (.str "is_beneath" (nat_lit 357)) (.ref (nat_lit 137))), (.mk (PyData.keyHash P "all_paths") (.str "all_paths" (nat_lit 371)) (.ref (nat_lit 144))), (.mk (PyData.keyHash P "marks") (.str "marks" (nat_lit 385)) (.ref (nat_lit 151))), (.mk (PyData.keyHash P "clashing") (.str "clashing" (nat_lit 391)) (.ref (nat_lit 156))), (.mk (PyData.keyHash P "standing") (.str "standing" (nat_lit 404)) (.ref (nat_lit 163))), (.mk (PyData.keyHash P "clashes") (.str "clashes" (nat_lit 410)) (.ref (nat_lit 168))), (.mk (PyData.keyHash P "joined") (.str "joined" (nat_lit 425)) (.ref (nat_lit 175))), (.mk (PyData.keyHash P "done") (.str "done" (nat_lit 438)) (.ref (nat_lit 182))), (.mk (PyData.keyHash P "changed") (.str "changed" (nat_lit 448)) (.ref (nat_lit 189))), (.mk (PyData.keyHash P "Book") (.str "Book" (nat_lit 576)) (.ref (nat_lit 279))), (.mk (PyData.keyHash P "_law_cell_at") (.str "_law_cell_at" (nat_lit 586)) (.ref (nat_lit 290))), (.mk (PyData.keyHash P "_law_asked") (.str "_law_asked" (nat_lit 596)) (.ref (nat_lit 297))), (.mk (PyData.keyHash P "_law_told") (.str "_law_told" (nat_lit 602)) (.ref (nat_lit 302))), (.mk (PyData.keyHash P "_law_there_then") (.str "_law_there_then" (nat_lit 612)) (.ref (nat_lit 309))), (.mk (PyData.keyHash P "law") (.str "law" (nat_lit 629)) (.ref (nat_lit 316)))]) (nat_lit 38)) (List.toArray []))
noncomputable def o12_7 (P : Params) : Obj := (.mk Value.none none (.fields (List.toArray [(.int ((nat_lit 2) : Int) (nat_lit 0)), (.int ((nat_lit 0) : Int) (nat_lit 0)), (.ref (nat_lit 20)), (.int ((nat_lit 4) : Int) (nat_lit 0)), (.int ((nat_lit 0) : Int) (nat_lit 0)), (.ref (nat_lit 33)), (.int ((nat_lit 6) : Int) (nat_lit 0)), (.int ((nat_lit 0) : Int) (nat_lit 0)), (.ref (nat_lit 45)), (.int ((nat_lit 8) : Int) (nat_lit 0)), (.int ((nat_lit 0) : Int) (nat_lit 0)), (.ref (nat_lit 57)), (.int ((nat_lit 10) : Int) (nat_lit 0)), (.int ((nat_lit 0) : Int) (nat_lit 0)), (.ref (nat_lit 69)), (.int ((nat_lit 12) : Int) (nat_lit 0)), (.int ((nat_lit 0) : Int) (nat_lit 0)), (.ref (nat_lit 81)), (.int ((nat_lit 14) : Int) (nat_lit 0)), (.int ((nat_lit 0) : Int) (nat_lit 0)), (.ref (nat_lit 93)), (.int ((nat_lit 16) : Int) (nat_lit 0)), (.int ((nat_lit 0) : Int) (nat_lit 0)), (.ref (nat_lit 105)), (.int ((nat_lit 22) : Int) (nat_lit 0)), (.int ((nat_lit 0) : Int) (nat_lit 0)), (.ref (nat_lit 117)), (.int ((nat_lit 29) : Int) (nat_lit 0)), (.int ((nat_lit 0) : Int) (nat_lit 0)), (.ref (nat_lit 124)), (.int ((nat_lit 37) : Int) (nat_lit 0)), (.int ((nat_lit 0) : Int) (nat_lit 0)), (.ref (nat_lit 129)), (.int ((nat_lit 40) : Int) (nat_lit 0)), (.int ((nat_lit 0) : Int) (nat_lit 0)), (.ref (nat_lit 136)), (.int ((nat_lit 43) : Int) (nat_lit 0)), (.int ((nat_lit 0) : Int) (nat_lit 0)), (.ref (nat_lit 143)), (.int ((nat_lit 49) : Int) (nat_lit 0)), (.int ((nat_lit 0) : Int) (nat_lit 0)), (.ref (nat_lit 150)), (.int ((nat_lit 65) : Int) (nat_lit 0)), (.int ((nat_lit 0) : Int) (nat_lit 0)), (.ref (nat_lit 155)), (.int ((nat_lit 67) : Int) (nat_lit 0)), (.int ((nat_lit 0) : Int) (nat_lit 0)), (.ref (nat_lit 162)), (.int ((nat_lit 77) : Int) (nat_lit 0)), (.int ((nat_lit 0) : Int) (nat_lit 0)), (.ref (nat_lit 167)), (.int ((nat_lit 85) : Int) (nat_lit 0)), (.int ((nat_lit 0) : Int) (nat_lit 0)), (.ref (nat_lit 174)), (.int ((nat_lit 108) : Int) (nat_lit 0)), (.int ((nat_lit 0) : Int) (nat_lit 0)), (.ref (nat_lit 181)), (.int ((nat_lit 123) : Int) (nat_lit 0)), (.int ((nat_lit 0) : Int) (nat_lit 0)), (.ref (nat_lit 188)), (.int ((nat_lit 129) : Int) (nat_lit 0)), (.int ((nat_lit 0) : Int) (nat_lit 0)), (.ref (nat_lit 195)), (.int ((nat_lit 205) : Int) (nat_lit 0)), (.int ((nat_lit 0) : Int) (nat_lit 0)), (.ref (nat_lit 289)), (.int ((nat_lit 209) : Int) (nat_lit 0)), (.int ((nat_lit 0) : Int) (nat_lit 0)), (.ref (nat_lit 296)), (.int ((nat_lit 235) : Int) (nat_lit 0)), (.int ((nat_lit 0) : Int) (nat_lit 0)), (.ref (nat_lit 301)), (.int ((nat_lit 245) : Int) (nat_lit 0)), (.int ((nat_lit 0) : Int) (nat_lit 0)), (.ref (nat_lit 308)), (.int ((nat_lit 255) : Int) (nat_lit 0)), (.int ((nat_lit 0) : Int) (nat_lit 0)), (.ref (nat_lit 315))])) (List.toArray []))
noncomputable def o284_0 (P : Params) : Obj := (.mk (.type "tuple") none (.seq (List.toArray []) (nat_lit 0)) (List.toArray []))
noncomputable def o285_0 (P : Params) : Obj := (.mk Value.none none (.fields (List.toArray [])) (List.toArray []))
noncomputable def o286_0 (P : Params) : Obj := (.mk (.type "tuple") none (.seq (List.toArray [(.str "_law_script" (nat_lit 582)), (.str "_law_k" (nat_lit 583))]) (nat_lit 0)) (List.toArray []))
noncomputable def o287_0 (P : Params) : Obj := (.mk (.type "tuple") none (.seq (List.toArray []) (nat_lit 0)) (List.toArray []))
noncomputable def o288_0 (P : Params) : Obj := (.mk Value.none none (.func (.mk "_law_cell_at" "_law_cell_at" (fA TB 30) (.stmts (fB TB 30)) (fS TB 30) (nat_lit 0) [] Value.none Value.none Value.none Value.none none Value.none Value.none (nat_lit 0))) (List.toArray []))
noncomputable def o289_0 (P : Params) : Obj := (.mk (.type "code") none (.fields (List.toArray [(.str "_law_cell_at" (nat_lit 579)), (.str "_law_cell_at" (nat_lit 580)), (.str "/claim/cut.py" (nat_lit 581)), (.int ((nat_lit 205) : Int) (nat_lit 0)), (.int ((nat_lit 2) : Int) (nat_lit 0)), (.int ((nat_lit 0) : Int) (nat_lit 0)), (.int ((nat_lit 0) : Int) (nat_lit 0)), (.int ((nat_lit 3) : Int) (nat_lit 0)), (.ref (nat_lit 284)), (.bool true), (.int ((nat_lit 181) : Int) (nat_lit 0)), (.ref (nat_lit 285)), Value.none, (.ref (nat_lit 286)), (.ref (nat_lit 287)), (.ref (nat_lit 288)), (.int ((nat_lit 584) : Int) (nat_lit 0)), (.int ((nat_lit 205) : Int) (nat_lit 0)), (.str "/claim/cut.py" (nat_lit 585))])) (List.toArray []))
noncomputable def o290_0 (P : Params) : Obj := (.mk (.type "function") none (.func (.mk "_law_cell_at" "_law_cell_at" (fA TB 30) (.stmts (fB TB 30)) (fS TB 30) (nat_lit 3) [] Value.none Value.none Value.none (.str "law_uf050007_10" (nat_lit 577)) none (.ref (nat_lit 289)) Value.none (nat_lit 0))) (List.toArray []))
noncomputable def o291_0 (P : Params) : Obj := (.mk (.type "tuple") none (.seq (List.toArray []) (nat_lit 0)) (List.toArray []))
noncomputable def o292_0 (P : Params) : Obj := (.mk Value.none none (.fields (List.toArray [])) (List.toArray []))
noncomputable def o293_0 (P : Params) : Obj := (.mk (.type "tuple") none (.seq (List.toArray [(.str "_law_book" (nat_lit 590)), (.str "_law_way" (nat_lit 591)), (.str "_law_wrong" (nat_lit 592)), (.str "_law_good" (nat_lit 593))]) (nat_lit 0)) (List.toArray []))
noncomputable def o294_0 (P : Params) : Obj := (.mk (.type "tuple") none (.seq (List.toArray []) (nat_lit 0)) (List.toArray []))
noncomputable def o295_0 (P : Params) : Obj := (.mk Value.none none (.func (.mk "_law_asked" "_law_asked" (fA TB 31) (.stmts (fB TB 31)) (fS TB 31) (nat_lit 0) [] Value.none Value.none Value.none Value.none none Value.none Value.none (nat_lit 0))) (List.toArray []))
noncomputable def o296_0 (P : Params) : Obj := (.mk (.type "code") none (.fields (List.toArray [(.str "_law_asked" (nat_lit 587)), (.str "_law_asked" (nat_lit 588)), (.str "/claim/cut.py" (nat_lit 589)), (.int ((nat_lit 209) : Int) (nat_lit 0)), (.int ((nat_lit 4) : Int) (nat_lit 0)), (.int ((nat_lit 0) : Int) (nat_lit 0)), (.int ((nat_lit 0) : Int) (nat_lit 0)), (.int ((nat_lit 3) : Int) (nat_lit 0)), (.ref (nat_lit 291)), (.bool true), (.int ((nat_lit 181) : Int) (nat_lit 0)), (.ref (nat_lit 292)), Value.none, (.ref (nat_lit 293)), (.ref (nat_lit 294)), (.ref (nat_lit 295)), (.int ((nat_lit 594) : Int) (nat_lit 0)), (.int ((nat_lit 209) : Int) (nat_lit 0)), (.str "/claim/cut.py" (nat_lit 595))])) (List.toArray []))
noncomputable def o297_0 (P : Params) : Obj := (.mk (.type "function") none (.func (.mk "_law_asked" "_law_asked" (fA TB 31) (.stmts (fB TB 31)) (fS TB 31) (nat_lit 3) [] Value.none Value.none Value.none (.str "law_uf050007_10" (nat_lit 577)) none (.ref (nat_lit 296)) Value.none (nat_lit 0))) (List.toArray []))
noncomputable def o298_0 (P : Params) : Obj := (.mk (.type "tuple") none (.seq (List.toArray []) (nat_lit 0)) (List.toArray []))
noncomputable def o299_0 (P : Params) : Obj := (.mk Value.none none (.fields (List.toArray [])) (List.toArray []))
noncomputable def o300_0 (P : Params) : Obj := (.mk Value.none none (.func (.mk "_law_told" "_law_told" (fA TB 32) (.stmts (fB TB 32)) (fS TB 32) (nat_lit 0) [] Value.none Value.none Value.none Value.none none Value.none Value.none (nat_lit 0))) (List.toArray []))
noncomputable def o301_0 (P : Params) : Obj := (.mk (.type "code") none (.fields (List.toArray [(.str "_law_told" (nat_lit 597)), (.str "_law_told" (nat_lit 598)), (.str "/claim/cut.py" (nat_lit 599)), (.int ((nat_lit 235) : Int) (nat_lit 0)), (.int ((nat_lit 4) : Int) (nat_lit 0)), (.int ((nat_lit 0) : Int) (nat_lit 0)), (.int ((nat_lit 0) : Int) (nat_lit 0)), (.int ((nat_lit 3) : Int) (nat_lit 0)), (.ref (nat_lit 298)), (.bool true), (.int ((nat_lit 181) : Int) (nat_lit 0)), (.ref (nat_lit 299)), Value.none, Value.none, Value.none, (.ref (nat_lit 300)), (.int ((nat_lit 600) : Int) (nat_lit 0)), (.int ((nat_lit 235) : Int) (nat_lit 0)), (.str "/claim/cut.py" (nat_lit 601))])) (List.toArray []))
noncomputable def o302_0 (P : Params) : Obj := (.mk (.type "function") none (.func (.mk "_law_told" "_law_told" (fA TB 32) (.stmts (fB TB 32)) (fS TB 32) (nat_lit 3) [] Value.none Value.none Value.none (.str "law_uf050007_10" (nat_lit 577)) none (.ref (nat_lit 301)) Value.none (nat_lit 0))) (List.toArray []))
noncomputable def o303_0 (P : Params) : Obj := (.mk (.type "tuple") none (.seq (List.toArray []) (nat_lit 0)) (List.toArray []))
noncomputable def o304_0 (P : Params) : Obj := (.mk Value.none none (.fields (List.toArray [])) (List.toArray []))
noncomputable def o305_0 (P : Params) : Obj := (.mk (.type "tuple") none (.seq (List.toArray [(.str "_law_book" (nat_lit 606)), (.str "_law_many" (nat_lit 607)), (.str "_law_good" (nat_lit 608)), (.str "_law_tree" (nat_lit 609))]) (nat_lit 0)) (List.toArray []))
noncomputable def o306_0 (P : Params) : Obj := (.mk (.type "tuple") none (.seq (List.toArray []) (nat_lit 0)) (List.toArray []))
noncomputable def o307_0 (P : Params) : Obj := (.mk Value.none none (.func (.mk "_law_there_then" "_law_there_then" (fA TB 33) (.stmts (fB TB 33)) (fS TB 33) (nat_lit 0) [] Value.none Value.none Value.none Value.none none Value.none Value.none (nat_lit 0))) (List.toArray []))
noncomputable def o308_0 (P : Params) : Obj := (.mk (.type "code") none (.fields (List.toArray [(.str "_law_there_then" (nat_lit 603)), (.str "_law_there_then" (nat_lit 604)), (.str "/claim/cut.py" (nat_lit 605)), (.int ((nat_lit 245) : Int) (nat_lit 0)), (.int ((nat_lit 3) : Int) (nat_lit 0)), (.int ((nat_lit 0) : Int) (nat_lit 0)), (.int ((nat_lit 0) : Int) (nat_lit 0)), (.int ((nat_lit 3) : Int) (nat_lit 0)), (.ref (nat_lit 303)), (.bool true), (.int ((nat_lit 181) : Int) (nat_lit 0)), (.ref (nat_lit 304)), Value.none, (.ref (nat_lit 305)), (.ref (nat_lit 306)), (.ref (nat_lit 307)), (.int ((nat_lit 610) : Int) (nat_lit 0)), (.int ((nat_lit 245) : Int) (nat_lit 0)), (.str "/claim/cut.py" (nat_lit 611))])) (List.toArray []))
noncomputable def o309_0 (P : Params) : Obj := (.mk (.type "function") none (.func (.mk "_law_there_then" "_law_there_then" (fA TB 33) (.stmts (fB TB 33)) (fS TB 33) (nat_lit 3) [] Value.none Value.none Value.none (.str "law_uf050007_10" (nat_lit 577)) none (.ref (nat_lit 308)) Value.none (nat_lit 0))) (List.toArray []))
noncomputable def o310_0 (P : Params) : Obj := (.mk (.type "tuple") none (.seq (List.toArray []) (nat_lit 0)) (List.toArray []))
noncomputable def o311_0 (P : Params) : Obj := (.mk Value.none none (.fields (List.toArray [])) (List.toArray []))
noncomputable def o312_0 (P : Params) : Obj := (.mk (.type "tuple") none (.seq (List.toArray [(.str "_law_script" (nat_lit 616)), (.str "_law_book" (nat_lit 617)), (.str "_law_beside" (nat_lit 618)), (.str "_law_many" (nat_lit 619)), (.str "_law_k" (nat_lit 620)), (.str "_law_cell" (nat_lit 621)), (.str "_law_good" (nat_lit 622)), (.str "_law_far" (nat_lit 623)), (.str "_law_wrong" (nat_lit 624)), (.str "_law_way" (nat_lit 625)), (.str "_law_word" (nat_lit 626))]) (nat_lit 0)) (List.toArray []))
noncomputable def o313_0 (P : Params) : Obj := (.mk (.type "tuple") none (.seq (List.toArray []) (nat_lit 0)) (List.toArray []))
noncomputable def o314_0 (P : Params) : Obj := (.mk Value.none none (.func (.mk "law" "law" (fA TB 34) (.stmts (fB TB 34)) (fS TB 34) (nat_lit 0) [] Value.none Value.none Value.none Value.none none Value.none Value.none (nat_lit 0))) (List.toArray []))
noncomputable def o315_0 (P : Params) : Obj := (.mk (.type "code") none (.fields (List.toArray [(.str "law" (nat_lit 613)), (.str "law" (nat_lit 614)), (.str "/claim/cut.py" (nat_lit 615)), (.int ((nat_lit 255) : Int) (nat_lit 0)), (.int ((nat_lit 1) : Int) (nat_lit 0)), (.int ((nat_lit 0) : Int) (nat_lit 0)), (.int ((nat_lit 0) : Int) (nat_lit 0)), (.int ((nat_lit 3) : Int) (nat_lit 0)), (.ref (nat_lit 310)), (.bool true), (.int ((nat_lit 181) : Int) (nat_lit 0)), (.ref (nat_lit 311)), Value.none, (.ref (nat_lit 312)), (.ref (nat_lit 313)), (.ref (nat_lit 314)), (.int ((nat_lit 627) : Int) (nat_lit 0)), (.int ((nat_lit 255) : Int) (nat_lit 0)), (.str "/claim/cut.py" (nat_lit 628))])) (List.toArray []))
noncomputable def o316_0 (P : Params) : Obj := (.mk (.type "function") none (.func (.mk "law" "law" (fA TB 34) (.stmts (fB TB 34)) (fS TB 34) (nat_lit 3) [] Value.none Value.none Value.none (.str "law_uf050007_10" (nat_lit 577)) none (.ref (nat_lit 315)) Value.none (nat_lit 0))) (List.toArray []))
noncomputable def tr_35 (P : Params) : PySem.W.BT := (.node (boot_o_0 P) (.node (boot_o_1 P) (.node (o3_6 P) (.node (boot_o_7 P) (.node (o15_0 P) (.node (o31_0 P) (.node (o63_0 P) (.node (o127_0 P) (.node (o255_0 P) .nil .nil) .nil) (.node (o191_0 P) .nil .nil)) (.node (o95_0 P) (.node (o159_0 P) (.node (o287_0 P) .nil .nil) .nil) (.node (o223_0 P) .nil .nil))) (.node (o47_0 P) (.node (o79_0 P) (.node (o143_0 P) (.node (o271_0 P) .nil .nil) .nil) (.node (o207_0 P) .nil .nil)) (.node (o111_0 P) (.node (o175_0 P) (.node (o303_0 P) .nil .nil) .nil) (.node (o239_0 P) .nil .nil)))) (.node (o23_0 P) (.node (o39_0 P) (.node (o71_0 P) (.node (o135_0 P) (.node (o263_0 P) .nil .nil) .nil) (.node (o199_0 P) .nil .nil)) (.node (o103_0 P) (.node (o167_0 P) (.node (o295_0 P) .nil .nil) .nil) (.node (o231_0 P) .nil .nil))) (.node (o55_0 P) (.node (o87_0 P) (.node (o151_0 P) (.node (o279_0 P) .nil .nil) .nil) (.node (o215_0 P) .nil .nil)) (.node (o119_0 P) (.node (o183_0 P) (.node (o311_0 P) .nil .nil) .nil) (.node (o247_0 P) .nil .nil))))) (.node (o11_0 P) (.node (o19_0 P) (.node (o35_0 P) (.node (o67_0 P) (.node (o131_0 P) (.node (o259_0 P) .nil .nil) .nil) (.node (o195_0 P) .nil .nil)) (.node (o99_0 P) (.node (o163_0 P) (.node (o291_0 P) .nil .nil) .nil) (.node (o227_0 P) .nil .nil))) (.node (o51_0 P) (.node (o83_0 P) (.node (o147_0 P) (.node (o275_0 P) .nil .nil) .nil) (.node (o211_0 P) .nil .nil)) (.node (o115_0 P) (.node (o179_0 P) (.node (o307_0 P) .nil .nil) .nil) (.node (o243_0 P) .nil .nil)))) (.node (o27_0 P) (.node (o43_0 P) (.node (o75_0 P) (.node (o139_0 P) (.node (o267_0 P) .nil .nil) .nil) (.node (o203_0 P) .nil .nil)) (.node (o107_0 P) (.node (o171_0 P) (.node (o299_0 P) .nil .nil) .nil) (.node (o235_0 P) .nil .nil))) (.node (o59_0 P) (.node (o91_0 P) (.node (o155_0 P) (.node (o283_0 P) .nil .nil) .nil) (.node (o219_0 P) .nil .nil)) (.node (o123_0 P) (.node (o187_0 P) (.node (o315_0 P) .nil .nil) .nil) (.node (o251_0 P) .nil .nil)))))) (.node (boot_o_5 P) (.node (boot_o_9 P) (.node (o17_0 P) (.node (o33_0 P) (.node (o65_0 P) (.node (o129_0 P) (.node (o257_0 P) .nil .nil) .nil) (.node (o193_0 P) .nil .nil)) (.node (o97_0 P) (.node (o161_0 P) (.node (o289_0 P) .nil .nil) .nil) (.node (o225_0 P) .nil .nil))) (.node (o49_0 P) (.node (o81_0 P) (.node (o145_0 P) (.node (o273_0 P) .nil .nil) .nil) (.node (o209_0 P) .nil .nil)) (.node (o113_0 P) (.node (o177_0 P) (.node (o305_0 P) .nil .nil) .nil) (.node (o241_0 P) .nil .nil)))) (.node (o25_0 P) (.node (o41_0 P) (.node (o73_0 P) (.node (o137_0 P) (.node (o265_0 P) .nil .nil) .nil) (.node (o201_0 P) .nil .nil)) (.node (o105_0 P) (.node (o169_0 P) (.node (o297_0 P) .nil .nil) .nil) (.node (o233_0 P) .nil .nil))) (.node (o57_0 P) (.node (o89_0 P) (.node (o153_0 P) (.node (o281_0 P) .nil .nil) .nil) (.node (o217_0 P) .nil .nil)) (.node (o121_0 P) (.node (o185_0 P) (.node (o313_0 P) .nil .nil) .nil) (.node (o249_0 P) .nil .nil))))) (.node (o13_0 P) (.node (o21_0 P) (.node (o37_0 P) (.node (o69_0 P) (.node (o133_0 P) (.node (o261_0 P) .nil .nil) .nil) (.node (o197_0 P) .nil .nil)) (.node (o101_0 P) (.node (o165_0 P) (.node (o293_0 P) .nil .nil) .nil) (.node (o229_0 P) .nil .nil))) (.node (o53_0 P) (.node (o85_0 P) (.node (o149_0 P) (.node (o277_0 P) .nil .nil) .nil) (.node (o213_0 P) .nil .nil)) (.node (o117_0 P) (.node (o181_0 P) (.node (o309_0 P) .nil .nil) .nil) (.node (o245_0 P) .nil .nil)))) (.node (o29_0 P) (.node (o45_0 P) (.node (o77_0 P) (.node (o141_0 P) (.node (o269_0 P) .nil .nil) .nil) (.node (o205_0 P) .nil .nil)) (.node (o109_0 P) (.node (o173_0 P) (.node (o301_0 P) .nil .nil) .nil) (.node (o237_0 P) .nil .nil))) (.node (o61_0 P) (.node (o93_0 P) (.node (o157_0 P) (.node (o285_0 P) .nil .nil) .nil) (.node (o221_0 P) .nil .nil)) (.node (o125_0 P) (.node (o189_0 P) .nil .nil) (.node (o253_0 P) .nil .nil))))))) (.node (boot_o_2 P) (.node (boot_o_4 P) (.node (boot_o_8 P) (.node (o16_0 P) (.node (o32_0 P) (.node (o64_0 P) (.node (o128_0 P) (.node (o256_0 P) .nil .nil) .nil) (.node (o192_0 P) .nil .nil)) (.node (o96_0 P) (.node (o160_0 P) (.node (o288_0 P) .nil .nil) .nil) (.node (o224_0 P) .nil .nil))) (.node (o48_0 P) (.node (o80_0 P) (.node (o144_0 P) (.node (o272_0 P) .nil .nil) .nil) (.node (o208_0 P) .nil .nil)) (.node (o112_0 P) (.node (o176_0 P) (.node (o304_0 P) .nil .nil) .nil) (.node (o240_0 P) .nil .nil)))) (.node (o24_3 P) (.node (o40_0 P) (.node (o72_0 P) (.node (o136_0 P) (.node (o264_0 P) .nil .nil) .nil) (.node (o200_0 P) .nil .nil)) (.node (o104_0 P) (.node (o168_0 P) (.node (o296_0 P) .nil .nil) .nil) (.node (o232_0 P) .nil .nil))) (.node (o56_0 P) (.node (o88_0 P) (.node (o152_0 P) (.node (o280_0 P) .nil .nil) .nil) (.node (o216_0 P) .nil .nil)) (.node (o120_0 P) (.node (o184_0 P) (.node (o312_0 P) .nil .nil) .nil) (.node (o248_0 P) .nil .nil))))) (.node (o12_7 P) (.node (o20_0 P) (.node (o36_0 P) (.node (o68_0 P) (.node (o132_0 P) (.node (o260_0 P) .nil .nil) .nil) (.node (o196_0 P) .nil .nil)) (.node (o100_0 P) (.node (o164_0 P) (.node (o292_0 P) .nil .nil) .nil) (.node (o228_0 P) .nil .nil))) (.node (o52_0 P) (.node (o84_0 P) (.node (o148_0 P) (.node (o276_0 P) .nil .nil) .nil) (.node (o212_0 P) .nil .nil)) (.node (o116_0 P) (.node (o180_0 P) (.node (o308_0 P) .nil .nil) .nil) (.node (o244_0 P) .nil .nil)))) (.node (o28_0 P) (.node (o44_0 P) (.node (o76_0 P) (.node (o140_0 P) (.node (o268_0 P) .nil .nil) .nil) (.node (o204_0 P) .nil .nil)) (.node (o108_0 P) (.node (o172_0 P) (.node (o300_0 P) .nil .nil) .nil) (.node (o236_0 P) .nil .nil))) (.node (o60_0 P) (.node (o92_0 P) (.node (o156_0 P) (.node (o284_0 P) .nil .nil) .nil) (.node (o220_0 P) .nil .nil)) (.node (o124_0 P) (.node (o188_0 P) (.node (o316_0 P) .nil .nil) .nil) (.node (o252_0 P) .nil .nil)))))) (.node (boot_o_6 P) (.node (boot_o_10 P) (.node (o18_0 P) (.node (o34_0 P) (.node (o66_0 P) (.node (o130_0 P) (.node (o258_0 P) .nil .nil) .nil) (.node (o194_0 P) .nil .nil)) (.node (o98_0 P) (.node (o162_0 P) (.node (o290_0 P) .nil .nil) .nil) (.node (o226_0 P) .nil .nil))) (.node (o50_0 P) (.node (o82_0 P) (.node (o146_0 P) (.node (o274_0 P) .nil .nil) .nil) (.node (o210_0 P) .nil .nil)) (.node (o114_0 P) (.node (o178_0 P) (.node (o306_0 P) .nil .nil) .nil) (.node (o242_0 P) .nil .nil)))) (.node (o26_0 P) (.node (o42_0 P) (.node (o74_0 P) (.node (o138_0 P) (.node (o266_0 P) .nil .nil) .nil) (.node (o202_0 P) .nil .nil)) (.node (o106_0 P) (.node (o170_0 P) (.node (o298_0 P) .nil .nil) .nil) (.node (o234_0 P) .nil .nil))) (.node (o58_0 P) (.node (o90_0 P) (.node (o154_0 P) (.node (o282_0 P) .nil .nil) .nil) (.node (o218_0 P) .nil .nil)) (.node (o122_0 P) (.node (o186_0 P) (.node (o314_0 P) .nil .nil) .nil) (.node (o250_0 P) .nil .nil))))) (.node (o14_0 P) (.node (o22_0 P) (.node (o38_0 P) (.node (o70_0 P) (.node (o134_0 P) (.node (o262_0 P) .nil .nil) .nil) (.node (o198_0 P) .nil .nil)) (.node (o102_0 P) (.node (o166_0 P) (.node (o294_0 P) .nil .nil) .nil) (.node (o230_0 P) .nil .nil))) (.node (o54_0 P) (.node (o86_0 P) (.node (o150_0 P) (.node (o278_0 P) .nil .nil) .nil) (.node (o214_0 P) .nil .nil)) (.node (o118_0 P) (.node (o182_0 P) (.node (o310_0 P) .nil .nil) .nil) (.node (o246_0 P) .nil .nil)))) (.node (o30_0 P) (.node (o46_0 P) (.node (o78_0 P) (.node (o142_0 P) (.node (o270_0 P) .nil .nil) .nil) (.node (o206_0 P) .nil .nil)) (.node (o110_0 P) (.node (o174_0 P) (.node (o302_0 P) .nil .nil) .nil) (.node (o238_0 P) .nil .nil))) (.node (o62_0 P) (.node (o94_0 P) (.node (o158_0 P) (.node (o286_0 P) .nil .nil) .nil) (.node (o222_0 P) .nil .nil)) (.node (o126_0 P) (.node (o190_0 P) .nil .nil) (.node (o254_0 P) .nil .nil))))))))
abbrev st_35 (w : World) (os : OsState) : SharedT := SharedT.mk (tr_35 w.params) (nat_lit 317) (@Life.mk [] [] [] (nat_lit 0) [] [] false (@List.toArray @Nat []) [] (nat_lit 0) false false false ((nat_lit 0) : Int) [((nat_lit 2000) : Int), ((nat_lit 10) : Int), ((nat_lit 10) : Int)] false (nat_lit 0) true [] [] (nat_lit 0) false) (@Array.mk GenState []) (@Drawn.mk (nat_lit 0) (nat_lit 0) (nat_lit 0) (nat_lit 0)) (nat_lit 630) os
noncomputable def ss_35 : List Stmt := ((behindTheImports pw).drop 29).take 6
theorem q_35 : ∀ w : World, (fun os => segRunT treeTable pw w 11 ann 1 (nat_lit 169) (st_29 w os) (piecesOf ss_35 env cE (@Pos.mk (nat_lit 129) (nat_lit 0) (nat_lit 203) (nat_lit 19)) BB)) = fun os => some (Flow.next, st_35 w os, cE, (@Pos.mk (nat_lit 255) (nat_lit 0) (nat_lit 275) (nat_lit 59))) := fun w => by rw [segRunT_q, table_q]; kernel_rfl
noncomputable def hp_f (P : Params) : Heap := Heap.mk (@Array.mk Obj [boot_o_0 P, boot_o_1 P, boot_o_2 P, o3_6 P, boot_o_4 P, boot_o_5 P, boot_o_6 P, boot_o_7 P, boot_o_8 P, boot_o_9 P, boot_o_10 P, o11_0 P, o12_7 P, o13_0 P, o14_0 P, o15_0 P, o16_0 P, o17_0 P, o18_0 P, o19_0 P, o20_0 P, o21_0 P, o22_0 P, o23_0 P, o24_3 P, o25_0 P, o26_0 P, o27_0 P, o28_0 P, o29_0 P, o30_0 P, o31_0 P, o32_0 P, o33_0 P, o34_0 P, o35_0 P, o36_0 P, o37_0 P, o38_0 P, o39_0 P, o40_0 P, o41_0 P, o42_0 P, o43_0 P, o44_0 P, o45_0 P, o46_0 P, o47_0 P, o48_0 P, o49_0 P, o50_0 P, o51_0 P, o52_0 P, o53_0 P, o54_0 P, o55_0 P, o56_0 P, o57_0 P, o58_0 P, o59_0 P, o60_0 P, o61_0 P, o62_0 P, o63_0 P, o64_0 P, o65_0 P, o66_0 P, o67_0 P, o68_0 P, o69_0 P, o70_0 P, o71_0 P, o72_0 P, o73_0 P, o74_0 P, o75_0 P, o76_0 P, o77_0 P, o78_0 P, o79_0 P, o80_0 P, o81_0 P, o82_0 P, o83_0 P, o84_0 P, o85_0 P, o86_0 P, o87_0 P, o88_0 P, o89_0 P, o90_0 P, o91_0 P, o92_0 P, o93_0 P, o94_0 P, o95_0 P, o96_0 P, o97_0 P, o98_0 P, o99_0 P, o100_0 P, o101_0 P, o102_0 P, o103_0 P, o104_0 P, o105_0 P, o106_0 P, o107_0 P, o108_0 P, o109_0 P, o110_0 P, o111_0 P, o112_0 P, o113_0 P, o114_0 P, o115_0 P, o116_0 P, o117_0 P, o118_0 P, o119_0 P, o120_0 P, o121_0 P, o122_0 P, o123_0 P, o124_0 P, o125_0 P, o126_0 P, o127_0 P, o128_0 P, o129_0 P, o130_0 P, o131_0 P, o132_0 P, o133_0 P, o134_0 P, o135_0 P, o136_0 P, o137_0 P, o138_0 P, o139_0 P, o140_0 P, o141_0 P, o142_0 P, o143_0 P, o144_0 P, o145_0 P, o146_0 P, o147_0 P, o148_0 P, o149_0 P, o150_0 P, o151_0 P, o152_0 P, o153_0 P, o154_0 P, o155_0 P, o156_0 P, o157_0 P, o158_0 P, o159_0 P, o160_0 P, o161_0 P, o162_0 P, o163_0 P, o164_0 P, o165_0 P, o166_0 P, o167_0 P, o168_0 P, o169_0 P, o170_0 P, o171_0 P, o172_0 P, o173_0 P, o174_0 P, o175_0 P, o176_0 P, o177_0 P, o178_0 P, o179_0 P, o180_0 P, o181_0 P, o182_0 P, o183_0 P, o184_0 P, o185_0 P, o186_0 P, o187_0 P, o188_0 P, o189_0 P, o190_0 P, o191_0 P, o192_0 P, o193_0 P, o194_0 P, o195_0 P, o196_0 P, o197_0 P, o198_0 P, o199_0 P, o200_0 P, o201_0 P, o202_0 P, o203_0 P, o204_0 P, o205_0 P, o206_0 P, o207_0 P, o208_0 P, o209_0 P, o210_0 P, o211_0 P, o212_0 P, o213_0 P, o214_0 P, o215_0 P, o216_0 P, o217_0 P, o218_0 P, o219_0 P, o220_0 P, o221_0 P, o222_0 P, o223_0 P, o224_0 P, o225_0 P, o226_0 P, o227_0 P, o228_0 P, o229_0 P, o230_0 P, o231_0 P, o232_0 P, o233_0 P, o234_0 P, o235_0 P, o236_0 P, o237_0 P, o238_0 P, o239_0 P, o240_0 P, o241_0 P, o242_0 P, o243_0 P, o244_0 P, o245_0 P, o246_0 P, o247_0 P, o248_0 P, o249_0 P, o250_0 P, o251_0 P, o252_0 P, o253_0 P, o254_0 P, o255_0 P, o256_0 P, o257_0 P, o258_0 P, o259_0 P, o260_0 P, o261_0 P, o262_0 P, o263_0 P, o264_0 P, o265_0 P, o266_0 P, o267_0 P, o268_0 P, o269_0 P, o270_0 P, o271_0 P, o272_0 P, o273_0 P, o274_0 P, o275_0 P, o276_0 P, o277_0 P, o278_0 P, o279_0 P, o280_0 P, o281_0 P, o282_0 P, o283_0 P, o284_0 P, o285_0 P, o286_0 P, o287_0 P, o288_0 P, o289_0 P, o290_0 P, o291_0 P, o292_0 P, o293_0 P, o294_0 P, o295_0 P, o296_0 P, o297_0 P, o298_0 P, o299_0 P, o300_0 P, o301_0 P, o302_0 P, o303_0 P, o304_0 P, o305_0 P, o306_0 P, o307_0 P, o308_0 P, o309_0 P, o310_0 P, o311_0 P, o312_0 P, o313_0 P, o314_0 P, o315_0 P, o316_0 P]) (@Life.mk [] [] [] (nat_lit 0) [] [] false (@List.toArray @Nat []) [] (nat_lit 0) false false false ((nat_lit 0) : Int) [((nat_lit 2000) : Int), ((nat_lit 10) : Int), ((nat_lit 10) : Int)] false (nat_lit 0) true [] [] (nat_lit 0) false)
abbrev sl_f (w : World) (os : OsState) : Shared := Shared.mk (hp_f w.params) (@Array.mk GenState []) (@Drawn.mk (nat_lit 0) (nat_lit 0) (nat_lit 0) (nat_lit 0)) (nat_lit 630) os
theorem q_fin : ∀ w : World, (fun os => topRun treeTable pw w 11 ann (nat_lit 2) (st_35 w os).abs (Thread.mk (doneF .next) cE (@Pos.mk (nat_lit 255) (nat_lit 0) (nat_lit 275) (nat_lit 59)) BB)) = fun os => some (sl_f w os) := fun w => by rw [topRun_q, table_q]; kernel_rfl
theorem body_eq : behindTheImports pw = (ss_3 ++ (ss_5 ++ (ss_7 ++ (ss_11 ++ (ss_28 ++ (ss_29 ++ (ss_35 ++ ([] : List Stmt)))))))) := by kernel_rfl
theorem q_rest (w : World) (os : OsState) : topRun treeTable pw w 11 ann (Nat.add (nat_lit 409) (Nat.add (nat_lit 427) (Nat.add (nat_lit 427) (Nat.add (nat_lit 445) (Nat.add (nat_lit 422) (Nat.add (nat_lit 580) (Nat.add (nat_lit 169) (nat_lit 2)))))))) (st_b w os).abs (restOf (ss_3 ++ (ss_5 ++ (ss_7 ++ (ss_11 ++ (ss_28 ++ (ss_29 ++ (ss_35 ++ ([] : List Stmt)))))))) env cE (@Pos.mk (nat_lit 0) (nat_lit 0) (nat_lit 0) (nat_lit 0)) BB) = some (sl_f w os) :=
  (piece_app (tb := treeTable) (p := pw) (w := w) (n₀ := 11) (ann := ann) (env := env) (q := qq) (n := nat_lit 409) (N := (Nat.add (nat_lit 427) (Nat.add (nat_lit 427) (Nat.add (nat_lit 445) (Nat.add (nat_lit 422) (Nat.add (nat_lit 580) (Nat.add (nat_lit 169) (nat_lit 2)))))))) (s := (st_b w os).abs) (s' := (st_3 w os).abs) (r := sl_f w os) (l := ss_3) (rest := (ss_5 ++ (ss_7 ++ (ss_11 ++ (ss_28 ++ (ss_29 ++ (ss_35 ++ ([] : List Stmt)))))))) (c := cE) (pos := (@Pos.mk (nat_lit 0) (nat_lit 0) (nat_lit 0) (nat_lit 0))) (p' := (@Pos.mk (nat_lit 4) (nat_lit 0) (nat_lit 5) (nat_lit 8))) (segRun_of (congrFun (q_3 w) os))
    (piece_app (tb := treeTable) (p := pw) (w := w) (n₀ := 11) (ann := ann) (env := env) (q := qq) (n := nat_lit 427) (N := (Nat.add (nat_lit 427) (Nat.add (nat_lit 445) (Nat.add (nat_lit 422) (Nat.add (nat_lit 580) (Nat.add (nat_lit 169) (nat_lit 2))))))) (s := (st_3 w os).abs) (s' := (st_5 w os).abs) (r := sl_f w os) (l := ss_5) (rest := (ss_7 ++ (ss_11 ++ (ss_28 ++ (ss_29 ++ (ss_35 ++ ([] : List Stmt))))))) (c := cE) (pos := (@Pos.mk (nat_lit 4) (nat_lit 0) (nat_lit 5) (nat_lit 8))) (p' := (@Pos.mk (nat_lit 8) (nat_lit 0) (nat_lit 9) (nat_lit 8))) (segRun_of (congrFun (q_5 w) os))
    (piece_app (tb := treeTable) (p := pw) (w := w) (n₀ := 11) (ann := ann) (env := env) (q := qq) (n := nat_lit 427) (N := (Nat.add (nat_lit 445) (Nat.add (nat_lit 422) (Nat.add (nat_lit 580) (Nat.add (nat_lit 169) (nat_lit 2)))))) (s := (st_5 w os).abs) (s' := (st_7 w os).abs) (r := sl_f w os) (l := ss_7) (rest := (ss_11 ++ (ss_28 ++ (ss_29 ++ (ss_35 ++ ([] : List Stmt)))))) (c := cE) (pos := (@Pos.mk (nat_lit 8) (nat_lit 0) (nat_lit 9) (nat_lit 8))) (p' := (@Pos.mk (nat_lit 12) (nat_lit 0) (nat_lit 13) (nat_lit 8))) (segRun_of (congrFun (q_7 w) os))
    (piece_app (tb := treeTable) (p := pw) (w := w) (n₀ := 11) (ann := ann) (env := env) (q := qq) (n := nat_lit 445) (N := (Nat.add (nat_lit 422) (Nat.add (nat_lit 580) (Nat.add (nat_lit 169) (nat_lit 2))))) (s := (st_7 w os).abs) (s' := (st_11 w os).abs) (r := sl_f w os) (l := ss_11) (rest := (ss_28 ++ (ss_29 ++ (ss_35 ++ ([] : List Stmt))))) (c := cE) (pos := (@Pos.mk (nat_lit 12) (nat_lit 0) (nat_lit 13) (nat_lit 8))) (p' := (@Pos.mk (nat_lit 19) (nat_lit 0) (nat_lit 19) (nat_lit 5))) (segRun_of (congrFun (q_11 w) os))
    (piece_app (tb := treeTable) (p := pw) (w := w) (n₀ := 11) (ann := ann) (env := env) (q := qq) (n := nat_lit 422) (N := (Nat.add (nat_lit 580) (Nat.add (nat_lit 169) (nat_lit 2)))) (s := (st_11 w os).abs) (s' := (st_28 w os).abs) (r := sl_f w os) (l := ss_28) (rest := (ss_29 ++ (ss_35 ++ ([] : List Stmt)))) (c := cE) (pos := (@Pos.mk (nat_lit 19) (nat_lit 0) (nat_lit 19) (nat_lit 5))) (p' := (@Pos.mk (nat_lit 128) (nat_lit 0) (nat_lit 128) (nat_lit 8))) (segRun_of (congrFun (q_28 w) os))
    (piece_app (tb := treeTable) (p := pw) (w := w) (n₀ := 11) (ann := ann) (env := env) (q := qq) (n := nat_lit 580) (N := (Nat.add (nat_lit 169) (nat_lit 2))) (s := (st_28 w os).abs) (s' := (st_29 w os).abs) (r := sl_f w os) (l := ss_29) (rest := (ss_35 ++ ([] : List Stmt))) (c := cE) (pos := (@Pos.mk (nat_lit 128) (nat_lit 0) (nat_lit 128) (nat_lit 8))) (p' := (@Pos.mk (nat_lit 129) (nat_lit 0) (nat_lit 203) (nat_lit 19))) (segRun_of (congrFun (q_29 w) os))
    (piece_app (tb := treeTable) (p := pw) (w := w) (n₀ := 11) (ann := ann) (env := env) (q := qq) (n := nat_lit 169) (N := (nat_lit 2)) (s := (st_29 w os).abs) (s' := (st_35 w os).abs) (r := sl_f w os) (l := ss_35) (rest := ([] : List Stmt)) (c := cE) (pos := (@Pos.mk (nat_lit 129) (nat_lit 0) (nat_lit 203) (nat_lit 19))) (p' := (@Pos.mk (nat_lit 255) (nat_lit 0) (nat_lit 275) (nat_lit 59))) (segRun_of (congrFun (q_35 w) os))
    (congrFun (q_fin w) os))))))))
theorem q_run (w : World) (os : OsState) : topRun treeTable pw w 11 ann (Nat.add (nat_lit 12) (Nat.add (nat_lit 1) (Nat.add (nat_lit 409) (Nat.add (nat_lit 427) (Nat.add (nat_lit 427) (Nat.add (nat_lit 445) (Nat.add (nat_lit 422) (Nat.add (nat_lit 580) (Nat.add (nat_lit 169) (nat_lit 2)))))))))) (s0 w os) (topStub pw) = some (sl_f w os) :=
  go_top (congrFun (q_pre w) os) (piece_block (congrFun (q_block w) os) (by rw [show restOf (behindTheImports pw) env cE (@Pos.mk (nat_lit 0) (nat_lit 0) (nat_lit 0) (nat_lit 0)) BB = restOf (ss_3 ++ (ss_5 ++ (ss_7 ++ (ss_11 ++ (ss_28 ++ (ss_29 ++ (ss_35 ++ ([] : List Stmt)))))))) env cE (@Pos.mk (nat_lit 0) (nat_lit 0) (nat_lit 0) (nat_lit 0)) BB from congrArg (fun b => restOf b env cE (@Pos.mk (nat_lit 0) (nat_lit 0) (nat_lit 0) (nat_lit 0)) BB) body_eq]; exact q_rest w os))
theorem q_le : Nat.ble (Nat.add (nat_lit 12) (Nat.add (nat_lit 1) (Nat.add (nat_lit 409) (Nat.add (nat_lit 427) (Nat.add (nat_lit 427) (Nat.add (nat_lit 445) (Nat.add (nat_lit 422) (Nat.add (nat_lit 580) (Nat.add (nat_lit 169) (nat_lit 2)))))))))) (nat_lit 5870) = true := by kernel_rfl
theorem q_open : ∀ w : World, (fencedOpening treeTable pw w (nat_lit 5870)).map (fun s => (s.heap, s.gens, s.drawn, s.toks)) = some (boot_heap w.params, (@Array.mk GenState []), boot_drawn, boot_toks) := boot_open (by kernel_rfl) (by kernel_rfl) (fun _ => by kernel_rfl)
theorem q_size : ∀ w : World, ((boot_heap w.params).isNs mainGlobals && ((@Array.mk GenState [])).size == 0, (boot_heap w.params).objs.size, (boot_heap w.params).nsMap mainGlobals "__annotations__") = (true, 11, ann) := fun w => by kernel_rfl
noncomputable def kk (P : Params) : Frag := [(nat_lit 0, boot_o_0 P), (nat_lit 1, boot_o_1 P), (nat_lit 2, boot_o_2 P), (nat_lit 3, o3_6 P), (nat_lit 4, boot_o_4 P), (nat_lit 5, boot_o_5 P), (nat_lit 6, boot_o_6 P), (nat_lit 7, boot_o_7 P), (nat_lit 9, boot_o_9 P), (nat_lit 10, boot_o_10 P), (nat_lit 11, o11_0 P), (nat_lit 13, o13_0 P), (nat_lit 14, o14_0 P), (nat_lit 15, o15_0 P), (nat_lit 16, o16_0 P), (nat_lit 17, o17_0 P), (nat_lit 18, o18_0 P), (nat_lit 20, o20_0 P), (nat_lit 21, o21_0 P), (nat_lit 22, o22_0 P), (nat_lit 23, o23_0 P), (nat_lit 24, o24_3 P), (nat_lit 25, o25_0 P), (nat_lit 26, o26_0 P), (nat_lit 27, o27_0 P), (nat_lit 28, o28_0 P), (nat_lit 29, o29_0 P), (nat_lit 30, o30_0 P), (nat_lit 31, o31_0 P), (nat_lit 33, o33_0 P), (nat_lit 34, o34_0 P), (nat_lit 35, o35_0 P), (nat_lit 36, o36_0 P), (nat_lit 37, o37_0 P), (nat_lit 38, o38_0 P), (nat_lit 39, o39_0 P), (nat_lit 40, o40_0 P), (nat_lit 41, o41_0 P), (nat_lit 42, o42_0 P), (nat_lit 43, o43_0 P), (nat_lit 45, o45_0 P), (nat_lit 46, o46_0 P), (nat_lit 47, o47_0 P), (nat_lit 48, o48_0 P), (nat_lit 49, o49_0 P), (nat_lit 50, o50_0 P), (nat_lit 51, o51_0 P), (nat_lit 52, o52_0 P), (nat_lit 53, o53_0 P), (nat_lit 54, o54_0 P), (nat_lit 55, o55_0 P), (nat_lit 57, o57_0 P), (nat_lit 58, o58_0 P), (nat_lit 59, o59_0 P), (nat_lit 60, o60_0 P), (nat_lit 61, o61_0 P), (nat_lit 62, o62_0 P), (nat_lit 63, o63_0 P), (nat_lit 64, o64_0 P), (nat_lit 65, o65_0 P), (nat_lit 66, o66_0 P), (nat_lit 67, o67_0 P), (nat_lit 69, o69_0 P), (nat_lit 70, o70_0 P), (nat_lit 71, o71_0 P), (nat_lit 72, o72_0 P), (nat_lit 73, o73_0 P), (nat_lit 74, o74_0 P), (nat_lit 75, o75_0 P), (nat_lit 76, o76_0 P), (nat_lit 77, o77_0 P), (nat_lit 78, o78_0 P), (nat_lit 79, o79_0 P), (nat_lit 81, o81_0 P), (nat_lit 82, o82_0 P), (nat_lit 83, o83_0 P), (nat_lit 84, o84_0 P), (nat_lit 85, o85_0 P), (nat_lit 86, o86_0 P), (nat_lit 87, o87_0 P), (nat_lit 88, o88_0 P), (nat_lit 89, o89_0 P), (nat_lit 90, o90_0 P), (nat_lit 91, o91_0 P), (nat_lit 93, o93_0 P), (nat_lit 94, o94_0 P), (nat_lit 95, o95_0 P), (nat_lit 96, o96_0 P), (nat_lit 97, o97_0 P), (nat_lit 98, o98_0 P), (nat_lit 99, o99_0 P), (nat_lit 100, o100_0 P), (nat_lit 101, o101_0 P), (nat_lit 102, o102_0 P), (nat_lit 103, o103_0 P), (nat_lit 105, o105_0 P), (nat_lit 106, o106_0 P), (nat_lit 107, o107_0 P), (nat_lit 108, o108_0 P), (nat_lit 109, o109_0 P), (nat_lit 110, o110_0 P), (nat_lit 111, o111_0 P), (nat_lit 112, o112_0 P), (nat_lit 114, o114_0 P), (nat_lit 115, o115_0 P), (nat_lit 117, o117_0 P), (nat_lit 118, o118_0 P), (nat_lit 119, o119_0 P), (nat_lit 121, o121_0 P), (nat_lit 122, o122_0 P), (nat_lit 124, o124_0 P), (nat_lit 125, o125_0 P), (nat_lit 126, o126_0 P), (nat_lit 129, o129_0 P), (nat_lit 130, o130_0 P), (nat_lit 131, o131_0 P), (nat_lit 133, o133_0 P), (nat_lit 134, o134_0 P), (nat_lit 136, o136_0 P), (nat_lit 137, o137_0 P), (nat_lit 138, o138_0 P), (nat_lit 140, o140_0 P), (nat_lit 141, o141_0 P), (nat_lit 143, o143_0 P), (nat_lit 144, o144_0 P), (nat_lit 145, o145_0 P), (nat_lit 147, o147_0 P), (nat_lit 148, o148_0 P), (nat_lit 150, o150_0 P), (nat_lit 151, o151_0 P), (nat_lit 152, o152_0 P), (nat_lit 155, o155_0 P), (nat_lit 156, o156_0 P), (nat_lit 157, o157_0 P), (nat_lit 159, o159_0 P), (nat_lit 160, o160_0 P), (nat_lit 162, o162_0 P), (nat_lit 163, o163_0 P), (nat_lit 164, o164_0 P), (nat_lit 167, o167_0 P), (nat_lit 168, o168_0 P), (nat_lit 169, o169_0 P), (nat_lit 171, o171_0 P), (nat_lit 172, o172_0 P), (nat_lit 174, o174_0 P), (nat_lit 175, o175_0 P), (nat_lit 176, o176_0 P), (nat_lit 178, o178_0 P), (nat_lit 179, o179_0 P), (nat_lit 181, o181_0 P), (nat_lit 182, o182_0 P), (nat_lit 183, o183_0 P), (nat_lit 185, o185_0 P), (nat_lit 186, o186_0 P), (nat_lit 188, o188_0 P), (nat_lit 189, o189_0 P), (nat_lit 190, o190_0 P), (nat_lit 191, o191_0 P), (nat_lit 192, o192_0 P), (nat_lit 193, o193_0 P), (nat_lit 195, o195_0 P), (nat_lit 196, o196_0 P), (nat_lit 197, o197_0 P), (nat_lit 199, o199_0 P), (nat_lit 200, o200_0 P), (nat_lit 202, o202_0 P), (nat_lit 203, o203_0 P), (nat_lit 204, o204_0 P), (nat_lit 206, o206_0 P), (nat_lit 207, o207_0 P), (nat_lit 209, o209_0 P), (nat_lit 210, o210_0 P), (nat_lit 211, o211_0 P), (nat_lit 213, o213_0 P), (nat_lit 214, o214_0 P), (nat_lit 216, o216_0 P), (nat_lit 217, o217_0 P), (nat_lit 218, o218_0 P), (nat_lit 220, o220_0 P), (nat_lit 221, o221_0 P), (nat_lit 223, o223_0 P), (nat_lit 224, o224_0 P), (nat_lit 225, o225_0 P), (nat_lit 227, o227_0 P), (nat_lit 228, o228_0 P), (nat_lit 230, o230_0 P), (nat_lit 231, o231_0 P), (nat_lit 232, o232_0 P), (nat_lit 234, o234_0 P), (nat_lit 235, o235_0 P), (nat_lit 237, o237_0 P), (nat_lit 238, o238_0 P), (nat_lit 239, o239_0 P), (nat_lit 241, o241_0 P), (nat_lit 242, o242_0 P), (nat_lit 244, o244_0 P), (nat_lit 245, o245_0 P), (nat_lit 246, o246_0 P), (nat_lit 248, o248_0 P), (nat_lit 249, o249_0 P), (nat_lit 251, o251_0 P), (nat_lit 252, o252_0 P), (nat_lit 253, o253_0 P), (nat_lit 255, o255_0 P), (nat_lit 256, o256_0 P), (nat_lit 258, o258_0 P), (nat_lit 259, o259_0 P), (nat_lit 260, o260_0 P), (nat_lit 263, o263_0 P), (nat_lit 264, o264_0 P), (nat_lit 265, o265_0 P), (nat_lit 267, o267_0 P), (nat_lit 268, o268_0 P), (nat_lit 270, o270_0 P), (nat_lit 271, o271_0 P), (nat_lit 272, o272_0 P), (nat_lit 275, o275_0 P), (nat_lit 276, o276_0 P), (nat_lit 277, o277_0 P), (nat_lit 278, o278_0 P), (nat_lit 279, o279_0 P), (nat_lit 280, o280_0 P), (nat_lit 281, o281_0 P), (nat_lit 282, o282_0 P), (nat_lit 283, o283_0 P), (nat_lit 284, o284_0 P), (nat_lit 286, o286_0 P), (nat_lit 287, o287_0 P), (nat_lit 289, o289_0 P), (nat_lit 290, o290_0 P), (nat_lit 291, o291_0 P), (nat_lit 293, o293_0 P), (nat_lit 294, o294_0 P), (nat_lit 296, o296_0 P), (nat_lit 297, o297_0 P), (nat_lit 298, o298_0 P), (nat_lit 301, o301_0 P), (nat_lit 302, o302_0 P), (nat_lit 303, o303_0 P), (nat_lit 305, o305_0 P), (nat_lit 306, o306_0 P), (nat_lit 308, o308_0 P), (nat_lit 309, o309_0 P), (nat_lit 310, o310_0 P), (nat_lit 312, o312_0 P), (nat_lit 313, o313_0 P), (nat_lit 315, o315_0 P), (nat_lit 316, o316_0 P)]
noncomputable def ks : List Addr := [nat_lit 0, nat_lit 1, nat_lit 2, nat_lit 3, nat_lit 4, nat_lit 5, nat_lit 6, nat_lit 7, nat_lit 9, nat_lit 10, nat_lit 11, nat_lit 13, nat_lit 14, nat_lit 15, nat_lit 16, nat_lit 17, nat_lit 18, nat_lit 20, nat_lit 21, nat_lit 22, nat_lit 23, nat_lit 24, nat_lit 25, nat_lit 26, nat_lit 27, nat_lit 28, nat_lit 29, nat_lit 30, nat_lit 31, nat_lit 33, nat_lit 34, nat_lit 35, nat_lit 36, nat_lit 37, nat_lit 38, nat_lit 39, nat_lit 40, nat_lit 41, nat_lit 42, nat_lit 43, nat_lit 45, nat_lit 46, nat_lit 47, nat_lit 48, nat_lit 49, nat_lit 50, nat_lit 51, nat_lit 52, nat_lit 53, nat_lit 54, nat_lit 55, nat_lit 57, nat_lit 58, nat_lit 59, nat_lit 60, nat_lit 61, nat_lit 62, nat_lit 63, nat_lit 64, nat_lit 65, nat_lit 66, nat_lit 67, nat_lit 69, nat_lit 70, nat_lit 71, nat_lit 72, nat_lit 73, nat_lit 74, nat_lit 75, nat_lit 76, nat_lit 77, nat_lit 78, nat_lit 79, nat_lit 81, nat_lit 82, nat_lit 83, nat_lit 84, nat_lit 85, nat_lit 86, nat_lit 87, nat_lit 88, nat_lit 89, nat_lit 90, nat_lit 91, nat_lit 93, nat_lit 94, nat_lit 95, nat_lit 96, nat_lit 97, nat_lit 98, nat_lit 99, nat_lit 100, nat_lit 101, nat_lit 102, nat_lit 103, nat_lit 105, nat_lit 106, nat_lit 107, nat_lit 108, nat_lit 109, nat_lit 110, nat_lit 111, nat_lit 112, nat_lit 114, nat_lit 115, nat_lit 117, nat_lit 118, nat_lit 119, nat_lit 121, nat_lit 122, nat_lit 124, nat_lit 125, nat_lit 126, nat_lit 129, nat_lit 130, nat_lit 131, nat_lit 133, nat_lit 134, nat_lit 136, nat_lit 137, nat_lit 138, nat_lit 140, nat_lit 141, nat_lit 143, nat_lit 144, nat_lit 145, nat_lit 147, nat_lit 148, nat_lit 150, nat_lit 151, nat_lit 152, nat_lit 155, nat_lit 156, nat_lit 157, nat_lit 159, nat_lit 160, nat_lit 162, nat_lit 163, nat_lit 164, nat_lit 167, nat_lit 168, nat_lit 169, nat_lit 171, nat_lit 172, nat_lit 174, nat_lit 175, nat_lit 176, nat_lit 178, nat_lit 179, nat_lit 181, nat_lit 182, nat_lit 183, nat_lit 185, nat_lit 186, nat_lit 188, nat_lit 189, nat_lit 190, nat_lit 191, nat_lit 192, nat_lit 193, nat_lit 195, nat_lit 196, nat_lit 197, nat_lit 199, nat_lit 200, nat_lit 202, nat_lit 203, nat_lit 204, nat_lit 206, nat_lit 207, nat_lit 209, nat_lit 210, nat_lit 211, nat_lit 213, nat_lit 214, nat_lit 216, nat_lit 217, nat_lit 218, nat_lit 220, nat_lit 221, nat_lit 223, nat_lit 224, nat_lit 225, nat_lit 227, nat_lit 228, nat_lit 230, nat_lit 231, nat_lit 232, nat_lit 234, nat_lit 235, nat_lit 237, nat_lit 238, nat_lit 239, nat_lit 241, nat_lit 242, nat_lit 244, nat_lit 245, nat_lit 246, nat_lit 248, nat_lit 249, nat_lit 251, nat_lit 252, nat_lit 253, nat_lit 255, nat_lit 256, nat_lit 258, nat_lit 259, nat_lit 260, nat_lit 263, nat_lit 264, nat_lit 265, nat_lit 267, nat_lit 268, nat_lit 270, nat_lit 271, nat_lit 272, nat_lit 275, nat_lit 276, nat_lit 277, nat_lit 278, nat_lit 279, nat_lit 280, nat_lit 281, nat_lit 282, nat_lit 283, nat_lit 284, nat_lit 286, nat_lit 287, nat_lit 289, nat_lit 290, nat_lit 291, nat_lit 293, nat_lit 294, nat_lit 296, nat_lit 297, nat_lit 298, nat_lit 301, nat_lit 302, nat_lit 303, nat_lit 305, nat_lit 306, nat_lit 308, nat_lit 309, nat_lit 310, nat_lit 312, nat_lit 313, nat_lit 315, nat_lit 316]
abbrev NN : Nat := nat_lit 5870
-- class RoadError 24 ns 23
-- class NoPath 37 ns 36
-- class NoFile 49 ns 48
-- class InTheWay 61 ns 60
-- class NoClash 73 ns 72
-- class Clashed 85 ns 84
-- class NoVersion 97 ns 96
-- class SameVersion 109 ns 108
-- class Book 279 ns 278
noncomputable def bkA : Addr := nat_lit 279
noncomputable def bkN : Addr := nat_lit 278
noncomputable def fd___init__ (P : Params) : FuncData := match (o203_0 P).data with | .func fd => fd | _ => default
theorem m___init__ (P : Params) : (kk P).lookup (nat_lit 203) = some (o203_0 P) ∧ (o203_0 P).cls = .type "function" ∧ (o203_0 P).data = .func (fd___init__ P) ∧ codeIn (kk P) (fd___init__ P).code (fd___init__ P).qualname = true ∧ (fd___init__ P).body = .stmts (fB (cB TB 28) 0) ∧ (fd___init__ P).scope = fS (cB TB 28) 0 ∧ (fd___init__ P).closure = [] ∧ (fd___init__ P).globals = mainGlobals ∧ (fd___init__ P).builtins = builtinsNs := by
  refine ⟨?_, ?_, ?_, ?_, ?_, ?_, ?_, ?_, ?_⟩ <;> kernel_rfl
theorem mn___init__ (P : Params) : nsIn (kk P) bkN (Str.ofString "__init__") = some (some (.ref (nat_lit 203))) := by kernel_rfl
noncomputable def fd_need (P : Params) : FuncData := match (o210_0 P).data with | .func fd => fd | _ => default
theorem m_need (P : Params) : (kk P).lookup (nat_lit 210) = some (o210_0 P) ∧ (o210_0 P).cls = .type "function" ∧ (o210_0 P).data = .func (fd_need P) ∧ codeIn (kk P) (fd_need P).code (fd_need P).qualname = true ∧ (fd_need P).body = .stmts (fB (cB TB 28) 1) ∧ (fd_need P).scope = fS (cB TB 28) 1 ∧ (fd_need P).closure = [] ∧ (fd_need P).globals = mainGlobals ∧ (fd_need P).builtins = builtinsNs := by
  refine ⟨?_, ?_, ?_, ?_, ?_, ?_, ?_, ?_, ?_⟩ <;> kernel_rfl
theorem mn_need (P : Params) : nsIn (kk P) bkN (Str.ofString "need") = some (some (.ref (nat_lit 210))) := by kernel_rfl
noncomputable def fd_many (P : Params) : FuncData := match (o217_0 P).data with | .func fd => fd | _ => default
theorem m_many (P : Params) : (kk P).lookup (nat_lit 217) = some (o217_0 P) ∧ (o217_0 P).cls = .type "function" ∧ (o217_0 P).data = .func (fd_many P) ∧ codeIn (kk P) (fd_many P).code (fd_many P).qualname = true ∧ (fd_many P).body = .stmts (fB (cB TB 28) 2) ∧ (fd_many P).scope = fS (cB TB 28) 2 ∧ (fd_many P).closure = [] ∧ (fd_many P).globals = mainGlobals ∧ (fd_many P).builtins = builtinsNs := by
  refine ⟨?_, ?_, ?_, ?_, ?_, ?_, ?_, ?_, ?_⟩ <;> kernel_rfl
theorem mn_many (P : Params) : nsIn (kk P) bkN (Str.ofString "many") = some (some (.ref (nat_lit 217))) := by kernel_rfl
noncomputable def fd_tree (P : Params) : FuncData := match (o224_0 P).data with | .func fd => fd | _ => default
theorem m_tree (P : Params) : (kk P).lookup (nat_lit 224) = some (o224_0 P) ∧ (o224_0 P).cls = .type "function" ∧ (o224_0 P).data = .func (fd_tree P) ∧ codeIn (kk P) (fd_tree P).code (fd_tree P).qualname = true ∧ (fd_tree P).body = .stmts (fB (cB TB 28) 3) ∧ (fd_tree P).scope = fS (cB TB 28) 3 ∧ (fd_tree P).closure = [] ∧ (fd_tree P).globals = mainGlobals ∧ (fd_tree P).builtins = builtinsNs := by
  refine ⟨?_, ?_, ?_, ?_, ?_, ?_, ?_, ?_, ?_⟩ <;> kernel_rfl
theorem mn_tree (P : Params) : nsIn (kk P) bkN (Str.ofString "tree") = some (some (.ref (nat_lit 224))) := by kernel_rfl
noncomputable def fd_parents (P : Params) : FuncData := match (o231_0 P).data with | .func fd => fd | _ => default
theorem m_parents (P : Params) : (kk P).lookup (nat_lit 231) = some (o231_0 P) ∧ (o231_0 P).cls = .type "function" ∧ (o231_0 P).data = .func (fd_parents P) ∧ codeIn (kk P) (fd_parents P).code (fd_parents P).qualname = true ∧ (fd_parents P).body = .stmts (fB (cB TB 28) 4) ∧ (fd_parents P).scope = fS (cB TB 28) 4 ∧ (fd_parents P).closure = [] ∧ (fd_parents P).globals = mainGlobals ∧ (fd_parents P).builtins = builtinsNs := by
  refine ⟨?_, ?_, ?_, ?_, ?_, ?_, ?_, ?_, ?_⟩ <;> kernel_rfl
theorem mn_parents (P : Params) : nsIn (kk P) bkN (Str.ofString "parents") = some (some (.ref (nat_lit 231))) := by kernel_rfl
noncomputable def fd_put_down (P : Params) : FuncData := match (o238_0 P).data with | .func fd => fd | _ => default
theorem m_put_down (P : Params) : (kk P).lookup (nat_lit 238) = some (o238_0 P) ∧ (o238_0 P).cls = .type "function" ∧ (o238_0 P).data = .func (fd_put_down P) ∧ codeIn (kk P) (fd_put_down P).code (fd_put_down P).qualname = true ∧ (fd_put_down P).body = .stmts (fB (cB TB 28) 5) ∧ (fd_put_down P).scope = fS (cB TB 28) 5 ∧ (fd_put_down P).closure = [] ∧ (fd_put_down P).globals = mainGlobals ∧ (fd_put_down P).builtins = builtinsNs := by
  refine ⟨?_, ?_, ?_, ?_, ?_, ?_, ?_, ?_, ?_⟩ <;> kernel_rfl
theorem mn_put_down (P : Params) : nsIn (kk P) bkN (Str.ofString "put_down") = some (some (.ref (nat_lit 238))) := by kernel_rfl
noncomputable def fd_grow (P : Params) : FuncData := match (o245_0 P).data with | .func fd => fd | _ => default
theorem m_grow (P : Params) : (kk P).lookup (nat_lit 245) = some (o245_0 P) ∧ (o245_0 P).cls = .type "function" ∧ (o245_0 P).data = .func (fd_grow P) ∧ codeIn (kk P) (fd_grow P).code (fd_grow P).qualname = true ∧ (fd_grow P).body = .stmts (fB (cB TB 28) 6) ∧ (fd_grow P).scope = fS (cB TB 28) 6 ∧ (fd_grow P).closure = [] ∧ (fd_grow P).globals = mainGlobals ∧ (fd_grow P).builtins = builtinsNs := by
  refine ⟨?_, ?_, ?_, ?_, ?_, ?_, ?_, ?_, ?_⟩ <;> kernel_rfl
theorem mn_grow (P : Params) : nsIn (kk P) bkN (Str.ofString "grow") = some (some (.ref (nat_lit 245))) := by kernel_rfl
noncomputable def fd_merge (P : Params) : FuncData := match (o252_0 P).data with | .func fd => fd | _ => default
theorem m_merge (P : Params) : (kk P).lookup (nat_lit 252) = some (o252_0 P) ∧ (o252_0 P).cls = .type "function" ∧ (o252_0 P).data = .func (fd_merge P) ∧ codeIn (kk P) (fd_merge P).code (fd_merge P).qualname = true ∧ (fd_merge P).body = .stmts (fB (cB TB 28) 7) ∧ (fd_merge P).scope = fS (cB TB 28) 7 ∧ (fd_merge P).closure = [] ∧ (fd_merge P).globals = mainGlobals ∧ (fd_merge P).builtins = builtinsNs := by
  refine ⟨?_, ?_, ?_, ?_, ?_, ?_, ?_, ?_, ?_⟩ <;> kernel_rfl
theorem mn_merge (P : Params) : nsIn (kk P) bkN (Str.ofString "merge") = some (some (.ref (nat_lit 252))) := by kernel_rfl
noncomputable def fd_elders (P : Params) : FuncData := match (o259_0 P).data with | .func fd => fd | _ => default
theorem m_elders (P : Params) : (kk P).lookup (nat_lit 259) = some (o259_0 P) ∧ (o259_0 P).cls = .type "function" ∧ (o259_0 P).data = .func (fd_elders P) ∧ codeIn (kk P) (fd_elders P).code (fd_elders P).qualname = true ∧ (fd_elders P).body = .stmts (fB (cB TB 28) 8) ∧ (fd_elders P).scope = fS (cB TB 28) 8 ∧ (fd_elders P).closure = [] ∧ (fd_elders P).globals = mainGlobals ∧ (fd_elders P).builtins = builtinsNs := by
  refine ⟨?_, ?_, ?_, ?_, ?_, ?_, ?_, ?_, ?_⟩ <;> kernel_rfl
theorem mn_elders (P : Params) : nsIn (kk P) bkN (Str.ofString "elders") = some (some (.ref (nat_lit 259))) := by kernel_rfl
noncomputable def fd_nearest (P : Params) : FuncData := match (o264_0 P).data with | .func fd => fd | _ => default
theorem m_nearest (P : Params) : (kk P).lookup (nat_lit 264) = some (o264_0 P) ∧ (o264_0 P).cls = .type "function" ∧ (o264_0 P).data = .func (fd_nearest P) ∧ codeIn (kk P) (fd_nearest P).code (fd_nearest P).qualname = true ∧ (fd_nearest P).body = .stmts (fB (cB TB 28) 9) ∧ (fd_nearest P).scope = fS (cB TB 28) 9 ∧ (fd_nearest P).closure = [] ∧ (fd_nearest P).globals = mainGlobals ∧ (fd_nearest P).builtins = builtinsNs := by
  refine ⟨?_, ?_, ?_, ?_, ?_, ?_, ?_, ?_, ?_⟩ <;> kernel_rfl
theorem mn_nearest (P : Params) : nsIn (kk P) bkN (Str.ofString "nearest") = some (some (.ref (nat_lit 264))) := by kernel_rfl
noncomputable def fd_road (P : Params) : FuncData := match (o271_0 P).data with | .func fd => fd | _ => default
theorem m_road (P : Params) : (kk P).lookup (nat_lit 271) = some (o271_0 P) ∧ (o271_0 P).cls = .type "function" ∧ (o271_0 P).data = .func (fd_road P) ∧ codeIn (kk P) (fd_road P).code (fd_road P).qualname = true ∧ (fd_road P).body = .stmts (fB (cB TB 28) 10) ∧ (fd_road P).scope = fS (cB TB 28) 10 ∧ (fd_road P).closure = [] ∧ (fd_road P).globals = mainGlobals ∧ (fd_road P).builtins = builtinsNs := by
  refine ⟨?_, ?_, ?_, ?_, ?_, ?_, ?_, ?_, ?_⟩ <;> kernel_rfl
theorem mn_road (P : Params) : nsIn (kk P) bkN (Str.ofString "road") = some (some (.ref (nat_lit 271))) := by kernel_rfl
noncomputable def fd_story (P : Params) : FuncData := match (o276_0 P).data with | .func fd => fd | _ => default
theorem m_story (P : Params) : (kk P).lookup (nat_lit 276) = some (o276_0 P) ∧ (o276_0 P).cls = .type "function" ∧ (o276_0 P).data = .func (fd_story P) ∧ codeIn (kk P) (fd_story P).code (fd_story P).qualname = true ∧ (fd_story P).body = .stmts (fB (cB TB 28) 11) ∧ (fd_story P).scope = fS (cB TB 28) 11 ∧ (fd_story P).closure = [] ∧ (fd_story P).globals = mainGlobals ∧ (fd_story P).builtins = builtinsNs := by
  refine ⟨?_, ?_, ?_, ?_, ?_, ?_, ?_, ?_, ?_⟩ <;> kernel_rfl
theorem mn_story (P : Params) : nsIn (kk P) bkN (Str.ofString "story") = some (some (.ref (nat_lit 276))) := by kernel_rfl
theorem openSeen_q : @openSeen = @PySem.W.Fast.tw4187177175401517315 := PySem.W.Fast.te4187177175401517315
theorem imods_q : importedModules = PySem.W.Fast.tw5923862056798008813 := PySem.W.Fast.te5923862056798008813
abbrev rw : OpenLaw := PySem.Challenge.rw_uf050007_10
abbrev Xt : Shared → Bool := fun s => xlAt vw [] s && recOk (RowW.records (OpenRow.toRowW rw.row)) s
abbrev HK : Hook := kHook kk ks (fun _ => by kernel_rfl)
theorem l_1 : ∀ w : World, (fun os => (staticsOk (importedModules pw.main.body) (boot_heap w.params) (hp_f w.params) && namesBound pw (hp_f w.params) && gensDone (sl_f w os) && laidKept (boot_heap w.params) (hp_f w.params))) = fun _ : OsState => true := fun w => by rw [imods_q]; kernel_rfl
theorem l_2 : ∀ w : World, (fun os => openSeen vw [] (importedModules pw.main.body) Xt true (sl_f w os)) = fun _ : OsState => openGood vw [] := fun w => by rw [imods_q, openSeen_q]; kernel_rfl
theorem l_3 : ∀ w : World, (fun os => HK.obs (sl_f w os)) = fun _ : OsState => HK.val w := fun w => by kernel_rfl
theorem left : LeftO pw vw [] Xt HK.obs HK.val NN :=
  LeftO.of_pieces (p := pw) (q := vw) (loose := []) (Xt := Xt) (Yf := HK.obs) (Ya := HK.val) (N := NN) (g0 := true) (H₀ := boot_heap) (H₁ := hp_f) q_open q_size q_run q_le
    fun w => funext fun os => looks_pair (congrFun (l_1 w) os) (looks_pair (congrFun (l_2 w) os) (congrFun (l_3 w) os))
theorem said : rw.wellSaid = true := by
  unfold OpenLaw.wellSaid OpenRow.wellSaid OpenRow.partSaid looksOpen
  repeat' (with_reducible refine look_both ?_ ?_)
  all_goals decide +kernel
theorem hd {d : DefRec} {kwd : List (Str × Expr)} (hdef : defOf vw rw.row.name = some (d, kwd)) (hp : rw.row.prog.theDef rw.row.name = some (d.params, d.body, d.scope)) (hk : kwWritten? d.params.kwonlyargs d.params.kw_defaults = some kwd)
    (call : WalkO vw [] (XL vw []) HK.says rw.row.toRowW d kwd fun f vs => PySem.call f vs) : rw.Holds :=
  holds_law said fun said' =>
    holds_open (q := vw) (loose := []) (Xt := Xt) (XP := XL vw []) (Yf := HK.obs) (Ya := HK.val) (YP := HK.says) (N := NN) left HK.of HK.keeps (fun s e => xl_of s (Bool.and_eq_true_iff.mp e).1) XL.keeps hdef hp hk
      (fun s e => recFacts_of (Bool.and_eq_true_iff.mp e).2) (by rfl) said' (by decide +kernel) ⟨rfl, rfl, rfl, rfl, rfl, by decide +kernel⟩ (by w_witness2) call
end
end Hd
end Mine


end
noncomputable section
set_option autoImplicit false
namespace Mine
open PySem PySem.W PyProof.Rows PySem.Calls

noncomputable def csX : List String := ["NoVersion", "SameVersion"]
noncomputable def ksX : List String := ["RoadError", "NoPath", "NoFile", "InTheWay", "NoClash", "Clashed", "NoVersion", "SameVersion"]
noncomputable def ALS : Str := Str.ofString "abcdefghijklmnopqrstuvwxyzABCDEFGHIJKLMNOPQRSTUVWXYZ0123456789.-_"
noncomputable def okPart (x : Str) : Bool := decide (x ≠ Str.ofString "." ∧ x ≠ Str.ofString ".." ∧ 1 ≤ x.length ∧ x.length ≤ 12) && (cl x).all fun c => Txt.contains ALS ⟨#[c]⟩
noncomputable def okPath (x : Str) : Bool := decide ((Txt.split x (Str.ofString "/")).length ≤ 8) && (Txt.split x (Str.ofString "/")).all okPart
noncomputable def keysOf (kvs : List (Str × V)) : List Str := kvs.map (·.1)
noncomputable def isFree (ks : List Str) (x : Str) : Bool := ks.all fun y => !(Txt.startswith y (x ++ Str.ofString "/") || Txt.startswith x (y ++ Str.ofString "/"))
/-- a tree of the book -/
structure Tr (kvs : List (Str × V)) : Prop where
  len : kvs.length ≤ 1000
  key : ∀ q ∈ kvs, q.1.length ≤ 300
  val : ∀ q ∈ kvs, ∃ y, q.2 = .str y
  nodup : (kvs.map (·.1)).Nodup
noncomputable def putV (q : Str × Str) : V := .tup [.str (Str.ofString "put"), .str q.1, .str q.2]
noncomputable def puts (kvs : List (Str × V)) : List (Str × Str) → List (Str × V)
  | [] => kvs
  | q :: r => puts (vstored kvs q.1 (.str q.2)) r
noncomputable def PutsOk (kvs : List (Str × V)) : List (Str × Str) → Prop
  | [] => Tr kvs
  | q :: r => Tr kvs ∧ okPath q.1 = true ∧ q.1.length ≤ 100 ∧ isFree (keysOf kvs) q.1 = true ∧ PutsOk (vstored kvs q.1 (.str q.2)) r
/-- all but some addresses stay -/
noncomputable def Keep (S : List Addr) (σ σ' : View) : Prop := ∀ b o, σ b = some o → b ∉ S → σ' b = some o
noncomputable def madeV (ps : List (List Int)) : List V := ps.map fun p => .tup (p.map .int)
/-- a book in the view -/
structure BookAt (σ : View) (b t mo : Addr) (ads : List Addr) (ts : List (List (Str × V))) (ps : List (List Int)) : Prop where
  obj : ∃ dx, σ b = some (.inst dx) ∧ σ dx = some (.ns [("made_of", .ref mo), ("trees", .ref t)])
  tr : σ t = some (.list (ads.map .ref))
  md : σ mo = some (.list (madeV ps))
  ne : t ≠ mo
  len : ads.length = ts.length
  lenP : ps.length = ts.length
  at_ : ∀ (i : Nat) d, ads[i]? = some d → ∃ kvs ep, ts[i]? = some kvs ∧ σ d = some (.dict kvs ep)
  few : ts.length ≤ 50
  tree : ∀ kvs ∈ ts, Tr kvs
  ord : ∀ (k : Nat) l, ps[k]? = some l → l.length ≤ 2 ∧ ∀ p ∈ l, 0 ≤ p ∧ p < (k : Int)
/-- x is n, or an elder of it -/
inductive Anc (ps : List (List Int)) : Int → Int → Prop
  | self (n : Int) : Anc ps n n
  | up {n p x : Int} {l : List Int} : ps[n.toNat]? = some l → p ∈ l → Anc ps p x → Anc ps n x
noncomputable def Bad (n : Nat) : V → Prop
  | .bool _ => True
  | .int i => ¬ (0 ≤ i ∧ i < (n : Int))
  | _ => False

inductive sp_is_part (ns : List Int) (vs : List V) (σ : View) (Q : V → View → Prop) : Prop
  | mk (x : _) (h1 : vs = [.str x]) (h2 : x.length ≤ 1000) (h3 : Q (.bool (okPart x)) σ) : sp_is_part ns vs σ Q
inductive sp_is_path (ns : List Int) (vs : List V) (σ : View) (Q : V → View → Prop) : Prop
  | mk (x : _) (h1 : vs = [.str x]) (h2 : x.length ≤ 1000) (h3 : ∀ σ', Grow σ σ' → Q (.bool (okPath x)) σ') : sp_is_path ns vs σ Q
inductive sp_is_beneath (ns : List Int) (vs : List V) (σ : View) (Q : V → View → Prop) : Prop
  | mk (x : _) (y : _) (h1 : vs = [.str x, .str y]) (h2 : y.length ≤ 1000) (h3 : Q (.bool (Txt.startswith x (y ++ Str.ofString "/"))) σ) : sp_is_beneath ns vs σ Q
inductive sp_done (ns : List Int) (vs : List V) (σ : View) (Q : V → View → Prop) : Prop
  | mk (a : _) (kvs : _) (ep : _) (q : _) (h1 : vs = [.ref a, putV q]) (h2 : σ a = some (.dict kvs ep)) (h3 : Tr kvs) (h4 : okPath q.1 = true) (h5 : q.1.length ≤ 100) (h6 : isFree (keysOf kvs) q.1 = true) (h7 : ∀ b ep' σ', Grow σ σ' → σ b = Option.none → σ' b = some (.dict (vstored kvs q.1 (.str q.2)) ep') → Q (.ref b) σ') : sp_done ns vs σ Q
inductive sp_changed (ns : List Int) (vs : List V) (σ : View) (Q : V → View → Prop) : Prop
  | mk (a : _) (L : _) (kvs : _) (ep : _) (dl : _) (h1 : vs = [.ref a, .ref L]) (h2 : σ a = some (.dict kvs ep)) (h3 : σ L = some (.list (dl.map putV))) (h4 : PutsOk kvs dl) (h5 : ∀ b ep' σ', Grow σ σ' → σ b = Option.none → σ' b = some (.dict (puts kvs dl) ep') → Q (.ref b) σ') : sp_changed ns vs σ Q
inductive sp___init__ (ns : List Int) (vs : List V) (σ : View) (Q : V → View → Prop) : Prop
  | mk (a : _) (dx : _) (h1 : vs = [.ref a]) (h2 : σ a = some (.inst dx)) (h3 : σ dx = some (.ns [])) (h4 : ∀ t mo d0 ep σ', Keep [dx] σ σ' → σ' dx = some (.ns [("made_of", .ref mo), ("trees", .ref t)]) → σ' t = some (.list [.ref d0]) → σ' mo = some (.list [.tup []]) → σ' d0 = some (.dict [] ep) → t ≠ mo → σ t = Option.none → σ mo = Option.none → σ d0 = Option.none → Q .none σ') : sp___init__ ns vs σ Q
inductive sp_need (ns : List Int) (vs : List V) (σ : View) (Q : V → View → Prop) : Prop
  | mk (b : _) (t : _) (mo : _) (ads : _) (ts : _) (ps : _) (n : _) (h1 : vs = [.ref b, .int n]) (h2 : BookAt σ b t mo ads ts ps) (h3 : 0 ≤ n) (h4 : n < ts.length) (h5 : Q .none σ) : sp_need ns vs σ Q
inductive spX_need (ns : List Int) (vs : List V) (σ : View) (Q : V → View → Prop) (X : String → View → Prop) : Prop
  | mk (b : _) (t : _) (mo : _) (ads : _) (ts : _) (ps : _) (v : _) (h1 : vs = [.ref b, v]) (h2 : BookAt σ b t mo ads ts ps) (h3 : ((∃ n, v = .int n ∧ 0 ≤ n ∧ n < ts.length ∧ Q .none σ) ∨ (Bad ts.length v ∧ X "NoVersion" σ))) : spX_need ns vs σ Q X
inductive sp_many (ns : List Int) (vs : List V) (σ : View) (Q : V → View → Prop) : Prop
  | mk (b : _) (t : _) (mo : _) (ads : _) (ts : _) (ps : _) (h1 : vs = [.ref b]) (h2 : BookAt σ b t mo ads ts ps) (h3 : Q (.int ts.length) σ) : sp_many ns vs σ Q
inductive sp_tree (ns : List Int) (vs : List V) (σ : View) (Q : V → View → Prop) : Prop
  | mk (b : _) (t : _) (mo : _) (ads : _) (ts : _) (ps : _) (n : _) (kvs : _) (h1 : vs = [.ref b, .int n]) (h2 : BookAt σ b t mo ads ts ps) (h3 : 0 ≤ n) (h4 : ts[n.toNat]? = some kvs) (h5 : ∀ a ep, σ a = Option.none → Q (.ref a) (upd σ a (.dict kvs ep))) : sp_tree ns vs σ Q
inductive spX_tree (ns : List Int) (vs : List V) (σ : View) (c9 : V → View → Prop) (X : String → View → Prop) : Prop
  | mk (b : _) (t : _) (mo : _) (ads : _) (ts : _) (ps : _) (v : _) (h1 : vs = [.ref b, v]) (h2 : BookAt σ b t mo ads ts ps) (h3 : Bad ts.length v) (h4 : X "NoVersion" σ) : spX_tree ns vs σ c9 X
inductive sp_parents (ns : List Int) (vs : List V) (σ : View) (Q : V → View → Prop) : Prop
  | mk (b : _) (t : _) (mo : _) (ads : _) (ts : _) (ps : _) (n : _) (l : _) (h1 : vs = [.ref b, .int n]) (h2 : BookAt σ b t mo ads ts ps) (h3 : 0 ≤ n) (h4 : ps[n.toNat]? = some l) (h5 : Q (.tup (l.map .int)) σ) : sp_parents ns vs σ Q
noncomputable def spX_parents (_ns : List Int) : SpecX := spX_tree _ns
inductive sp_put_down (ns : List Int) (vs : List V) (σ : View) (Q : V → View → Prop) : Prop
  | mk (b : _) (t : _) (mo : _) (ads : _) (ts : _) (ps : _) (d : _) (kvs : _) (ep : _) (l : _) (h1 : vs = [.ref b, .ref d, .tup (l.map .int)]) (h2 : BookAt σ b t mo ads ts ps) (h3 : σ d = some (.dict kvs ep)) (h4 : Tr kvs) (h5 : ts.length < 50) (h6 : l.length ≤ 2) (h7 : (∀ p ∈ l, 0 ≤ p ∧ p < (ts.length : Int))) (h8 : ∀ σ', Keep [t, mo] σ σ' → BookAt σ' b t mo (ads ++ [d]) (ts ++ [kvs]) (ps ++ [l]) → Q (.int ts.length) σ') : sp_put_down ns vs σ Q
inductive sp_grow (ns : List Int) (vs : List V) (σ : View) (Q : V → View → Prop) : Prop
  | mk (b : _) (t : _) (mo : _) (ads : _) (ts : _) (ps : _) (n : _) (L : _) (dl : _) (kvs : _) (h1 : vs = [.ref b, .int n, .ref L]) (h2 : BookAt σ b t mo ads ts ps) (h3 : 0 ≤ n) (h4 : ts[n.toNat]? = some kvs) (h5 : σ L = some (.list (dl.map putV))) (h6 : PutsOk kvs dl) (h7 : Tr (puts kvs dl)) (h8 : ts.length < 50) (h9 : ∀ d σ', Keep [t, mo] σ σ' → σ d = Option.none → BookAt σ' b t mo (ads ++ [d]) (ts ++ [puts kvs dl]) (ps ++ [[n]]) → Q (.int ts.length) σ') : sp_grow ns vs σ Q
inductive spX_grow (ns : List Int) (vs : List V) (σ : View) (c9 : V → View → Prop) (X : String → View → Prop) : Prop
  | mk (b : _) (t : _) (mo : _) (ads : _) (ts : _) (ps : _) (v : _) (u : _) (h1 : vs = [.ref b, v, u]) (h2 : BookAt σ b t mo ads ts ps) (h3 : Bad ts.length v) (h4 : X "NoVersion" σ) : spX_grow ns vs σ c9 X
inductive spX_merge (ns : List Int) (vs : List V) (σ : View) (c9 : V → View → Prop) (X : String → View → Prop) : Prop
  | mk (b : _) (t : _) (mo : _) (ads : _) (ts : _) (ps : _) (v : _) (u : _) (pk : _) (h1 : vs = [.ref b, v, u, pk]) (h2 : BookAt σ b t mo ads ts ps) (h3 : ((Bad ts.length v ∧ X "NoVersion" σ) ∨ (∃ n, v = .int n ∧ 0 ≤ n ∧ n < ts.length ∧ ((Bad ts.length u ∧ X "NoVersion" σ) ∨ (u = .int n ∧ X "SameVersion" σ))))) : spX_merge ns vs σ c9 X
inductive sp_elders (ns : List Int) (vs : List V) (σ : View) (Q : V → View → Prop) : Prop
  | mk (b : _) (t : _) (mo : _) (ads : _) (ts : _) (ps : _) (n : _) (h1 : vs = [.ref b, .int n]) (h2 : BookAt σ b t mo ads ts ps) (h3 : 0 ≤ n) (h4 : n < ts.length) (h5 : ∀ a (xs : List Int) σ', Grow σ σ' → σ a = Option.none → σ' a = some (.list (xs.map .int)) → xs.Pairwise (· < ·) → (∀ x, x ∈ xs ↔ Anc ps n x) → Q (.ref a) σ') : sp_elders ns vs σ Q
inductive spX_elders (ns : List Int) (vs : List V) (σ : View) (Q : V → View → Prop) (X : String → View → Prop) : Prop
  | mk (b : _) (t : _) (mo : _) (ads : _) (ts : _) (ps : _) (v : _) (h1 : vs = [.ref b, v]) (h2 : BookAt σ b t mo ads ts ps) (h3 : ((∃ n, v = .int n ∧ sp_elders ns [.ref b, .int n] σ Q) ∨ (Bad ts.length v ∧ X "NoVersion" σ))) : spX_elders ns vs σ Q X
inductive sp_nearest (ns : List Int) (vs : List V) (σ : View) (Q : V → View → Prop) : Prop
  | mk (b : _) (t : _) (mo : _) (ads : _) (ts : _) (ps : _) (n : _) (m : _) (h1 : vs = [.ref b, .int n, .int m]) (h2 : BookAt σ b t mo ads ts ps) (h3 : 0 ≤ n) (h4 : n < ts.length) (h5 : 0 ≤ m) (h6 : m < ts.length) (h7 : (∃ z, Anc ps n z ∧ Anc ps m z)) (h8 : ∀ M σ', Grow σ σ' → Anc ps n M → Anc ps m M → (∀ z, Anc ps n z → Anc ps m z → z ≤ M) → Q (.int M) σ') : sp_nearest ns vs σ Q
inductive spX_nearest (ns : List Int) (vs : List V) (σ : View) (c9 : V → View → Prop) (X : String → View → Prop) : Prop
  | mk (b : _) (t : _) (mo : _) (ads : _) (ts : _) (ps : _) (v : _) (u : _) (h1 : vs = [.ref b, v, u]) (h2 : BookAt σ b t mo ads ts ps) (h3 : (Bad ts.length v ∨ (∃ n, v = .int n ∧ 0 ≤ n ∧ n < ts.length ∧ Bad ts.length u))) (h4 : ∀ σ', Grow σ σ' → X "NoVersion" σ') : spX_nearest ns vs σ c9 X
inductive sp_road (ns : List Int) (vs : List V) (σ : View) (Q : V → View → Prop) : Prop
  | mk (b : _) (t : _) (mo : _) (ads : _) (ts : _) (ps : _) (e : _) (n : _) (h1 : vs = [.ref b, .int e, .int n]) (h2 : BookAt σ b t mo ads ts ps) (h3 : 0 ≤ e) (h4 : e < ts.length) (h5 : 0 ≤ n) (h6 : n < ts.length) (h7 : ((n < e ∧ ∀ σ', Grow σ σ' → Q .none σ') ∨ (e < n ∧ ps[n.toNat]? = some [e] ∧ newG [.int e, .int n] σ Q))) : sp_road ns vs σ Q
inductive spX_road (ns : List Int) (vs : List V) (σ : View) (c9 : V → View → Prop) (X : String → View → Prop) : Prop
  | mk (b : _) (t : _) (mo : _) (ads : _) (ts : _) (ps : _) (v : _) (u : _) (h1 : vs = [.ref b, v, u]) (h2 : BookAt σ b t mo ads ts ps) (h3 : (Bad ts.length v ∨ (∃ n, v = .int n ∧ 0 ≤ n ∧ n < ts.length ∧ Bad ts.length u))) (h4 : X "NoVersion" σ) : spX_road ns vs σ c9 X
/-- the text at x in version i -/
noncomputable def txt (ts : List (List (Str × V))) (i : Int) (x : Str) : V := ((ts[i.toNat]?).bind fun kvs => vget kvs x).getD .none
noncomputable def toldBy (ts : List (List (Str × V))) (ps : List (List Int)) (x : Str) (i : Int) : Prop := ∃ l, ps[i.toNat]? = some l ∧ l ≠ [] ∧ ∀ p ∈ l, txt ts p x ≠ txt ts i x
inductive sp_story (ns : List Int) (vs : List V) (σ : View) (Q : V → View → Prop) : Prop
  | mk (b : _) (t : _) (mo : _) (ads : _) (ts : _) (ps : _) (n : _) (x : _) (h1 : vs = [.ref b, .int n, .str x]) (h2 : BookAt σ b t mo ads ts ps) (h3 : 0 ≤ n) (h4 : n < ts.length) (h5 : ∀ a (xs : List Int) σ', Grow σ σ' → σ a = Option.none → σ' a = some (.list (xs.map .int)) → xs.Pairwise (· < ·) → (∀ i, i ∈ xs ↔ Anc ps n i ∧ toldBy ts ps x i) → Q (.ref a) σ') : sp_story ns vs σ Q
inductive spX_story (ns : List Int) (vs : List V) (σ : View) (c9 : V → View → Prop) (X : String → View → Prop) : Prop
  | mk (b : _) (t : _) (mo : _) (ads : _) (ts : _) (ps : _) (v : _) (u : _) (h1 : vs = [.ref b, v, u]) (h2 : BookAt σ b t mo ads ts ps) (h3 : Bad ts.length v) (h4 : ∀ σ', Grow σ σ' → X "NoVersion" σ') : spX_story ns vs σ c9 X
inductive sp__law_cell_at (ns : List Int) (vs : List V) (σ : View) (Q : V → View → Prop) : Prop
  | mk (k : _) (h1 : vs = [.script, .int k]) (h2 : 0 ≤ k) (h3 : Q (.int (cell ns k)) σ) : sp__law_cell_at ns vs σ Q
noncomputable def wordOf (w : Int) : String := if w > 11 then "SameVersion" else "NoVersion"
inductive sp__law_asked (ns : List Int) (vs : List V) (σ : View) (c9 : V → View → Prop) (X : String → View → Prop) : Prop
  | mk (b : _) (t : _) (mo : _) (ads : _) (ts : _) (ps : _) (w : _) (v : _) (g : _) (h1 : vs = [.ref b, .int w, v, .int g]) (h2 : BookAt σ b t mo ads ts ps) (h3 : 0 ≤ w) (h4 : w < 14) (h5 : Bad ts.length v) (h6 : 0 ≤ g) (h7 : g < ts.length) (h8 : ∀ σ', Grow σ σ' → X (wordOf w) σ') : sp__law_asked ns vs σ c9 X
inductive sp__law_told (ns : List Int) (vs : List V) (σ : View) (Q : V → View → Prop) (d9 : String → View → Prop) : Prop
  | mk (b : _) (t : _) (mo : _) (ads : _) (ts : _) (ps : _) (w : _) (v : _) (g : _) (h1 : vs = [.ref b, .int w, v, .int g]) (h2 : BookAt σ b t mo ads ts ps) (h3 : 0 ≤ w) (h4 : w < 14) (h5 : Bad ts.length v) (h6 : 0 ≤ g) (h7 : g < ts.length) (h8 : ∀ σ', Grow σ σ' → Q (.str (Str.ofString (wordOf w))) σ') : sp__law_told ns vs σ Q d9
/-- the trees of the law's book -/
structure Vs (ts : List (List (Str × V))) : Prop where
  key : ∀ kvs ∈ ts, ∀ q ∈ kvs, ∃ k : Nat, 1 ≤ k ∧ k < 6 ∧ q.1 = Str.ofString "v" ++ Str.ofString ((k : Int).repr)
  len : ∀ (i : Nat) kvs, ts[i]? = some kvs → kvs.length ≤ i
inductive sp__law_there_then (ns : List Int) (vs : List V) (σ : View) (Q : V → View → Prop) : Prop
  | mk (b : _) (t : _) (mo : _) (ads : _) (ts : _) (ps : _) (g : _) (h1 : vs = [.ref b, .int ts.length, .int g]) (h2 : BookAt σ b t mo ads ts ps) (h3 : Vs ts) (h4 : ts.length ≤ 6) (h5 : 0 ≤ g) (h6 : g < ts.length) (h7 : ∀ σ', Q (.bool true) σ') : sp__law_there_then ns vs σ Q
noncomputable def sp_law (_ns : List Int) : SpecX := spLawX
end Mine



end
noncomputable section
set_option autoImplicit false
set_option maxRecDepth 100000
set_option maxHeartbeats 4000000
set_option linter.unusedVariables false
namespace Mine
open PySem PySem.W PyProof.Rows PySem.Calls

theorem ol_trees : objLooks "trees" := by unfold objLooks; rw [typeLookup_type, builtinLookup_eq_fast]; kernel_rfl
theorem ol_made_of : objLooks "made_of" := by unfold objLooks; rw [typeLookup_type, builtinLookup_eq_fast]; kernel_rfl
theorem ol_need : objLooks "need" := by unfold objLooks; rw [typeLookup_type, builtinLookup_eq_fast]; kernel_rfl
theorem ol_many : objLooks "many" := by unfold objLooks; rw [typeLookup_type, builtinLookup_eq_fast]; kernel_rfl
theorem ol_tree : objLooks "tree" := by unfold objLooks; rw [typeLookup_type, builtinLookup_eq_fast]; kernel_rfl
theorem ol_parents : objLooks "parents" := by unfold objLooks; rw [typeLookup_type, builtinLookup_eq_fast]; kernel_rfl
theorem ol_put_down : objLooks "put_down" := by unfold objLooks; rw [typeLookup_type, builtinLookup_eq_fast]; kernel_rfl
theorem ol_grow : objLooks "grow" := by unfold objLooks; rw [typeLookup_type, builtinLookup_eq_fast]; kernel_rfl
theorem ol_merge : objLooks "merge" := by unfold objLooks; rw [typeLookup_type, builtinLookup_eq_fast]; kernel_rfl
theorem ol_elders : objLooks "elders" := by unfold objLooks; rw [typeLookup_type, builtinLookup_eq_fast]; kernel_rfl
theorem ol_nearest : objLooks "nearest" := by unfold objLooks; rw [typeLookup_type, builtinLookup_eq_fast]; kernel_rfl
theorem ol_road : objLooks "road" := by unfold objLooks; rw [typeLookup_type, builtinLookup_eq_fast]; kernel_rfl
theorem ol_story : objLooks "story" := by unfold objLooks; rw [typeLookup_type, builtinLookup_eq_fast]; kernel_rfl
noncomputable def T_is_part_1 (ns : List Int) : ST :=
  (sIf (tOr (tBool (eBin opEq0 (eName "text") (eVal (.str (Str.ofString "."))))) (tOr (tBool (eBin opEq0 (eName "text") (eVal (.str (Str.ofString ".."))))) (tOr (tNot (tCmp2 opLe opLe (eVal (.int 1)) (eCall (spLen ns) (lCons (eName "text") lNil)) (eVal (.int 12)))) tF))) (sSeq (sRet (eVal (.bool false)))
  sNil) sNil)
noncomputable def T_is_part_2 (ns : List Int) : ST :=
  (sFor (.name "sign") (iOf ns (eName "text")) (sSeq (sIf (tBool (eBin opNotInS (eName "sign") (eVal (.str (Str.ofString "abcdefghijklmnopqrstuvwxyzABCDEFGHIJKLMNOPQRSTUVWXYZ0123456789.-_"))))) (sSeq (sRet (eVal (.bool false)))
  sNil) sNil)
  sNil))
noncomputable def T_is_part_3 (ns : List Int) : ST :=
  (sRet (eVal (.bool true)))
noncomputable def T_is_part (ns : List Int) : ST := (sSeq (T_is_part_1 ns) (sSeq (T_is_part_2 ns) (sSeq (T_is_part_3 ns) sNil)))
theorem b_is_part {C : Cx} (G : Gl C Hd.vw) (hz : C.held = none) (g_LONGEST_PART : GInt C "LONGEST_PART" 12) (g_SIGNS : GStr C "SIGNS" (Str.ofString "abcdefghijklmnopqrstuvwxyzABCDEFGHIJKLMNOPQRSTUVWXYZ0123456789.-_"))  : HS C (scopeAt Hd.vw 11) 0 (bodyAt Hd.vw 11) (T_is_part C.ns) :=
  (HS.cons (HS1.ite (HB.boolOp (HBs.or (HB.cmp ok_eq0 (HE.name rfl rfl) HE.str rfl) (HBs.or (HB.cmp ok_eq0 (HE.name rfl rfl) HE.str rfl) (HBs.or (HB.not (HB.cmp2 ok_le ok_le HE.int (HE.len G rfl (HL.cons (HE.name rfl rfl) HL.nil rfl) rfl) (HE.gint G.ok rfl g_LONGEST_PART rfl) rfl)) HBs.orNil)))) (HS.cons (HS1.ret HE.bool)
  HS.nil) HS.nil)
  (HS.cons (HS1.for (HT.name rfl) (HI.of G.ok hz (HE.name rfl rfl)) (HS.cons (HS1.ite (HB.cmp ok_notInS (HE.name rfl rfl) (HE.gstr G.ok rfl g_SIGNS rfl) rfl) (HS.cons (HS1.ret HE.bool)
  HS.nil) HS.nil)
  HS.nil) (fun _ _ => rfl))
  (HS.cons (HS1.ret HE.bool)
  HS.nil)))
theorem f_is_part {C : Cx} (G : Gl C Hd.vw) (hz : C.held = none) (g_LONGEST_PART : GInt C "LONGEST_PART" 12) (g_SIGNS : GStr C "SIGNS" (Str.ofString "abcdefghijklmnopqrstuvwxyzABCDEFGHIJKLMNOPQRSTUVWXYZ0123456789.-_"))  (hspec : ∀ vs σ Q, sp_is_part C.ns vs σ Q → vs.length = 1 ∧ T_is_part C.ns (bindM ["text"] vs none') σ (fin Q)) : FnAt C 0 "is_part" (sp_is_part C.ns) :=
  FnAt.mk (xs := ["text"]) G 0 11 rfl rfl rfl rfl rfl (fun ws pm code doc h => by
    obtain ⟨w0, rfl⟩ := len1 h
    rfl) rfl (b_is_part G hz g_LONGEST_PART g_SIGNS ) hspec
noncomputable def T_is_path_1 (ns : List Int) : ST :=
  (sSet "parts" (eMeth tyStr spSplit (eName "text") (lCons (eVal (.str (Str.ofString "/"))) lNil)))
noncomputable def T_is_path_2 (ns : List Int) : ST :=
  (sIf (tBool (eBin opGt (eCall (spLen ns) (lCons (eName "parts") lNil)) (eVal (.int 8)))) (sSeq (sRet (eVal (.bool false)))
  sNil) sNil)
noncomputable def T_is_path_3 (ns : List Int) : ST :=
  (sFor (.name "part") (iOf ns (eName "parts")) (sSeq (sIf (tNot (tBool (eCall (sp_is_part ns) (lCons (eName "part") lNil)))) (sSeq (sRet (eVal (.bool false)))
  sNil) sNil)
  sNil))
noncomputable def T_is_path_4 (ns : List Int) : ST :=
  (sRet (eVal (.bool true)))
noncomputable def T_is_path (ns : List Int) : ST := (sSeq (T_is_path_1 ns) (sSeq (T_is_path_2 ns) (sSeq (T_is_path_3 ns) (sSeq (T_is_path_4 ns) sNil))))
theorem b_is_path {C : Cx} (G : Gl C Hd.vw) (hz : C.held = none) (g_MOST_PARTS : GInt C "MOST_PARTS" 8) (h_is_part : FnAt C 0 "is_part" (sp_is_part C.ns)) : HS C (scopeAt Hd.vw 12) 1 (bodyAt Hd.vw 12) (T_is_path C.ns) :=
  (HS.cons (HS1.set (.inl rfl) (HE.split (HE.name rfl rfl) (HL.cons HE.str HL.nil rfl) rfl (fun _ => rfl) rfl (by decide)) (fun _ _ => rfl))
  (HS.cons (HS1.ite (HB.cmp ok_gt (HE.len G rfl (HL.cons (HE.name rfl rfl) HL.nil rfl) rfl) (HE.gint G.ok rfl g_MOST_PARTS rfl) rfl) (HS.cons (HS1.ret HE.bool)
  HS.nil) HS.nil)
  (HS.cons (HS1.for (HT.name rfl) (HI.of G.ok hz (HE.name rfl rfl)) (HS.cons (HS1.ite (HB.not (HB.val (HE.callAt G h_is_part (by decide) rfl rfl (HL.cons (HE.name rfl rfl) HL.nil rfl) rfl) (fun _ _ => rfl))) (HS.cons (HS1.ret HE.bool)
  HS.nil) HS.nil)
  HS.nil) (fun _ _ => rfl))
  (HS.cons (HS1.ret HE.bool)
  HS.nil))))
theorem f_is_path {C : Cx} (G : Gl C Hd.vw) (hz : C.held = none) (g_MOST_PARTS : GInt C "MOST_PARTS" 8) (h_is_part : FnAt C 0 "is_part" (sp_is_part C.ns)) (hspec : ∀ vs σ Q, sp_is_path C.ns vs σ Q → vs.length = 1 ∧ T_is_path C.ns (bindM ["text"] vs none') σ (fin Q)) : FnAt C 1 "is_path" (sp_is_path C.ns) :=
  FnAt.mk (xs := ["text"]) G 1 12 rfl rfl rfl rfl rfl (fun ws pm code doc h => by
    obtain ⟨w0, rfl⟩ := len1 h
    rfl) rfl (b_is_path G hz g_MOST_PARTS h_is_part) hspec
noncomputable def T_is_beneath_1 (ns : List Int) : ST :=
  (sRet (eMeth tyStr spStarts (eName "path") (lCons (eBin opAdd (eName "upper") (eVal (.str (Str.ofString "/")))) lNil)))
noncomputable def T_is_beneath (ns : List Int) : ST := (sSeq (T_is_beneath_1 ns) sNil)
theorem b_is_beneath {C : Cx} (G : Gl C Hd.vw) (hz : C.held = none)   : HS C (scopeAt Hd.vw 14) 0 (bodyAt Hd.vw 14) (T_is_beneath C.ns) :=
  (HS.cons (HS1.ret (HE.starts (HE.name rfl rfl) (HL.cons (HE.bin ok_add (HE.name rfl rfl) HE.str) HL.nil rfl) rfl (fun _ => rfl) rfl (by decide)))
  HS.nil)
theorem f_is_beneath {C : Cx} (G : Gl C Hd.vw) (hz : C.held = none)   (hspec : ∀ vs σ Q, sp_is_beneath C.ns vs σ Q → vs.length = 2 ∧ T_is_beneath C.ns (bindM ["path", "upper"] vs none') σ (fin Q)) : FnAt C 0 "is_beneath" (sp_is_beneath C.ns) :=
  FnAt.mk (xs := ["path", "upper"]) G 3 14 rfl rfl rfl rfl rfl (fun ws pm code doc h => by
    obtain ⟨w0, w1, rfl⟩ := len2 h
    rfl) rfl (b_is_beneath G hz  ) hspec
noncomputable def T_done_1 (ns : List Int) : ST :=
  (sSet "path" (eBin (opItem ns) (eName "deed") (eVal (.int 1))))
noncomputable def T_done_2 (ns : List Int) : ST :=
  (sIf (tNot (tBool (eCall (sp_is_path ns) (lCons (eName "path") lNil)))) (sSeq sNever
  sNil) sNil)
noncomputable def T_done_3 (ns : List Int) : ST :=
  (sSet "fresh" (eCall spDictC (lCons (eName "tree") lNil)))
noncomputable def T_done_4 (ns : List Int) : ST :=
  (sIf (tBool (eBin opEq0 (eBin (opItem ns) (eName "deed") (eVal (.int 0))) (eVal (.str (Str.ofString "cut"))))) (sSeq (sIf (tBool (eBin opNotInD (eName "path") (eName "fresh"))) (sSeq sNever
  sNil) sNil)
  (sSeq (sExpr (eMeth tyDict spPop (eName "fresh") (lCons (eName "path") lNil)))
  (sSeq (sRet (eName "fresh"))
  sNil))) sNil)
noncomputable def T_done_5 (ns : List Int) : ST :=
  (sFor (.name "other") (iOf ns (eName "tree")) (sSeq (sIf (tOr (tBool (eCall (sp_is_beneath ns) (lCons (eName "path") (lCons (eName "other") lNil)))) (tOr (tBool (eCall (sp_is_beneath ns) (lCons (eName "other") (lCons (eName "path") lNil)))) tF)) (sSeq sNever
  sNil) sNil)
  sNil))
noncomputable def T_done_6 (ns : List Int) : ST :=
  (sSetItem setD (eBin (opItem ns) (eName "deed") (eVal (.int 2))) (eName "fresh") (eName "path"))
noncomputable def T_done_7 (ns : List Int) : ST :=
  (sRet (eName "fresh"))
noncomputable def T_done (ns : List Int) : ST := (sSeq (T_done_1 ns) (sSeq (T_done_2 ns) (sSeq (T_done_3 ns) (sSeq (T_done_4 ns) (sSeq (T_done_5 ns) (sSeq (T_done_6 ns) (sSeq (T_done_7 ns) sNil)))))))
theorem b_done {C : Cx} (G : Gl C Hd.vw) (hz : C.held = none)  (h_is_path : FnAt C 1 "is_path" (sp_is_path C.ns)) (h_is_beneath : FnAt C 0 "is_beneath" (sp_is_beneath C.ns)) : HS C (scopeAt Hd.vw 21) 2 (bodyAt Hd.vw 21) (T_done C.ns) :=
  (HS.cons (HS1.set (.inl rfl) (HE.item G (HE.name rfl rfl) HE.int rfl) (fun _ _ => rfl))
  (HS.cons (HS1.ite (HB.not (HB.val (HE.callAt G h_is_path (by decide) rfl rfl (HL.cons (HE.name rfl rfl) HL.nil rfl) rfl) (fun _ _ => rfl))) (HS.cons HS1.never
  HS.nil) HS.nil)
  (HS.cons (HS1.set (.inl rfl) (HE.dictC G rfl (HL.cons (HE.name rfl rfl) HL.nil rfl) rfl) (fun _ _ => rfl))
  (HS.cons (HS1.ite (HB.cmp ok_eq0 (HE.item G (HE.name rfl rfl) HE.int rfl) HE.str rfl) (HS.cons (HS1.ite (HB.cmp (ok_notInD G.ok) (HE.name rfl rfl) (HE.name rfl rfl) rfl) (HS.cons HS1.never
  HS.nil) HS.nil)
  (HS.cons (HS1.expr (HE.popD (HE.name rfl rfl) (HL.cons (HE.name rfl rfl) HL.nil rfl) rfl (fun _ => rfl) rfl (by decide)) (fun _ _ => rfl))
  (HS.cons (HS1.ret (HE.name rfl rfl))
  HS.nil))) HS.nil)
  (HS.cons (HS1.for (HT.name rfl) (HI.of G.ok hz (HE.name rfl rfl)) (HS.cons (HS1.ite (HB.boolOp (HBs.or (HB.val (HE.callAt G h_is_beneath (by decide) rfl rfl (HL.cons (HE.name rfl rfl) (HL.cons (HE.name rfl rfl) HL.nil rfl) rfl) rfl) (fun _ _ => rfl)) (HBs.or (HB.val (HE.callAt G h_is_beneath (by decide) rfl rfl (HL.cons (HE.name rfl rfl) (HL.cons (HE.name rfl rfl) HL.nil rfl) rfl) rfl) (fun _ _ => rfl)) HBs.orNil))) (HS.cons HS1.never
  HS.nil) HS.nil)
  HS.nil) (fun _ _ => rfl))
  (HS.cons (HS1.setItem ok_setD (HE.item G (HE.name rfl rfl) HE.int rfl) (HE.name rfl rfl) (HE.name rfl rfl) (fun _ _ => rfl))
  (HS.cons (HS1.ret (HE.name rfl rfl))
  HS.nil)))))))
theorem f_done {C : Cx} (G : Gl C Hd.vw) (hz : C.held = none)  (h_is_path : FnAt C 1 "is_path" (sp_is_path C.ns)) (h_is_beneath : FnAt C 0 "is_beneath" (sp_is_beneath C.ns)) (hspec : ∀ vs σ Q, sp_done C.ns vs σ Q → vs.length = 2 ∧ T_done C.ns (bindM ["tree", "deed"] vs none') σ (fin Q)) : FnAt C 2 "done" (sp_done C.ns) :=
  FnAt.mk (xs := ["tree", "deed"]) G 10 21 rfl rfl rfl rfl rfl (fun ws pm code doc h => by
    obtain ⟨w0, w1, rfl⟩ := len2 h
    rfl) rfl (b_done G hz  h_is_path h_is_beneath) hspec
noncomputable def T_changed_1 (ns : List Int) : ST :=
  (sSet "fresh" (eCall spDictC (lCons (eName "tree") lNil)))
noncomputable def T_changed_2 (ns : List Int) : ST :=
  (sFor (.name "deed") (iOf ns (eName "deeds")) (sSeq (sSet "fresh" (eCall (sp_done ns) (lCons (eName "fresh") (lCons (eName "deed") lNil))))
  sNil))
noncomputable def T_changed_3 (ns : List Int) : ST :=
  (sRet (eName "fresh"))
noncomputable def T_changed (ns : List Int) : ST := (sSeq (T_changed_1 ns) (sSeq (T_changed_2 ns) (sSeq (T_changed_3 ns) sNil)))
theorem b_changed {C : Cx} (G : Gl C Hd.vw) (hz : C.held = none)  (h_done : FnAt C 2 "done" (sp_done C.ns)) : HS C (scopeAt Hd.vw 22) 3 (bodyAt Hd.vw 22) (T_changed C.ns) :=
  (HS.cons (HS1.set (.inl rfl) (HE.dictC G rfl (HL.cons (HE.name rfl rfl) HL.nil rfl) rfl) (fun _ _ => rfl))
  (HS.cons (HS1.for (HT.name rfl) (HI.of G.ok hz (HE.name rfl rfl)) (HS.cons (HS1.set (.inl rfl) (HE.callAt G h_done (by decide) rfl rfl (HL.cons (HE.name rfl rfl) (HL.cons (HE.name rfl rfl) HL.nil rfl) rfl) rfl) (fun _ _ => rfl))
  HS.nil) (fun _ _ => rfl))
  (HS.cons (HS1.ret (HE.name rfl rfl))
  HS.nil)))
theorem f_changed {C : Cx} (G : Gl C Hd.vw) (hz : C.held = none)  (h_done : FnAt C 2 "done" (sp_done C.ns)) (hspec : ∀ vs σ Q, sp_changed C.ns vs σ Q → vs.length = 2 ∧ T_changed C.ns (bindM ["tree", "deeds"] vs none') σ (fin Q)) : FnAt C 3 "changed" (sp_changed C.ns) :=
  FnAt.mk (xs := ["tree", "deeds"]) G 11 22 rfl rfl rfl rfl rfl (fun ws pm code doc h => by
    obtain ⟨w0, w1, rfl⟩ := len2 h
    rfl) rfl (b_changed G hz  h_done) hspec
noncomputable def T___init___1 (ns : List Int) : ST :=
  (sSetA "trees" (eList (lCons eDict0 lNil)) (eName "self"))
noncomputable def T___init___2 (ns : List Int) : ST :=
  (sSetA "made_of" (eList (lCons (eTup lNil) lNil)) (eName "self"))
noncomputable def T___init__ (ns : List Int) : ST := (sSeq (T___init___1 ns) (sSeq (T___init___2 ns) sNil))
theorem b___init__ {C : Cx} (G : Gl C Hd.vw) (hz : C.held = none)  {bk N : Addr} {mN : Str → Option Value} (B : Bk C bk N mN)  : HS C (Hd.fS (Hd.cB Hd.TB 28) 0) 0 (Hd.fB (Hd.cB Hd.TB 28) 0) (T___init__ C.ns) :=
  (HS.cons (HS1.setA B ol_trees (B.look "trees" (by decide)) (HE.list (HL.cons HE.dict0 HL.nil rfl)) (HE.name rfl rfl) (fun _ _ => rfl))
  (HS.cons (HS1.setA B ol_made_of (B.look "made_of" (by decide)) (HE.list (HL.cons (HE.tup HL.nil) HL.nil rfl)) (HE.name rfl rfl) (fun _ _ => rfl))
  HS.nil))
theorem f___init__ {C : Cx} (G : Gl C Hd.vw) (hz : C.held = none)  {bk N : Addr} {mN : Str → Option Value} (B : Bk C bk N mN) {P : Params} (KX : (Hd.kk P).In C.hB) (hN : N = Hd.bkN)  (hspec : ∀ vs σ Q, sp___init__ C.ns vs σ Q → vs.length = 1 ∧ T___init__ C.ns (bindM ["self"] vs none') σ (fin Q)) : MtAt C mN 0 "__init__" (sp___init__ C.ns) :=
  MtAt.mk (xs := ["self"]) G.ok B KX (Hd.m___init__ P) (by subst hN; exact Hd.mn___init__ P) rfl rfl rfl rfl rfl (fun ws h => by
    obtain ⟨w0, rfl⟩ := len1 h
    rfl) rfl (b___init__ G hz  B ) hspec
noncomputable def T_need_1 (ns : List Int) : ST :=
  (sIf (tOr (tBool (eCall spIsi (lCons (eName "number") (lCons (eVal (.ty "bool")) lNil)))) (tOr (tNot (tBool (eCall spIsi (lCons (eName "number") (lCons (eVal (.ty "int")) lNil))))) (tOr (tNot (tCmp2 opLe opLt (eVal (.int 0)) (eName "number") (eCall (spLen ns) (lCons (eAttr "trees" (eName "self")) lNil)))) tF))) (sSeq sNever
  sNil) sNil)
noncomputable def T_need (ns : List Int) : ST := (sSeq (T_need_1 ns) sNil)
theorem b_need {C : Cx} (G : Gl C Hd.vw) (hz : C.held = none)  {bk N : Addr} {mN : Str → Option Value} (B : Bk C bk N mN)  : HS C (Hd.fS (Hd.cB Hd.TB 28) 1) 0 (Hd.fB (Hd.cB Hd.TB 28) 1) (T_need C.ns) :=
  (HS.cons (HS1.ite (HB.boolOp (HBs.or (HB.val (HE.isi G rfl (HL.cons (HE.name rfl rfl) (HL.cons (HE.gBool G rfl) HL.nil rfl) rfl) rfl) (fun _ _ => rfl)) (HBs.or (HB.not (HB.val (HE.isi G rfl (HL.cons (HE.name rfl rfl) (HL.cons (HE.gInt G rfl) HL.nil rfl) rfl) rfl) (fun _ _ => rfl))) (HBs.or (HB.not (HB.cmp2 ok_le ok_lt HE.int (HE.name rfl rfl) (HE.len G rfl (HL.cons (HE.attr B ol_trees (B.look "trees" (by decide)) (HE.name rfl rfl) (fun _ => rfl)) HL.nil rfl) rfl) rfl)) HBs.orNil)))) (HS.cons HS1.never
  HS.nil) HS.nil)
  HS.nil)
theorem f_need {C : Cx} (G : Gl C Hd.vw) (hz : C.held = none)  {bk N : Addr} {mN : Str → Option Value} (B : Bk C bk N mN) {P : Params} (KX : (Hd.kk P).In C.hB) (hN : N = Hd.bkN)  (hspec : ∀ vs σ Q, sp_need C.ns vs σ Q → vs.length = 2 ∧ T_need C.ns (bindM ["self", "number"] vs none') σ (fin Q)) : MtAt C mN 0 "need" (sp_need C.ns) :=
  MtAt.mk (xs := ["self", "number"]) G.ok B KX (Hd.m_need P) (by subst hN; exact Hd.mn_need P) rfl rfl rfl rfl rfl (fun ws h => by
    obtain ⟨w0, w1, rfl⟩ := len2 h
    rfl) rfl (b_need G hz  B ) hspec
noncomputable def TX_need_1 (ns : List Int) : STX :=
  (xIf (tOr (tBool (eCall spIsi (lCons (eName "number") (lCons (eVal (.ty "bool")) lNil)))) (tOr (tNot (tBool (eCall spIsi (lCons (eName "number") (lCons (eVal (.ty "int")) lNil))))) (tOr (tNot (tCmp2 opLe opLt (eVal (.int 0)) (eName "number") (eCall (spLen ns) (lCons (eAttr "trees" (eName "self")) lNil)))) tF))) (xSeq (xRaise "NoVersion")
  (xP sNil)) (xP sNil))
noncomputable def TX_need (ns : List Int) : STX := (xSeq (TX_need_1 ns) (xP sNil))
theorem bX_need {C : Cx} (G : Gl C Hd.vw) (hz : C.held = none)  {ad : String → Addr} (Tb : XTab C csX ksX ad) {bk N : Addr} {mN : Str → Option Value} (B : Bk C bk N mN)  : HSX C (Hd.fS (Hd.cB Hd.TB 28) 1) 0 (Hd.fB (Hd.cB Hd.TB 28) 1) (TX_need C.ns) :=
  (HSX.cons (HSX1.ite (HB.boolOp (HBs.or (HB.val (HE.isi G rfl (HL.cons (HE.name rfl rfl) (HL.cons (HE.gBool G rfl) HL.nil rfl) rfl) rfl) (fun _ _ => rfl)) (HBs.or (HB.not (HB.val (HE.isi G rfl (HL.cons (HE.name rfl rfl) (HL.cons (HE.gInt G rfl) HL.nil rfl) rfl) rfl) (fun _ _ => rfl))) (HBs.or (HB.not (HB.cmp2 ok_le ok_lt HE.int (HE.name rfl rfl) (HE.len G rfl (HL.cons (HE.attr B ol_trees (B.look "trees" (by decide)) (HE.name rfl rfl) (fun _ => rfl)) HL.nil rfl) rfl) rfl)) HBs.orNil)))) (HSX.cons (HSX1.raiseAt G hz Tb (by decide) rfl rfl)
  (HSX.plain HS.nil)) (HSX.plain HS.nil))
  (HSX.plain HS.nil))
theorem fX_need {C : Cx} (G : Gl C Hd.vw) (hz : C.held = none)  {ad : String → Addr} (Tb : XTab C csX ksX ad) {bk N : Addr} {mN : Str → Option Value} (B : Bk C bk N mN) {P : Params} (KX : (Hd.kk P).In C.hB) (hN : N = Hd.bkN)  (hspec : ∀ vs σ Q X, spX_need C.ns vs σ Q X → vs.length = 2 ∧ TX_need C.ns (bindM ["self", "number"] vs none') σ (fin Q) (fun c _ σ' => X c σ')) : MtAtX C mN 0 "need" (spX_need C.ns) :=
  MtAtX.mk (xs := ["self", "number"]) G.ok B KX (Hd.m_need P) (by subst hN; exact Hd.mn_need P) rfl rfl rfl rfl rfl (fun ws h => by
    obtain ⟨w0, w1, rfl⟩ := len2 h
    rfl) rfl (bX_need G hz  Tb B ) hspec
noncomputable def T_many_1 (ns : List Int) : ST :=
  (sRet (eCall (spLen ns) (lCons (eAttr "trees" (eName "self")) lNil)))
noncomputable def T_many (ns : List Int) : ST := (sSeq (T_many_1 ns) sNil)
theorem b_many {C : Cx} (G : Gl C Hd.vw) (hz : C.held = none)  {bk N : Addr} {mN : Str → Option Value} (B : Bk C bk N mN)  : HS C (Hd.fS (Hd.cB Hd.TB 28) 2) 0 (Hd.fB (Hd.cB Hd.TB 28) 2) (T_many C.ns) :=
  (HS.cons (HS1.ret (HE.len G rfl (HL.cons (HE.attr B ol_trees (B.look "trees" (by decide)) (HE.name rfl rfl) (fun _ => rfl)) HL.nil rfl) rfl))
  HS.nil)
theorem f_many {C : Cx} (G : Gl C Hd.vw) (hz : C.held = none)  {bk N : Addr} {mN : Str → Option Value} (B : Bk C bk N mN) {P : Params} (KX : (Hd.kk P).In C.hB) (hN : N = Hd.bkN)  (hspec : ∀ vs σ Q, sp_many C.ns vs σ Q → vs.length = 1 ∧ T_many C.ns (bindM ["self"] vs none') σ (fin Q)) : MtAt C mN 0 "many" (sp_many C.ns) :=
  MtAt.mk (xs := ["self"]) G.ok B KX (Hd.m_many P) (by subst hN; exact Hd.mn_many P) rfl rfl rfl rfl rfl (fun ws h => by
    obtain ⟨w0, rfl⟩ := len1 h
    rfl) rfl (b_many G hz  B ) hspec
noncomputable def T_tree_1 (ns : List Int) : ST :=
  (sExpr (eMCall "need" (sp_need ns) (eName "self") (lCons (eName "number") lNil)))
noncomputable def T_tree_2 (ns : List Int) : ST :=
  (sRet (eCall spDictC (lCons (eBin (opItem ns) (eAttr "trees" (eName "self")) (eName "number")) lNil)))
noncomputable def T_tree (ns : List Int) : ST := (sSeq (T_tree_1 ns) (sSeq (T_tree_2 ns) sNil))
theorem b_tree {C : Cx} (G : Gl C Hd.vw) (hz : C.held = none)  {bk N : Addr} {mN : Str → Option Value} (B : Bk C bk N mN) (h_need : MtAt C mN 0 "need" (sp_need C.ns)) : HS C (Hd.fS (Hd.cB Hd.TB 28) 3) 1 (Hd.fB (Hd.cB Hd.TB 28) 3) (T_tree C.ns) :=
  (HS.cons (HS1.expr (HE.mcall G.ok B h_need (by decide) ol_need (HE.name rfl rfl) (HL.cons (HE.name rfl rfl) HL.nil rfl) rfl (fun _ => rfl) rfl (by decide)) (fun _ _ => rfl))
  (HS.cons (HS1.ret (HE.dictC G rfl (HL.cons (HE.item G (HE.attr B ol_trees (B.look "trees" (by decide)) (HE.name rfl rfl) (fun _ => rfl)) (HE.name rfl rfl) rfl) HL.nil rfl) rfl))
  HS.nil))
theorem f_tree {C : Cx} (G : Gl C Hd.vw) (hz : C.held = none)  {bk N : Addr} {mN : Str → Option Value} (B : Bk C bk N mN) {P : Params} (KX : (Hd.kk P).In C.hB) (hN : N = Hd.bkN) (h_need : MtAt C mN 0 "need" (sp_need C.ns)) (hspec : ∀ vs σ Q, sp_tree C.ns vs σ Q → vs.length = 2 ∧ T_tree C.ns (bindM ["self", "number"] vs none') σ (fin Q)) : MtAt C mN 1 "tree" (sp_tree C.ns) :=
  MtAt.mk (xs := ["self", "number"]) G.ok B KX (Hd.m_tree P) (by subst hN; exact Hd.mn_tree P) rfl rfl rfl rfl rfl (fun ws h => by
    obtain ⟨w0, w1, rfl⟩ := len2 h
    rfl) rfl (b_tree G hz  B h_need) hspec
noncomputable def TX_tree_1 (ns : List Int) : STX :=
  (xExpr (xMCall "need" (spX_need ns) (eName "self") (lCons (eName "number") lNil)))
noncomputable def TX_tree (ns : List Int) : STX := (xSeq (TX_tree_1 ns) (xP sNever))
theorem bX_tree {C : Cx} (G : Gl C Hd.vw) (hz : C.held = none)  {bk N : Addr} {mN : Str → Option Value} (B : Bk C bk N mN) (h_need : MtAtX C mN 0 "need" (spX_need C.ns)) : HSX C (Hd.fS (Hd.cB Hd.TB 28) 3) 1 (Hd.fB (Hd.cB Hd.TB 28) 3) (TX_tree C.ns) :=
  (HSX.cons (HSX1.exprX (HEX.mcall G.ok B h_need (by decide) ol_need (HE.name rfl rfl) (HL.cons (HE.name rfl rfl) HL.nil rfl) rfl (fun _ => rfl) rfl (by decide)) (fun _ _ => rfl))
  (HSX.plain HS.never))
theorem fX_tree {C : Cx} (G : Gl C Hd.vw) (hz : C.held = none)  {bk N : Addr} {mN : Str → Option Value} (B : Bk C bk N mN) {P : Params} (KX : (Hd.kk P).In C.hB) (hN : N = Hd.bkN) (h_need : MtAtX C mN 0 "need" (spX_need C.ns)) (hspec : ∀ vs σ Q X, spX_tree C.ns vs σ Q X → vs.length = 2 ∧ TX_tree C.ns (bindM ["self", "number"] vs none') σ (fin Q) (fun c _ σ' => X c σ')) : MtAtX C mN 1 "tree" (spX_tree C.ns) :=
  MtAtX.mk (xs := ["self", "number"]) G.ok B KX (Hd.m_tree P) (by subst hN; exact Hd.mn_tree P) rfl rfl rfl rfl rfl (fun ws h => by
    obtain ⟨w0, w1, rfl⟩ := len2 h
    rfl) rfl (bX_tree G hz  B h_need) hspec
noncomputable def T_parents_1 (ns : List Int) : ST :=
  (sExpr (eMCall "need" (sp_need ns) (eName "self") (lCons (eName "number") lNil)))
noncomputable def T_parents_2 (ns : List Int) : ST :=
  (sRet (eBin (opItem ns) (eAttr "made_of" (eName "self")) (eName "number")))
noncomputable def T_parents (ns : List Int) : ST := (sSeq (T_parents_1 ns) (sSeq (T_parents_2 ns) sNil))
theorem b_parents {C : Cx} (G : Gl C Hd.vw) (hz : C.held = none)  {bk N : Addr} {mN : Str → Option Value} (B : Bk C bk N mN) (h_need : MtAt C mN 0 "need" (sp_need C.ns)) : HS C (Hd.fS (Hd.cB Hd.TB 28) 4) 1 (Hd.fB (Hd.cB Hd.TB 28) 4) (T_parents C.ns) :=
  (HS.cons (HS1.expr (HE.mcall G.ok B h_need (by decide) ol_need (HE.name rfl rfl) (HL.cons (HE.name rfl rfl) HL.nil rfl) rfl (fun _ => rfl) rfl (by decide)) (fun _ _ => rfl))
  (HS.cons (HS1.ret (HE.item G (HE.attr B ol_made_of (B.look "made_of" (by decide)) (HE.name rfl rfl) (fun _ => rfl)) (HE.name rfl rfl) rfl))
  HS.nil))
theorem f_parents {C : Cx} (G : Gl C Hd.vw) (hz : C.held = none)  {bk N : Addr} {mN : Str → Option Value} (B : Bk C bk N mN) {P : Params} (KX : (Hd.kk P).In C.hB) (hN : N = Hd.bkN) (h_need : MtAt C mN 0 "need" (sp_need C.ns)) (hspec : ∀ vs σ Q, sp_parents C.ns vs σ Q → vs.length = 2 ∧ T_parents C.ns (bindM ["self", "number"] vs none') σ (fin Q)) : MtAt C mN 1 "parents" (sp_parents C.ns) :=
  MtAt.mk (xs := ["self", "number"]) G.ok B KX (Hd.m_parents P) (by subst hN; exact Hd.mn_parents P) rfl rfl rfl rfl rfl (fun ws h => by
    obtain ⟨w0, w1, rfl⟩ := len2 h
    rfl) rfl (b_parents G hz  B h_need) hspec
noncomputable def TX_parents_1 (ns : List Int) : STX :=
  (xExpr (xMCall "need" (spX_need ns) (eName "self") (lCons (eName "number") lNil)))
noncomputable def TX_parents (ns : List Int) : STX := (xSeq (TX_parents_1 ns) (xP sNever))
theorem bX_parents {C : Cx} (G : Gl C Hd.vw) (hz : C.held = none)  {bk N : Addr} {mN : Str → Option Value} (B : Bk C bk N mN) (h_need : MtAtX C mN 0 "need" (spX_need C.ns)) : HSX C (Hd.fS (Hd.cB Hd.TB 28) 4) 1 (Hd.fB (Hd.cB Hd.TB 28) 4) (TX_parents C.ns) :=
  (HSX.cons (HSX1.exprX (HEX.mcall G.ok B h_need (by decide) ol_need (HE.name rfl rfl) (HL.cons (HE.name rfl rfl) HL.nil rfl) rfl (fun _ => rfl) rfl (by decide)) (fun _ _ => rfl))
  (HSX.plain HS.never))
theorem fX_parents {C : Cx} (G : Gl C Hd.vw) (hz : C.held = none)  {bk N : Addr} {mN : Str → Option Value} (B : Bk C bk N mN) {P : Params} (KX : (Hd.kk P).In C.hB) (hN : N = Hd.bkN) (h_need : MtAtX C mN 0 "need" (spX_need C.ns)) (hspec : ∀ vs σ Q X, spX_parents C.ns vs σ Q X → vs.length = 2 ∧ TX_parents C.ns (bindM ["self", "number"] vs none') σ (fin Q) (fun c _ σ' => X c σ')) : MtAtX C mN 1 "parents" (spX_parents C.ns) :=
  MtAtX.mk (xs := ["self", "number"]) G.ok B KX (Hd.m_parents P) (by subst hN; exact Hd.mn_parents P) rfl rfl rfl rfl rfl (fun ws h => by
    obtain ⟨w0, w1, rfl⟩ := len2 h
    rfl) rfl (bX_parents G hz  B h_need) hspec
noncomputable def T_put_down_1 (ns : List Int) : ST :=
  (sExpr (eMeth tyList spAppend (eAttr "trees" (eName "self")) (lCons (eName "tree") lNil)))
noncomputable def T_put_down_2 (ns : List Int) : ST :=
  (sExpr (eMeth tyList spAppend (eAttr "made_of" (eName "self")) (lCons (eName "parents") lNil)))
noncomputable def T_put_down_3 (ns : List Int) : ST :=
  (sRet (eBin opSub (eCall (spLen ns) (lCons (eAttr "trees" (eName "self")) lNil)) (eVal (.int 1))))
noncomputable def T_put_down (ns : List Int) : ST := (sSeq (T_put_down_1 ns) (sSeq (T_put_down_2 ns) (sSeq (T_put_down_3 ns) sNil)))
theorem b_put_down {C : Cx} (G : Gl C Hd.vw) (hz : C.held = none)  {bk N : Addr} {mN : Str → Option Value} (B : Bk C bk N mN)  : HS C (Hd.fS (Hd.cB Hd.TB 28) 5) 0 (Hd.fB (Hd.cB Hd.TB 28) 5) (T_put_down C.ns) :=
  (HS.cons (HS1.expr (HE.append (HE.attr B ol_trees (B.look "trees" (by decide)) (HE.name rfl rfl) (fun _ => rfl)) (HL.cons (HE.name rfl rfl) HL.nil rfl) rfl (fun _ => rfl) rfl (by decide)) (fun _ _ => rfl))
  (HS.cons (HS1.expr (HE.append (HE.attr B ol_made_of (B.look "made_of" (by decide)) (HE.name rfl rfl) (fun _ => rfl)) (HL.cons (HE.name rfl rfl) HL.nil rfl) rfl (fun _ => rfl) rfl (by decide)) (fun _ _ => rfl))
  (HS.cons (HS1.ret (HE.bin ok_sub (HE.len G rfl (HL.cons (HE.attr B ol_trees (B.look "trees" (by decide)) (HE.name rfl rfl) (fun _ => rfl)) HL.nil rfl) rfl) HE.int))
  HS.nil)))
theorem f_put_down {C : Cx} (G : Gl C Hd.vw) (hz : C.held = none)  {bk N : Addr} {mN : Str → Option Value} (B : Bk C bk N mN) {P : Params} (KX : (Hd.kk P).In C.hB) (hN : N = Hd.bkN)  (hspec : ∀ vs σ Q, sp_put_down C.ns vs σ Q → vs.length = 3 ∧ T_put_down C.ns (bindM ["self", "tree", "parents"] vs none') σ (fin Q)) : MtAt C mN 0 "put_down" (sp_put_down C.ns) :=
  MtAt.mk (xs := ["self", "tree", "parents"]) G.ok B KX (Hd.m_put_down P) (by subst hN; exact Hd.mn_put_down P) rfl rfl rfl rfl rfl (fun ws h => by
    obtain ⟨w0, w1, w2, rfl⟩ := len3 h
    rfl) rfl (b_put_down G hz  B ) hspec
noncomputable def T_grow_1 (ns : List Int) : ST :=
  (sExpr (eMCall "need" (sp_need ns) (eName "self") (lCons (eName "parent") lNil)))
noncomputable def T_grow_2 (ns : List Int) : ST :=
  (sRet (eMCall "put_down" (sp_put_down ns) (eName "self") (lCons (eCall (sp_changed ns) (lCons (eBin (opItem ns) (eAttr "trees" (eName "self")) (eName "parent")) (lCons (eName "deeds") lNil))) (lCons (eTup (lCons (eName "parent") lNil)) lNil))))
noncomputable def T_grow (ns : List Int) : ST := (sSeq (T_grow_1 ns) (sSeq (T_grow_2 ns) sNil))
theorem b_grow {C : Cx} (G : Gl C Hd.vw) (hz : C.held = none)  {bk N : Addr} {mN : Str → Option Value} (B : Bk C bk N mN) (h_need : MtAt C mN 0 "need" (sp_need C.ns)) (h_changed : FnAt C 3 "changed" (sp_changed C.ns)) (h_put_down : MtAt C mN 0 "put_down" (sp_put_down C.ns)) : HS C (Hd.fS (Hd.cB Hd.TB 28) 6) 4 (Hd.fB (Hd.cB Hd.TB 28) 6) (T_grow C.ns) :=
  (HS.cons (HS1.expr (HE.mcall G.ok B h_need (by decide) ol_need (HE.name rfl rfl) (HL.cons (HE.name rfl rfl) HL.nil rfl) rfl (fun _ => rfl) rfl (by decide)) (fun _ _ => rfl))
  (HS.cons (HS1.ret (HE.mcall G.ok B h_put_down (by decide) ol_put_down (HE.name rfl rfl) (HL.cons (HE.callAt G h_changed (by decide) rfl rfl (HL.cons (HE.item G (HE.attr B ol_trees (B.look "trees" (by decide)) (HE.name rfl rfl) (fun _ => rfl)) (HE.name rfl rfl) rfl) (HL.cons (HE.name rfl rfl) HL.nil rfl) rfl) rfl) (HL.cons (HE.tup (HL.cons (HE.name rfl rfl) HL.nil rfl)) HL.nil rfl) rfl) rfl (fun _ => rfl) rfl (by decide)))
  HS.nil))
theorem f_grow {C : Cx} (G : Gl C Hd.vw) (hz : C.held = none)  {bk N : Addr} {mN : Str → Option Value} (B : Bk C bk N mN) {P : Params} (KX : (Hd.kk P).In C.hB) (hN : N = Hd.bkN) (h_need : MtAt C mN 0 "need" (sp_need C.ns)) (h_changed : FnAt C 3 "changed" (sp_changed C.ns)) (h_put_down : MtAt C mN 0 "put_down" (sp_put_down C.ns)) (hspec : ∀ vs σ Q, sp_grow C.ns vs σ Q → vs.length = 3 ∧ T_grow C.ns (bindM ["self", "parent", "deeds"] vs none') σ (fin Q)) : MtAt C mN 4 "grow" (sp_grow C.ns) :=
  MtAt.mk (xs := ["self", "parent", "deeds"]) G.ok B KX (Hd.m_grow P) (by subst hN; exact Hd.mn_grow P) rfl rfl rfl rfl rfl (fun ws h => by
    obtain ⟨w0, w1, w2, rfl⟩ := len3 h
    rfl) rfl (b_grow G hz  B h_need h_changed h_put_down) hspec
noncomputable def TX_grow_1 (ns : List Int) : STX :=
  (xExpr (xMCall "need" (spX_need ns) (eName "self") (lCons (eName "parent") lNil)))
noncomputable def TX_grow (ns : List Int) : STX := (xSeq (TX_grow_1 ns) (xP sNever))
theorem bX_grow {C : Cx} (G : Gl C Hd.vw) (hz : C.held = none)  {bk N : Addr} {mN : Str → Option Value} (B : Bk C bk N mN) (h_need : MtAtX C mN 0 "need" (spX_need C.ns)) : HSX C (Hd.fS (Hd.cB Hd.TB 28) 6) 4 (Hd.fB (Hd.cB Hd.TB 28) 6) (TX_grow C.ns) :=
  (HSX.cons (HSX1.exprX (HEX.mcall G.ok B h_need (by decide) ol_need (HE.name rfl rfl) (HL.cons (HE.name rfl rfl) HL.nil rfl) rfl (fun _ => rfl) rfl (by decide)) (fun _ _ => rfl))
  (HSX.plain HS.never))
theorem fX_grow {C : Cx} (G : Gl C Hd.vw) (hz : C.held = none)  {bk N : Addr} {mN : Str → Option Value} (B : Bk C bk N mN) {P : Params} (KX : (Hd.kk P).In C.hB) (hN : N = Hd.bkN) (h_need : MtAtX C mN 0 "need" (spX_need C.ns)) (hspec : ∀ vs σ Q X, spX_grow C.ns vs σ Q X → vs.length = 3 ∧ TX_grow C.ns (bindM ["self", "parent", "deeds"] vs none') σ (fin Q) (fun c _ σ' => X c σ')) : MtAtX C mN 4 "grow" (spX_grow C.ns) :=
  MtAtX.mk (xs := ["self", "parent", "deeds"]) G.ok B KX (Hd.m_grow P) (by subst hN; exact Hd.mn_grow P) rfl rfl rfl rfl rfl (fun ws h => by
    obtain ⟨w0, w1, w2, rfl⟩ := len3 h
    rfl) rfl (bX_grow G hz  B h_need) hspec
noncomputable def TX_merge_1 (ns : List Int) : STX :=
  (xExpr (xMCall "need" (spX_need ns) (eName "self") (lCons (eName "one") lNil)))
noncomputable def TX_merge_2 (ns : List Int) : STX :=
  (xExpr (xMCall "need" (spX_need ns) (eName "self") (lCons (eName "other") lNil)))
noncomputable def TX_merge_3 (ns : List Int) : STX :=
  (xIf (tBool (eBin opEq0 (eName "one") (eName "other"))) (xSeq (xRaise "SameVersion")
  (xP sNil)) (xP sNil))
noncomputable def TX_merge (ns : List Int) : STX := (xSeq (TX_merge_1 ns) (xSeq (TX_merge_2 ns) (xSeq (TX_merge_3 ns) (xP sNever))))
theorem bX_merge {C : Cx} (G : Gl C Hd.vw) (hz : C.held = none)  {ad : String → Addr} (Tb : XTab C csX ksX ad) {bk N : Addr} {mN : Str → Option Value} (B : Bk C bk N mN) (h_need : MtAtX C mN 0 "need" (spX_need C.ns)) : HSX C (Hd.fS (Hd.cB Hd.TB 28) 7) 2 (Hd.fB (Hd.cB Hd.TB 28) 7) (TX_merge C.ns) :=
  (HSX.cons (HSX1.exprX (HEX.mcall G.ok B h_need (by decide) ol_need (HE.name rfl rfl) (HL.cons (HE.name rfl rfl) HL.nil rfl) rfl (fun _ => rfl) rfl (by decide)) (fun _ _ => rfl))
  (HSX.cons (HSX1.exprX (HEX.mcall G.ok B h_need (by decide) ol_need (HE.name rfl rfl) (HL.cons (HE.name rfl rfl) HL.nil rfl) rfl (fun _ => rfl) rfl (by decide)) (fun _ _ => rfl))
  (HSX.cons (HSX1.ite (HB.cmp ok_eq0 (HE.name rfl rfl) (HE.name rfl rfl) rfl) (HSX.cons (HSX1.raiseAt G hz Tb (by decide) rfl rfl)
  (HSX.plain HS.nil)) (HSX.plain HS.nil))
  (HSX.plain HS.never))))
theorem fX_merge {C : Cx} (G : Gl C Hd.vw) (hz : C.held = none)  {ad : String → Addr} (Tb : XTab C csX ksX ad) {bk N : Addr} {mN : Str → Option Value} (B : Bk C bk N mN) {P : Params} (KX : (Hd.kk P).In C.hB) (hN : N = Hd.bkN) (h_need : MtAtX C mN 0 "need" (spX_need C.ns)) (hspec : ∀ vs σ Q X, spX_merge C.ns vs σ Q X → vs.length = 4 ∧ TX_merge C.ns (bindM ["self", "one", "other", "picks"] vs none') σ (fin Q) (fun c _ σ' => X c σ')) : MtAtX C mN 2 "merge" (spX_merge C.ns) :=
  MtAtX.mk (xs := ["self", "one", "other", "picks"]) G.ok B KX (Hd.m_merge P) (by subst hN; exact Hd.mn_merge P) rfl rfl rfl rfl rfl (fun ws h => by
    obtain ⟨w0, w1, w2, w3, rfl⟩ := len4 h
    rfl) rfl (bX_merge G hz  Tb B h_need) hspec
noncomputable def T_elders_1 (ns : List Int) : ST :=
  (sExpr (eMCall "need" (sp_need ns) (eName "self") (lCons (eName "number") lNil)))
noncomputable def T_elders_2 (ns : List Int) : ST :=
  (sSet "found" (eDictI1 (eName "number") (eVal (.bool true))))
noncomputable def T_elders_3 (ns : List Int) : ST :=
  (sFor (.name "k") (iDown (lCons (eName "number") (lCons (eUn opNeg (eVal (.int 1))) (lCons (eUn opNeg (eVal (.int 1))) lNil)))) (sSeq (sIf (tBool (eBin opInI (eName "k") (eName "found"))) (sSeq (sFor (.name "parent") (iOf ns (eBin (opItem ns) (eAttr "made_of" (eName "self")) (eName "k"))) (sSeq (sSetItem setI (eVal (.bool true)) (eName "found") (eName "parent"))
  sNil))
  sNil) sNil)
  sNil))
noncomputable def T_elders_4 (ns : List Int) : ST :=
  (sRet (eSortKI (eName "found")))
noncomputable def T_elders (ns : List Int) : ST := (sSeq (T_elders_1 ns) (sSeq (T_elders_2 ns) (sSeq (T_elders_3 ns) (sSeq (T_elders_4 ns) sNil))))
theorem b_elders {C : Cx} (G : Gl C Hd.vw) (hz : C.held = none)  {bk N : Addr} {mN : Str → Option Value} (B : Bk C bk N mN) (h_need : MtAt C mN 0 "need" (sp_need C.ns)) : HS C (Hd.fS (Hd.cB Hd.TB 28) 8) 1 (Hd.fB (Hd.cB Hd.TB 28) 8) (T_elders C.ns) :=
  (HS.cons (HS1.expr (HE.mcall G.ok B h_need (by decide) ol_need (HE.name rfl rfl) (HL.cons (HE.name rfl rfl) HL.nil rfl) rfl (fun _ => rfl) rfl (by decide)) (fun _ _ => rfl))
  (HS.cons (HS1.set (.inl rfl) (HE.dictI1 (HQ.name rfl rfl) HQ.bool) (fun _ _ => rfl))
  (HS.cons (HS1.for (HT.name rfl) (HI.down G hz rfl (HL.cons (HE.name rfl rfl) (HL.cons (HE.un ok_neg HE.int) (HL.cons (HE.un ok_neg HE.int) HL.nil rfl) rfl) rfl) rfl) (HS.cons (HS1.ite (HB.cmp (ok_inI G.ok) (HE.name rfl rfl) (HE.name rfl rfl) rfl) (HS.cons (HS1.for (HT.name rfl) (HI.of G.ok hz (HE.item G (HE.attr B ol_made_of (B.look "made_of" (by decide)) (HE.name rfl rfl) (fun _ => rfl)) (HE.name rfl rfl) rfl)) (HS.cons (HS1.setItem ok_setI HE.bool (HE.name rfl rfl) (HE.name rfl rfl) (fun _ _ => rfl))
  HS.nil) (fun _ _ => rfl))
  HS.nil) HS.nil)
  HS.nil) (fun _ _ => rfl))
  (HS.cons (HS1.ret (HE.sortedKeysI G hz rfl (HE.name rfl rfl) (fun _ => rfl) rfl))
  HS.nil))))
theorem f_elders {C : Cx} (G : Gl C Hd.vw) (hz : C.held = none)  {bk N : Addr} {mN : Str → Option Value} (B : Bk C bk N mN) {P : Params} (KX : (Hd.kk P).In C.hB) (hN : N = Hd.bkN) (h_need : MtAt C mN 0 "need" (sp_need C.ns)) (hspec : ∀ vs σ Q, sp_elders C.ns vs σ Q → vs.length = 2 ∧ T_elders C.ns (bindM ["self", "number"] vs none') σ (fin Q)) : MtAt C mN 1 "elders" (sp_elders C.ns) :=
  MtAt.mk (xs := ["self", "number"]) G.ok B KX (Hd.m_elders P) (by subst hN; exact Hd.mn_elders P) rfl rfl rfl rfl rfl (fun ws h => by
    obtain ⟨w0, w1, rfl⟩ := len2 h
    rfl) rfl (b_elders G hz  B h_need) hspec
noncomputable def TX_elders_1 (ns : List Int) : STX :=
  (xExpr (xMCall "need" (spX_need ns) (eName "self") (lCons (eName "number") lNil)))
noncomputable def TX_elders (ns : List Int) : STX := (xSeq (TX_elders_1 ns) (xP (sSeq (T_elders_2 ns) (sSeq (T_elders_3 ns) (sSeq (T_elders_4 ns) sNil)))))
theorem bX_elders {C : Cx} (G : Gl C Hd.vw) (hz : C.held = none)  {bk N : Addr} {mN : Str → Option Value} (B : Bk C bk N mN) (h_need : MtAtX C mN 0 "need" (spX_need C.ns)) : HSX C (Hd.fS (Hd.cB Hd.TB 28) 8) 1 (Hd.fB (Hd.cB Hd.TB 28) 8) (TX_elders C.ns) :=
  (HSX.cons (HSX1.exprX (HEX.mcall G.ok B h_need (by decide) ol_need (HE.name rfl rfl) (HL.cons (HE.name rfl rfl) HL.nil rfl) rfl (fun _ => rfl) rfl (by decide)) (fun _ _ => rfl))
  (HSX.plain (HS.cons (HS1.set (.inl rfl) (HE.dictI1 (HQ.name rfl rfl) HQ.bool) (fun _ _ => rfl))
  (HS.cons (HS1.for (HT.name rfl) (HI.down G hz rfl (HL.cons (HE.name rfl rfl) (HL.cons (HE.un ok_neg HE.int) (HL.cons (HE.un ok_neg HE.int) HL.nil rfl) rfl) rfl) rfl) (HS.cons (HS1.ite (HB.cmp (ok_inI G.ok) (HE.name rfl rfl) (HE.name rfl rfl) rfl) (HS.cons (HS1.for (HT.name rfl) (HI.of G.ok hz (HE.item G (HE.attr B ol_made_of (B.look "made_of" (by decide)) (HE.name rfl rfl) (fun _ => rfl)) (HE.name rfl rfl) rfl)) (HS.cons (HS1.setItem ok_setI HE.bool (HE.name rfl rfl) (HE.name rfl rfl) (fun _ _ => rfl))
  HS.nil) (fun _ _ => rfl))
  HS.nil) HS.nil)
  HS.nil) (fun _ _ => rfl))
  (HS.cons (HS1.ret (HE.sortedKeysI G hz rfl (HE.name rfl rfl) (fun _ => rfl) rfl))
  HS.nil)))))
theorem fX_elders {C : Cx} (G : Gl C Hd.vw) (hz : C.held = none)  {bk N : Addr} {mN : Str → Option Value} (B : Bk C bk N mN) {P : Params} (KX : (Hd.kk P).In C.hB) (hN : N = Hd.bkN) (h_need : MtAtX C mN 0 "need" (spX_need C.ns)) (hspec : ∀ vs σ Q X, spX_elders C.ns vs σ Q X → vs.length = 2 ∧ TX_elders C.ns (bindM ["self", "number"] vs none') σ (fin Q) (fun c _ σ' => X c σ')) : MtAtX C mN 1 "elders" (spX_elders C.ns) :=
  MtAtX.mk (xs := ["self", "number"]) G.ok B KX (Hd.m_elders P) (by subst hN; exact Hd.mn_elders P) rfl rfl rfl rfl rfl (fun ws h => by
    obtain ⟨w0, w1, rfl⟩ := len2 h
    rfl) rfl (bX_elders G hz  B h_need) hspec
noncomputable def T_nearest_1 (ns : List Int) : ST :=
  (sSet "mine" (eMCall "elders" (sp_elders ns) (eName "self") (lCons (eName "one") lNil)))
noncomputable def T_nearest_2 (ns : List Int) : ST :=
  (sRet (eCall spMaxL (lCons (eComp ["mine"] (.name "number") (iOf ns (eMCall "elders" (sp_elders ns) (eName "self") (lCons (eName "other") lNil))) (tBool (eBin opInL (eName "number") (eName "mine"))) (eName "number")) lNil)))
noncomputable def T_nearest (ns : List Int) : ST := (sSeq (T_nearest_1 ns) (sSeq (T_nearest_2 ns) sNil))
theorem b_nearest {C : Cx} (G : Gl C Hd.vw) (hz : C.held = none)  {bk N : Addr} {mN : Str → Option Value} (B : Bk C bk N mN) (h_elders : MtAt C mN 1 "elders" (sp_elders C.ns)) : HS C (Hd.fS (Hd.cB Hd.TB 28) 9) 2 (Hd.fB (Hd.cB Hd.TB 28) 9) (T_nearest C.ns) :=
  (HS.cons (HS1.set (.inr rfl) (HE.mcall G.ok B h_elders (by decide) ol_elders (HE.name rfl rfl) (HL.cons (HE.name rfl rfl) HL.nil rfl) rfl (fun _ => rfl) rfl (by decide)) (fun _ _ => rfl))
  (HS.cons (HS1.ret (HE.maxL G hz rfl (HL.cons (HE.comp (CompOk.of rfl) (HI.of G.ok hz (HE.mcall G.ok B h_elders (by decide) ol_elders (HE.name rfl rfl) (HL.cons (HE.name rfl rfl) HL.nil rfl) rfl (fun _ => rfl) rfl (by decide))) (HT.name rfl) (HTs.one (HB.cmp ok_inL (HE.name rfl rfl) (HE.cell rfl rfl) rfl)) (HE.name rfl rfl) (fun _ _ => rfl)) HL.nil rfl) rfl))
  HS.nil))
theorem f_nearest {C : Cx} (G : Gl C Hd.vw) (hz : C.held = none)  {bk N : Addr} {mN : Str → Option Value} (B : Bk C bk N mN) {P : Params} (KX : (Hd.kk P).In C.hB) (hN : N = Hd.bkN) (h_elders : MtAt C mN 1 "elders" (sp_elders C.ns)) (hspec : ∀ vs σ Q, sp_nearest C.ns vs σ Q → vs.length = 3 ∧ T_nearest C.ns (bindM ["self", "one", "other"] vs none') σ (fin Q)) : MtAt C mN 2 "nearest" (sp_nearest C.ns) :=
  MtAt.mk (xs := ["self", "one", "other"]) G.ok B KX (Hd.m_nearest P) (by subst hN; exact Hd.mn_nearest P) rfl rfl rfl rfl rfl (fun ws h => by
    obtain ⟨w0, w1, w2, rfl⟩ := len3 h
    rfl) rfl (b_nearest G hz  B h_elders) hspec
noncomputable def TX_nearest_1 (ns : List Int) : STX :=
  (xSet "mine" (xMCall "elders" (spX_elders ns) (eName "self") (lCons (eName "one") lNil)))
noncomputable def TX_nearest_2 (ns : List Int) : STX :=
  (xRet (xOnly (xMCall "elders" (spX_elders ns) (eName "self") (lCons (eName "other") lNil))))
noncomputable def TX_nearest (ns : List Int) : STX := (xSeq (TX_nearest_1 ns) (xSeq (TX_nearest_2 ns) (xP sNil)))
theorem bX_nearest {C : Cx} (G : Gl C Hd.vw) (hz : C.held = none)  {bk N : Addr} {mN : Str → Option Value} (B : Bk C bk N mN) (h_elders : MtAtX C mN 1 "elders" (spX_elders C.ns)) : HSX C (Hd.fS (Hd.cB Hd.TB 28) 9) 2 (Hd.fB (Hd.cB Hd.TB 28) 9) (TX_nearest C.ns) :=
  (HSX.cons (HSX1.set (.inr rfl) (HEX.mcall G.ok B h_elders (by decide) ol_elders (HE.name rfl rfl) (HL.cons (HE.name rfl rfl) HL.nil rfl) rfl (fun _ => rfl) rfl (by decide)) (fun _ _ => rfl))
  (HSX.cons (HSX1.ret (HEX.maxCompR G rfl (HEX.mcall G.ok B h_elders (by decide) ol_elders (HE.name rfl rfl) (HL.cons (HE.name rfl rfl) HL.nil rfl) rfl (fun _ => rfl) rfl (by decide))))
  (HSX.plain HS.nil)))
theorem fX_nearest {C : Cx} (G : Gl C Hd.vw) (hz : C.held = none)  {bk N : Addr} {mN : Str → Option Value} (B : Bk C bk N mN) {P : Params} (KX : (Hd.kk P).In C.hB) (hN : N = Hd.bkN) (h_elders : MtAtX C mN 1 "elders" (spX_elders C.ns)) (hspec : ∀ vs σ Q X, spX_nearest C.ns vs σ Q X → vs.length = 3 ∧ TX_nearest C.ns (bindM ["self", "one", "other"] vs none') σ (fin Q) (fun c _ σ' => X c σ')) : MtAtX C mN 2 "nearest" (spX_nearest C.ns) :=
  MtAtX.mk (xs := ["self", "one", "other"]) G.ok B KX (Hd.m_nearest P) (by subst hN; exact Hd.mn_nearest P) rfl rfl rfl rfl rfl (fun ws h => by
    obtain ⟨w0, w1, w2, rfl⟩ := len3 h
    rfl) rfl (bX_nearest G hz  B h_elders) hspec
noncomputable def T_road_1 (ns : List Int) : ST :=
  (sExpr (eMCall "need" (sp_need ns) (eName "self") (lCons (eName "elder") lNil)))
noncomputable def T_road_2 (ns : List Int) : ST :=
  (sExpr (eMCall "need" (sp_need ns) (eName "self") (lCons (eName "number") lNil)))
noncomputable def T_road_3 (ns : List Int) : ST :=
  (sSet "came" (eDictI1 (eName "elder") (eName "elder")))
noncomputable def T_road_4 (ns : List Int) : ST :=
  (sFor (.name "k") (iRange (lCons (eBin opAdd (eName "elder") (eVal (.int 1))) (lCons (eBin opAdd (eName "number") (eVal (.int 1))) lNil))) (sSeq (sFor (.name "parent") (iOf ns (eBin (opItem ns) (eAttr "made_of" (eName "self")) (eName "k"))) (sSeq (sIf (tBool (eBin opInI (eName "parent") (eName "came"))) (sSeq (sSetItem setI (eName "parent") (eName "came") (eName "k"))
  sNil) sNil)
  sNil))
  sNil))
noncomputable def T_road_5 (ns : List Int) : ST :=
  (sIf (tBool (eBin opNotInI (eName "number") (eName "came"))) (sSeq (sRet (eVal .none))
  sNil) sNil)
noncomputable def T_road_6 (ns : List Int) : ST :=
  (sSet "row" (eList (lCons (eName "number") lNil)))
noncomputable def T_road_7 (ns : List Int) : ST :=
  (sWhile (tBool (eBin opNe0 (eBin (opItem ns) (eName "row") (eUn opNeg (eVal (.int 1)))) (eName "elder"))) (sSeq (sExpr (eMeth tyList spAppend (eName "row") (lCons (eBin opItemI (eName "came") (eBin (opItem ns) (eName "row") (eUn opNeg (eVal (.int 1))))) lNil)))
  sNil))
noncomputable def T_road_8 (ns : List Int) : ST :=
  (sRet (eListRev (eName "row")))
noncomputable def T_road (ns : List Int) : ST := (sSeq (T_road_1 ns) (sSeq (T_road_2 ns) (sSeq (T_road_3 ns) (sSeq (T_road_4 ns) (sSeq (T_road_5 ns) (sSeq (T_road_6 ns) (sSeq (T_road_7 ns) (sSeq (T_road_8 ns) sNil))))))))
theorem b_road {C : Cx} (G : Gl C Hd.vw) (hz : C.held = none)  {bk N : Addr} {mN : Str → Option Value} (B : Bk C bk N mN) (hrev : C.mg (Str.ofString "reversed") = Option.none) (h_need : MtAt C mN 0 "need" (sp_need C.ns)) : HS C (Hd.fS (Hd.cB Hd.TB 28) 10) 1 (Hd.fB (Hd.cB Hd.TB 28) 10) (T_road C.ns) :=
  (HS.cons (HS1.expr (HE.mcall G.ok B h_need (by decide) ol_need (HE.name rfl rfl) (HL.cons (HE.name rfl rfl) HL.nil rfl) rfl (fun _ => rfl) rfl (by decide)) (fun _ _ => rfl))
  (HS.cons (HS1.expr (HE.mcall G.ok B h_need (by decide) ol_need (HE.name rfl rfl) (HL.cons (HE.name rfl rfl) HL.nil rfl) rfl (fun _ => rfl) rfl (by decide)) (fun _ _ => rfl))
  (HS.cons (HS1.set (.inl rfl) (HE.dictI1 (HQ.name rfl rfl) (HQ.name rfl rfl)) (fun _ _ => rfl))
  (HS.cons (HS1.for (HT.name rfl) (HI.rng G hz rfl (HL.cons (HE.bin ok_add (HE.name rfl rfl) HE.int) (HL.cons (HE.bin ok_add (HE.name rfl rfl) HE.int) HL.nil rfl) rfl) rfl) (HS.cons (HS1.for (HT.name rfl) (HI.of G.ok hz (HE.item G (HE.attr B ol_made_of (B.look "made_of" (by decide)) (HE.name rfl rfl) (fun _ => rfl)) (HE.name rfl rfl) rfl)) (HS.cons (HS1.ite (HB.cmp (ok_inI G.ok) (HE.name rfl rfl) (HE.name rfl rfl) rfl) (HS.cons (HS1.setItem ok_setI (HE.name rfl rfl) (HE.name rfl rfl) (HE.name rfl rfl) (fun _ _ => rfl))
  HS.nil) HS.nil)
  HS.nil) (fun _ _ => rfl))
  HS.nil) (fun _ _ => rfl))
  (HS.cons (HS1.ite (HB.cmp (ok_notInI G.ok) (HE.name rfl rfl) (HE.name rfl rfl) rfl) (HS.cons (HS1.ret HE.none)
  HS.nil) HS.nil)
  (HS.cons (HS1.set (.inl rfl) (HE.list (HL.cons (HE.name rfl rfl) HL.nil rfl)) (fun _ _ => rfl))
  (HS.cons (HS1.while (HB.cmp ok_ne0 (HE.item G (HE.name rfl rfl) (HE.un ok_neg HE.int) rfl) (HE.name rfl rfl) rfl) (HS.cons (HS1.expr (HE.append (HE.name rfl rfl) (HL.cons (HE.itemI (HE.name rfl rfl) (HE.item G (HE.name rfl rfl) (HE.un ok_neg HE.int) rfl) rfl) HL.nil rfl) rfl (fun _ => rfl) rfl (by decide)) (fun _ _ => rfl))
  HS.nil))
  (HS.cons (HS1.ret (HE.listRev G hz hrev rfl rfl (HE.name rfl rfl) rfl))
  HS.nil))))))))
theorem f_road {C : Cx} (G : Gl C Hd.vw) (hz : C.held = none)  {bk N : Addr} {mN : Str → Option Value} (B : Bk C bk N mN) (hrev : C.mg (Str.ofString "reversed") = Option.none) {P : Params} (KX : (Hd.kk P).In C.hB) (hN : N = Hd.bkN) (h_need : MtAt C mN 0 "need" (sp_need C.ns)) (hspec : ∀ vs σ Q, sp_road C.ns vs σ Q → vs.length = 3 ∧ T_road C.ns (bindM ["self", "elder", "number"] vs none') σ (fin Q)) : MtAt C mN 1 "road" (sp_road C.ns) :=
  MtAt.mk (xs := ["self", "elder", "number"]) G.ok B KX (Hd.m_road P) (by subst hN; exact Hd.mn_road P) rfl rfl rfl rfl rfl (fun ws h => by
    obtain ⟨w0, w1, w2, rfl⟩ := len3 h
    rfl) rfl (b_road G hz  B hrev h_need) hspec
noncomputable def TX_road_1 (ns : List Int) : STX :=
  (xExpr (xMCall "need" (spX_need ns) (eName "self") (lCons (eName "elder") lNil)))
noncomputable def TX_road_2 (ns : List Int) : STX :=
  (xExpr (xMCall "need" (spX_need ns) (eName "self") (lCons (eName "number") lNil)))
noncomputable def TX_road (ns : List Int) : STX := (xSeq (TX_road_1 ns) (xSeq (TX_road_2 ns) (xP sNever)))
theorem bX_road {C : Cx} (G : Gl C Hd.vw) (hz : C.held = none)  {bk N : Addr} {mN : Str → Option Value} (B : Bk C bk N mN) (h_need : MtAtX C mN 0 "need" (spX_need C.ns)) : HSX C (Hd.fS (Hd.cB Hd.TB 28) 10) 1 (Hd.fB (Hd.cB Hd.TB 28) 10) (TX_road C.ns) :=
  (HSX.cons (HSX1.exprX (HEX.mcall G.ok B h_need (by decide) ol_need (HE.name rfl rfl) (HL.cons (HE.name rfl rfl) HL.nil rfl) rfl (fun _ => rfl) rfl (by decide)) (fun _ _ => rfl))
  (HSX.cons (HSX1.exprX (HEX.mcall G.ok B h_need (by decide) ol_need (HE.name rfl rfl) (HL.cons (HE.name rfl rfl) HL.nil rfl) rfl (fun _ => rfl) rfl (by decide)) (fun _ _ => rfl))
  (HSX.plain HS.never)))
theorem fX_road {C : Cx} (G : Gl C Hd.vw) (hz : C.held = none)  {bk N : Addr} {mN : Str → Option Value} (B : Bk C bk N mN) {P : Params} (KX : (Hd.kk P).In C.hB) (hN : N = Hd.bkN) (h_need : MtAtX C mN 0 "need" (spX_need C.ns)) (hspec : ∀ vs σ Q X, spX_road C.ns vs σ Q X → vs.length = 3 ∧ TX_road C.ns (bindM ["self", "elder", "number"] vs none') σ (fin Q) (fun c _ σ' => X c σ')) : MtAtX C mN 1 "road" (spX_road C.ns) :=
  MtAtX.mk (xs := ["self", "elder", "number"]) G.ok B KX (Hd.m_road P) (by subst hN; exact Hd.mn_road P) rfl rfl rfl rfl rfl (fun ws h => by
    obtain ⟨w0, w1, w2, rfl⟩ := len3 h
    rfl) rfl (bX_road G hz  B h_need) hspec
noncomputable def T_story_1 (ns : List Int) : ST :=
  (sSet "told" (eList lNil))
noncomputable def T_story_2 (ns : List Int) : ST :=
  (sFor (.name "elder") (iOf ns (eMCall "elders" (sp_elders ns) (eName "self") (lCons (eName "number") lNil))) (sSeq (sSet "text" (eMeth tyDict spGet (eBin (opItem ns) (eAttr "trees" (eName "self")) (eName "elder")) (lCons (eName "path") lNil)))
  (sSeq (sSet "alike" (eComp ["self", "path", "text"] (.name "parent") (iOf ns (eBin (opItem ns) (eAttr "made_of" (eName "self")) (eName "elder"))) (tBool (eBin opEq0 (eMeth tyDict spGet (eBin (opItem ns) (eAttr "trees" (eName "self")) (eName "parent")) (lCons (eName "path") lNil)) (eName "text"))) (eName "parent")))
  (sSeq (sIf (tAnd (tBool (eBin opNe (eBin (opItem ns) (eAttr "made_of" (eName "self")) (eName "elder")) (eTup lNil))) (tAnd (tBool (eBin opEqD (eName "alike") (eList lNil))) tT)) (sSeq (sExpr (eMeth tyList spAppend (eName "told") (lCons (eName "elder") lNil)))
  sNil) sNil)
  sNil))))
noncomputable def T_story_3 (ns : List Int) : ST :=
  (sRet (eName "told"))
noncomputable def T_story (ns : List Int) : ST := (sSeq (T_story_1 ns) (sSeq (T_story_2 ns) (sSeq (T_story_3 ns) sNil)))
theorem b_story {C : Cx} (G : Gl C Hd.vw) (hz : C.held = none)  {bk N : Addr} {mN : Str → Option Value} (B : Bk C bk N mN) (h_elders : MtAt C mN 1 "elders" (sp_elders C.ns)) : HS C (Hd.fS (Hd.cB Hd.TB 28) 11) 2 (Hd.fB (Hd.cB Hd.TB 28) 11) (T_story C.ns) :=
  (HS.cons (HS1.set (.inl rfl) (HE.list HL.nil) (fun _ _ => rfl))
  (HS.cons (HS1.for (HT.name rfl) (HI.of G.ok hz (HE.mcall G.ok B h_elders (by decide) ol_elders (HE.cell rfl rfl) (HL.cons (HE.name rfl rfl) HL.nil rfl) rfl (fun _ => rfl) rfl (by decide))) (HS.cons (HS1.set (.inr rfl) (HE.getD G (HE.item G (HE.attr B ol_trees (B.look "trees" (by decide)) (HE.cell rfl rfl) (fun _ => rfl)) (HE.name rfl rfl) rfl) (HL.cons (HE.cell rfl rfl) HL.nil rfl) rfl (fun _ => rfl) rfl (by decide)) (fun _ _ => rfl))
  (HS.cons (HS1.setComp (CompOk.of rfl) (HI.of G.ok hz (HE.item G (HE.attr B ol_made_of (B.look "made_of" (by decide)) (HE.cell rfl rfl) (fun _ => rfl)) (HE.name rfl rfl) rfl)) (HT.name rfl) (HTs.one (HB.cmp ok_eq0 (HE.getD G (HE.item G (HE.attr B ol_trees (B.look "trees" (by decide)) (HE.cell rfl rfl) (fun _ => rfl)) (HE.name rfl rfl) rfl) (HL.cons (HE.cell rfl rfl) HL.nil rfl) rfl (fun _ => rfl) rfl (by decide)) (HE.cell rfl rfl) rfl)) (HE.name rfl rfl) (fun _ _ => rfl) rfl (swaps_local rfl rfl rfl))
  (HS.cons (HS1.ite (HB.boolOp (HBs.and (HB.cmp (ok_neD G.ok) (HE.item G (HE.attr B ol_made_of (B.look "made_of" (by decide)) (HE.cell rfl rfl) (fun _ => rfl)) (HE.name rfl rfl) rfl) (HE.tup HL.nil) rfl) (HBs.and (HB.cmp (ok_eqD G.ok) (HE.name rfl rfl) (HE.list HL.nil) rfl) HBs.andNil))) (HS.cons (HS1.expr (HE.append (HE.name rfl rfl) (HL.cons (HE.name rfl rfl) HL.nil rfl) rfl (fun _ => rfl) rfl (by decide)) (fun _ _ => rfl))
  HS.nil) HS.nil)
  HS.nil))) (fun _ _ => rfl))
  (HS.cons (HS1.ret (HE.name rfl rfl))
  HS.nil)))
theorem f_story {C : Cx} (G : Gl C Hd.vw) (hz : C.held = none)  {bk N : Addr} {mN : Str → Option Value} (B : Bk C bk N mN) {P : Params} (KX : (Hd.kk P).In C.hB) (hN : N = Hd.bkN) (h_elders : MtAt C mN 1 "elders" (sp_elders C.ns)) (hspec : ∀ vs σ Q, sp_story C.ns vs σ Q → vs.length = 3 ∧ T_story C.ns (bindM ["self", "number", "path"] vs none') σ (fin Q)) : MtAt C mN 2 "story" (sp_story C.ns) :=
  MtAt.mk (xs := ["self", "number", "path"]) G.ok B KX (Hd.m_story P) (by subst hN; exact Hd.mn_story P) rfl rfl rfl rfl rfl (fun ws h => by
    obtain ⟨w0, w1, w2, rfl⟩ := len3 h
    rfl) rfl (b_story G hz  B h_elders) hspec
noncomputable def TX_story_1 (ns : List Int) : STX :=
  (xP (sSet "told" (eList lNil)))
noncomputable def TX_story_2 (ns : List Int) : STX :=
  (xForR (xMCall "elders" (spX_elders ns) (eName "self") (lCons (eName "number") lNil)))
noncomputable def TX_story (ns : List Int) : STX := (xSeq (TX_story_1 ns) (xSeq (TX_story_2 ns) (xP sNever)))
theorem bX_story {C : Cx} (G : Gl C Hd.vw) (hz : C.held = none)  {bk N : Addr} {mN : Str → Option Value} (B : Bk C bk N mN) (h_elders : MtAtX C mN 1 "elders" (spX_elders C.ns)) : HSX C (Hd.fS (Hd.cB Hd.TB 28) 11) 2 (Hd.fB (Hd.cB Hd.TB 28) 11) (TX_story C.ns) :=
  (HSX.cons (HSX1.plain (HS1.set (.inl rfl) (HE.list HL.nil) (fun _ _ => rfl)))
  (HSX.cons (HSX1.forR (HEX.mcall G.ok B h_elders (by decide) ol_elders (HE.cell rfl rfl) (HL.cons (HE.name rfl rfl) HL.nil rfl) rfl (fun _ => rfl) rfl (by decide)))
  (HSX.plain HS.never)))
theorem fX_story {C : Cx} (G : Gl C Hd.vw) (hz : C.held = none)  {bk N : Addr} {mN : Str → Option Value} (B : Bk C bk N mN) {P : Params} (KX : (Hd.kk P).In C.hB) (hN : N = Hd.bkN) (h_elders : MtAtX C mN 1 "elders" (spX_elders C.ns)) (hspec : ∀ vs σ Q X, spX_story C.ns vs σ Q X → vs.length = 3 ∧ TX_story C.ns (bindM ["self", "number", "path"] vs none') σ (fin Q) (fun c _ σ' => X c σ')) : MtAtX C mN 2 "story" (spX_story C.ns) :=
  MtAtX.mk (xs := ["self", "number", "path"]) G.ok B KX (Hd.m_story P) (by subst hN; exact Hd.mn_story P) rfl rfl rfl rfl rfl (fun ws h => by
    obtain ⟨w0, w1, w2, rfl⟩ := len3 h
    rfl) rfl (bX_story G hz  B h_elders) hspec
noncomputable def T__law_cell_at_1 (ns : List Int) : ST :=
  (sIf (tBool (eBin opLt (eName "_law_k") (eCall (spLen ns) (lCons (eName "_law_script") lNil)))) (sSeq (sRet (eBin (opItem ns) (eName "_law_script") (eName "_law_k")))
  sNil) sNil)
noncomputable def T__law_cell_at_2 (ns : List Int) : ST :=
  (sRet (eVal (.int 0)))
noncomputable def T__law_cell_at (ns : List Int) : ST := (sSeq (T__law_cell_at_1 ns) (sSeq (T__law_cell_at_2 ns) sNil))
theorem b__law_cell_at {C : Cx} (G : Gl C Hd.vw) (hz : C.held = none)   : HS C (scopeAt Hd.vw 24) 0 (bodyAt Hd.vw 24) (T__law_cell_at C.ns) :=
  (HS.cons (HS1.ite (HB.cmp ok_lt (HE.name rfl rfl) (HE.len G rfl (HL.cons (HE.name rfl rfl) HL.nil rfl) rfl) rfl) (HS.cons (HS1.ret (HE.item G (HE.name rfl rfl) (HE.name rfl rfl) rfl))
  HS.nil) HS.nil)
  (HS.cons (HS1.ret HE.int)
  HS.nil))
theorem f__law_cell_at {C : Cx} (G : Gl C Hd.vw) (hz : C.held = none)   (hspec : ∀ vs σ Q, sp__law_cell_at C.ns vs σ Q → vs.length = 2 ∧ T__law_cell_at C.ns (bindM ["_law_script", "_law_k"] vs none') σ (fin Q)) : FnAt C 0 "_law_cell_at" (sp__law_cell_at C.ns) :=
  FnAt.mk (xs := ["_law_script", "_law_k"]) G 12 24 rfl rfl rfl rfl rfl (fun ws pm code doc h => by
    obtain ⟨w0, w1, rfl⟩ := len2 h
    rfl) rfl (b__law_cell_at G hz  ) hspec
noncomputable def T__law_asked_1 (ns : List Int) : STX :=
  (xIf (tBool (eBin opEq0 (eName "_law_way") (eVal (.int 0)))) (xSeq (xRet (xMCall "tree" (spX_tree ns) (eName "_law_book") (lCons (eName "_law_wrong") lNil)))
  (xP sNil)) (xP sNil))
noncomputable def T__law_asked_2 (ns : List Int) : STX :=
  (xIf (tBool (eBin opEq0 (eName "_law_way") (eVal (.int 1)))) (xSeq (xRet (xMCall "parents" (spX_parents ns) (eName "_law_book") (lCons (eName "_law_wrong") lNil)))
  (xP sNil)) (xP sNil))
noncomputable def T__law_asked_3 (ns : List Int) : STX :=
  (xIf (tBool (eBin opEq0 (eName "_law_way") (eVal (.int 2)))) (xSeq (xRet (xMCall "grow" (spX_grow ns) (eName "_law_book") (lCons (eName "_law_wrong") (lCons (eList (lCons (eTup (lCons (eVal (.str (Str.ofString "cut"))) (lCons (eVal (.str (Str.ofString "a/.."))) lNil))) lNil)) lNil))))
  (xP sNil)) (xP sNil))
noncomputable def T__law_asked_4 (ns : List Int) : STX :=
  (xIf (tBool (eBin opEq0 (eName "_law_way") (eVal (.int 3)))) (xSeq (xRet (xMCall "merge" (spX_merge ns) (eName "_law_book") (lCons (eName "_law_wrong") (lCons (eName "_law_good") (lCons (eDictS1 (eVal (.str (Str.ofString "x"))) (eVal (.str (Str.ofString "y")))) lNil)))))
  (xP sNil)) (xP sNil))
noncomputable def T__law_asked_5 (ns : List Int) : STX :=
  (xIf (tBool (eBin opEq0 (eName "_law_way") (eVal (.int 4)))) (xSeq (xRet (xMCall "merge" (spX_merge ns) (eName "_law_book") (lCons (eName "_law_good") (lCons (eName "_law_wrong") (lCons eDict0 lNil)))))
  (xP sNil)) (xP sNil))
noncomputable def T__law_asked_6 (ns : List Int) : STX :=
  (xIf (tBool (eBin opEq0 (eName "_law_way") (eVal (.int 5)))) (xSeq (xRet (xMCall "elders" (spX_elders ns) (eName "_law_book") (lCons (eName "_law_wrong") lNil)))
  (xP sNil)) (xP sNil))
noncomputable def T__law_asked_7 (ns : List Int) : STX :=
  (xIf (tBool (eBin opEq0 (eName "_law_way") (eVal (.int 6)))) (xSeq (xRet (xMCall "nearest" (spX_nearest ns) (eName "_law_book") (lCons (eName "_law_wrong") (lCons (eName "_law_good") lNil))))
  (xP sNil)) (xP sNil))
noncomputable def T__law_asked_8 (ns : List Int) : STX :=
  (xIf (tBool (eBin opEq0 (eName "_law_way") (eVal (.int 7)))) (xSeq (xRet (xMCall "nearest" (spX_nearest ns) (eName "_law_book") (lCons (eName "_law_good") (lCons (eName "_law_wrong") lNil))))
  (xP sNil)) (xP sNil))
noncomputable def T__law_asked_9 (ns : List Int) : STX :=
  (xIf (tBool (eBin opEq0 (eName "_law_way") (eVal (.int 8)))) (xSeq (xRet (xMCall "road" (spX_road ns) (eName "_law_book") (lCons (eName "_law_wrong") (lCons (eName "_law_good") lNil))))
  (xP sNil)) (xP sNil))
noncomputable def T__law_asked_10 (ns : List Int) : STX :=
  (xIf (tBool (eBin opEq0 (eName "_law_way") (eVal (.int 9)))) (xSeq (xRet (xMCall "road" (spX_road ns) (eName "_law_book") (lCons (eName "_law_good") (lCons (eName "_law_wrong") lNil))))
  (xP sNil)) (xP sNil))
noncomputable def T__law_asked_11 (ns : List Int) : STX :=
  (xIf (tBool (eBin opEq0 (eName "_law_way") (eVal (.int 10)))) (xSeq (xRet (xMCall "story" (spX_story ns) (eName "_law_book") (lCons (eName "_law_wrong") (lCons (eVal (.str (Str.ofString "no path/"))) lNil))))
  (xP sNil)) (xP sNil))
noncomputable def T__law_asked_12 (ns : List Int) : STX :=
  (xIf (tBool (eBin opEq0 (eName "_law_way") (eVal (.int 11)))) (xSeq (xRet (xMCall "merge" (spX_merge ns) (eName "_law_book") (lCons (eName "_law_wrong") (lCons (eName "_law_wrong") (lCons eDict0 lNil)))))
  (xP sNil)) (xP sNil))
noncomputable def T__law_asked_13 (ns : List Int) : STX :=
  (xRet (xMCall "merge" (spX_merge ns) (eName "_law_book") (lCons (eName "_law_good") (lCons (eName "_law_good") (lCons (eBin (opItem ns) (eList (lCons eDict0 (lCons (eDictS1 (eVal (.str (Str.ofString "x"))) (eVal (.str (Str.ofString "y")))) lNil))) (eBin opMod (eName "_law_way") (eVal (.int 2)))) lNil)))))
noncomputable def T__law_asked (ns : List Int) : STX := (xSeq (T__law_asked_1 ns) (xSeq (T__law_asked_2 ns) (xSeq (T__law_asked_3 ns) (xSeq (T__law_asked_4 ns) (xSeq (T__law_asked_5 ns) (xSeq (T__law_asked_6 ns) (xSeq (T__law_asked_7 ns) (xSeq (T__law_asked_8 ns) (xSeq (T__law_asked_9 ns) (xSeq (T__law_asked_10 ns) (xSeq (T__law_asked_11 ns) (xSeq (T__law_asked_12 ns) (xSeq (T__law_asked_13 ns) (xP sNil))))))))))))))
theorem b__law_asked {C : Cx} (G : Gl C Hd.vw) (hz : C.held = none)  {bk N : Addr} {mN : Str → Option Value} (B : Bk C bk N mN) (h_tree : MtAtX C mN 1 "tree" (spX_tree C.ns)) (h_parents : MtAtX C mN 1 "parents" (spX_parents C.ns)) (h_grow : MtAtX C mN 4 "grow" (spX_grow C.ns)) (h_merge : MtAtX C mN 2 "merge" (spX_merge C.ns)) (h_elders : MtAtX C mN 1 "elders" (spX_elders C.ns)) (h_nearest : MtAtX C mN 2 "nearest" (spX_nearest C.ns)) (h_road : MtAtX C mN 1 "road" (spX_road C.ns)) (h_story : MtAtX C mN 2 "story" (spX_story C.ns)) : HSX C (scopeAt Hd.vw 25) 5 (bodyAt Hd.vw 25) (T__law_asked C.ns) :=
  (HSX.cons (HSX1.ite (HB.cmp ok_eq0 (HE.name rfl rfl) HE.int rfl) (HSX.cons (HSX1.ret (HEX.mcall G.ok B h_tree (by decide) ol_tree (HE.name rfl rfl) (HL.cons (HE.name rfl rfl) HL.nil rfl) rfl (fun _ => rfl) rfl (by decide)))
  (HSX.plain HS.nil)) (HSX.plain HS.nil))
  (HSX.cons (HSX1.ite (HB.cmp ok_eq0 (HE.name rfl rfl) HE.int rfl) (HSX.cons (HSX1.ret (HEX.mcall G.ok B h_parents (by decide) ol_parents (HE.name rfl rfl) (HL.cons (HE.name rfl rfl) HL.nil rfl) rfl (fun _ => rfl) rfl (by decide)))
  (HSX.plain HS.nil)) (HSX.plain HS.nil))
  (HSX.cons (HSX1.ite (HB.cmp ok_eq0 (HE.name rfl rfl) HE.int rfl) (HSX.cons (HSX1.ret (HEX.mcall G.ok B h_grow (by decide) ol_grow (HE.name rfl rfl) (HL.cons (HE.name rfl rfl) (HL.cons (HE.list (HL.cons (HE.tup (HL.cons HE.str (HL.cons HE.str HL.nil rfl) rfl)) HL.nil rfl)) HL.nil rfl) rfl) rfl (fun _ => rfl) rfl (by decide)))
  (HSX.plain HS.nil)) (HSX.plain HS.nil))
  (HSX.cons (HSX1.ite (HB.cmp ok_eq0 (HE.name rfl rfl) HE.int rfl) (HSX.cons (HSX1.ret (HEX.mcall G.ok B h_merge (by decide) ol_merge (HE.name rfl rfl) (HL.cons (HE.name rfl rfl) (HL.cons (HE.name rfl rfl) (HL.cons (HE.dictS1 HQ.str HQ.str) HL.nil rfl) rfl) rfl) rfl (fun _ => rfl) rfl (by decide)))
  (HSX.plain HS.nil)) (HSX.plain HS.nil))
  (HSX.cons (HSX1.ite (HB.cmp ok_eq0 (HE.name rfl rfl) HE.int rfl) (HSX.cons (HSX1.ret (HEX.mcall G.ok B h_merge (by decide) ol_merge (HE.name rfl rfl) (HL.cons (HE.name rfl rfl) (HL.cons (HE.name rfl rfl) (HL.cons HE.dict0 HL.nil rfl) rfl) rfl) rfl (fun _ => rfl) rfl (by decide)))
  (HSX.plain HS.nil)) (HSX.plain HS.nil))
  (HSX.cons (HSX1.ite (HB.cmp ok_eq0 (HE.name rfl rfl) HE.int rfl) (HSX.cons (HSX1.ret (HEX.mcall G.ok B h_elders (by decide) ol_elders (HE.name rfl rfl) (HL.cons (HE.name rfl rfl) HL.nil rfl) rfl (fun _ => rfl) rfl (by decide)))
  (HSX.plain HS.nil)) (HSX.plain HS.nil))
  (HSX.cons (HSX1.ite (HB.cmp ok_eq0 (HE.name rfl rfl) HE.int rfl) (HSX.cons (HSX1.ret (HEX.mcall G.ok B h_nearest (by decide) ol_nearest (HE.name rfl rfl) (HL.cons (HE.name rfl rfl) (HL.cons (HE.name rfl rfl) HL.nil rfl) rfl) rfl (fun _ => rfl) rfl (by decide)))
  (HSX.plain HS.nil)) (HSX.plain HS.nil))
  (HSX.cons (HSX1.ite (HB.cmp ok_eq0 (HE.name rfl rfl) HE.int rfl) (HSX.cons (HSX1.ret (HEX.mcall G.ok B h_nearest (by decide) ol_nearest (HE.name rfl rfl) (HL.cons (HE.name rfl rfl) (HL.cons (HE.name rfl rfl) HL.nil rfl) rfl) rfl (fun _ => rfl) rfl (by decide)))
  (HSX.plain HS.nil)) (HSX.plain HS.nil))
  (HSX.cons (HSX1.ite (HB.cmp ok_eq0 (HE.name rfl rfl) HE.int rfl) (HSX.cons (HSX1.ret (HEX.mcall G.ok B h_road (by decide) ol_road (HE.name rfl rfl) (HL.cons (HE.name rfl rfl) (HL.cons (HE.name rfl rfl) HL.nil rfl) rfl) rfl (fun _ => rfl) rfl (by decide)))
  (HSX.plain HS.nil)) (HSX.plain HS.nil))
  (HSX.cons (HSX1.ite (HB.cmp ok_eq0 (HE.name rfl rfl) HE.int rfl) (HSX.cons (HSX1.ret (HEX.mcall G.ok B h_road (by decide) ol_road (HE.name rfl rfl) (HL.cons (HE.name rfl rfl) (HL.cons (HE.name rfl rfl) HL.nil rfl) rfl) rfl (fun _ => rfl) rfl (by decide)))
  (HSX.plain HS.nil)) (HSX.plain HS.nil))
  (HSX.cons (HSX1.ite (HB.cmp ok_eq0 (HE.name rfl rfl) HE.int rfl) (HSX.cons (HSX1.ret (HEX.mcall G.ok B h_story (by decide) ol_story (HE.name rfl rfl) (HL.cons (HE.name rfl rfl) (HL.cons HE.str HL.nil rfl) rfl) rfl (fun _ => rfl) rfl (by decide)))
  (HSX.plain HS.nil)) (HSX.plain HS.nil))
  (HSX.cons (HSX1.ite (HB.cmp ok_eq0 (HE.name rfl rfl) HE.int rfl) (HSX.cons (HSX1.ret (HEX.mcall G.ok B h_merge (by decide) ol_merge (HE.name rfl rfl) (HL.cons (HE.name rfl rfl) (HL.cons (HE.name rfl rfl) (HL.cons HE.dict0 HL.nil rfl) rfl) rfl) rfl (fun _ => rfl) rfl (by decide)))
  (HSX.plain HS.nil)) (HSX.plain HS.nil))
  (HSX.cons (HSX1.ret (HEX.mcall G.ok B h_merge (by decide) ol_merge (HE.name rfl rfl) (HL.cons (HE.name rfl rfl) (HL.cons (HE.name rfl rfl) (HL.cons (HE.item G (HE.list (HL.cons HE.dict0 (HL.cons (HE.dictS1 HQ.str HQ.str) HL.nil rfl) rfl)) (HE.bin ok_mod (HE.name rfl rfl) HE.int) rfl) HL.nil rfl) rfl) rfl) rfl (fun _ => rfl) rfl (by decide)))
  (HSX.plain HS.nil))))))))))))))
theorem f__law_asked {C : Cx} (G : Gl C Hd.vw) (hz : C.held = none)  {bk N : Addr} {mN : Str → Option Value} (B : Bk C bk N mN) (h_tree : MtAtX C mN 1 "tree" (spX_tree C.ns)) (h_parents : MtAtX C mN 1 "parents" (spX_parents C.ns)) (h_grow : MtAtX C mN 4 "grow" (spX_grow C.ns)) (h_merge : MtAtX C mN 2 "merge" (spX_merge C.ns)) (h_elders : MtAtX C mN 1 "elders" (spX_elders C.ns)) (h_nearest : MtAtX C mN 2 "nearest" (spX_nearest C.ns)) (h_road : MtAtX C mN 1 "road" (spX_road C.ns)) (h_story : MtAtX C mN 2 "story" (spX_story C.ns)) (hspec : ∀ vs σ Q X, sp__law_asked C.ns vs σ Q X → vs.length = 4 ∧ T__law_asked C.ns (bindM ["_law_book", "_law_way", "_law_wrong", "_law_good"] vs none') σ (fin Q) (fun c _ σ' => X c σ')) : FnAtX C 5 "_law_asked" (sp__law_asked C.ns) :=
  FnAtX.mk (xs := ["_law_book", "_law_way", "_law_wrong", "_law_good"]) G 13 25 rfl rfl rfl rfl rfl (fun ws pm code doc h => by
    obtain ⟨w0, w1, w2, w3, rfl⟩ := len4 h
    rfl) rfl (b__law_asked G hz  B h_tree h_parents h_grow h_merge h_elders h_nearest h_road h_story) hspec
noncomputable def T__law_told_1 (ns : List Int) (ad : String → Addr) : STX :=
  (xTry "e" csX (xSeq (xExpr (xCall (sp__law_asked ns) (lCons (eName "_law_book") (lCons (eName "_law_way") (lCons (eName "_law_wrong") (lCons (eName "_law_good") lNil))))))
  (xP sNil)) (fun e c => (sSeq (sSet "_law_some" (eList (lCons (eTup (lCons (eVal (.str (Str.ofString "NoVersion"))) (lCons (eCall (spIsX e (.ref (ad "NoVersion")) (subX c "NoVersion")) (lCons (eName "e") (lCons (eVal (.ref (ad "NoVersion"))) lNil))) lNil))) (lCons (eTup (lCons (eVal (.str (Str.ofString "SameVersion"))) (lCons (eCall (spIsX e (.ref (ad "SameVersion")) (subX c "SameVersion")) (lCons (eName "e") (lCons (eVal (.ref (ad "SameVersion"))) lNil))) lNil))) lNil))))
  (sSeq (sSet "_law_some" (eBin opAdd (eName "_law_some") (eList (lCons (eTup (lCons (eVal (.str (Str.ofString "NoClash"))) (lCons (eCall (spIsX e (.ref (ad "NoClash")) (subX c "NoClash")) (lCons (eName "e") (lCons (eVal (.ref (ad "NoClash"))) lNil))) lNil))) (lCons (eTup (lCons (eVal (.str (Str.ofString "Clashed"))) (lCons (eCall (spIsX e (.ref (ad "Clashed")) (subX c "Clashed")) (lCons (eName "e") (lCons (eVal (.ref (ad "Clashed"))) lNil))) lNil))) lNil)))))
  (sSeq (sSet "_law_some" (eBin opAdd (eName "_law_some") (eList (lCons (eTup (lCons (eVal (.str (Str.ofString "NoPath"))) (lCons (eCall (spIsX e (.ref (ad "NoPath")) (subX c "NoPath")) (lCons (eName "e") (lCons (eVal (.ref (ad "NoPath"))) lNil))) lNil))) (lCons (eTup (lCons (eVal (.str (Str.ofString "NoFile"))) (lCons (eCall (spIsX e (.ref (ad "NoFile")) (subX c "NoFile")) (lCons (eName "e") (lCons (eVal (.ref (ad "NoFile"))) lNil))) lNil))) lNil)))))
  (sSeq (sSet "_law_some" (eBin opAdd (eName "_law_some") (eList (lCons (eTup (lCons (eVal (.str (Str.ofString "InTheWay"))) (lCons (eCall (spIsX e (.ref (ad "InTheWay")) (subX c "InTheWay")) (lCons (eName "e") (lCons (eVal (.ref (ad "InTheWay"))) lNil))) lNil))) lNil))))
  (sSeq (sRet (eBin opMulS (eMeth tyStr spJoin (eVal (.str (Str.ofString ""))) (lCons (eComp [] (.tup ["_law_word", "_law_fits"]) (iList (eName "_law_some")) (tBool (eName "_law_fits")) (eName "_law_word")) lNil)) (eCall spInt (lCons (eCall (spIsX e (.ty "ValueError") true) (lCons (eName "e") (lCons (eVal (.ty "ValueError")) lNil))) lNil))))
  sNil)))))))
noncomputable def T__law_told_2 (ns : List Int) : ST :=
  (sRet (eVal (.str (Str.ofString "made"))))
noncomputable def T__law_told (ns : List Int) (ad : String → Addr) : STX := (xSeq (T__law_told_1 ns ad) (xP (sSeq (T__law_told_2 ns) sNil)))
theorem b__law_told {C : Cx} (G : Gl C Hd.vw) (hz : C.held = none)  {ad : String → Addr} (Tb : XTab C csX ksX ad) (h__law_asked : FnAtX C 5 "_law_asked" (sp__law_asked C.ns)) : HSX C (scopeAt Hd.vw 26) 6 (bodyAt Hd.vw 26) (T__law_told C.ns ad) :=
  (HSX.cons (HSX1.tryAt G hz Tb (HSX.cons (HSX1.exprX (HEX.callAt G h__law_asked (by decide) rfl rfl (HL.cons (HE.name rfl rfl) (HL.cons (HE.name rfl rfl) (HL.cons (HE.name rfl rfl) (HL.cons (HE.name rfl rfl) HL.nil rfl) rfl) rfl) rfl) rfl) (fun _ _ => rfl))
  (HSX.plain HS.nil)) (by decide) (by decide) rfl rfl rfl (fun e o vs c hc hez hof hcls hd h2 => (HS.cons (HS1.set (.inl rfl) (HE.list (HL.cons (HE.tup (HL.cons HE.str (HL.cons (HE.isK G Tb hc hez hof hcls hd h2 (by decide) rfl rfl rfl rfl rfl) HL.nil rfl) rfl)) (HL.cons (HE.tup (HL.cons HE.str (HL.cons (HE.isK G Tb hc hez hof hcls hd h2 (by decide) rfl rfl rfl rfl rfl) HL.nil rfl) rfl)) HL.nil rfl) rfl)) (fun _ _ => rfl))
  (HS.cons (HS1.set (.inl rfl) (HE.bin ok_add (HE.name rfl rfl) (HE.list (HL.cons (HE.tup (HL.cons HE.str (HL.cons (HE.isK G Tb hc hez hof hcls hd h2 (by decide) rfl rfl rfl rfl rfl) HL.nil rfl) rfl)) (HL.cons (HE.tup (HL.cons HE.str (HL.cons (HE.isK G Tb hc hez hof hcls hd h2 (by decide) rfl rfl rfl rfl rfl) HL.nil rfl) rfl)) HL.nil rfl) rfl))) (fun _ _ => rfl))
  (HS.cons (HS1.set (.inl rfl) (HE.bin ok_add (HE.name rfl rfl) (HE.list (HL.cons (HE.tup (HL.cons HE.str (HL.cons (HE.isK G Tb hc hez hof hcls hd h2 (by decide) rfl rfl rfl rfl rfl) HL.nil rfl) rfl)) (HL.cons (HE.tup (HL.cons HE.str (HL.cons (HE.isK G Tb hc hez hof hcls hd h2 (by decide) rfl rfl rfl rfl rfl) HL.nil rfl) rfl)) HL.nil rfl) rfl))) (fun _ _ => rfl))
  (HS.cons (HS1.set (.inl rfl) (HE.bin ok_add (HE.name rfl rfl) (HE.list (HL.cons (HE.tup (HL.cons HE.str (HL.cons (HE.isK G Tb hc hez hof hcls hd h2 (by decide) rfl rfl rfl rfl rfl) HL.nil rfl) rfl)) HL.nil rfl))) (fun _ _ => rfl))
  (HS.cons (HS1.ret (HE.bin ok_mulS (HE.join HE.str (HL.cons (HE.comp (CompOk.of rfl) (HI.list (G.hold hez hof hd h2).ok (HE.name rfl rfl)) (HT.tup (G.hold hez hof hd h2).ok (l := [("_law_word", _), ("_law_fits", _)]) (by decide)) (HTs.one (HB.val (HE.name rfl rfl) (fun _ _ => rfl))) (HE.name rfl rfl) (fun _ _ => rfl)) HL.nil rfl) rfl (fun _ => rfl) rfl (by decide)) (HE.intC (G.hold hez hof hd h2) rfl (HL.cons (HE.isV G Tb hc hez hof hcls hd h2 rfl rfl rfl rfl) HL.nil rfl) rfl)))
  HS.nil)))))))
  (HSX.plain (HS.cons (HS1.ret HE.str)
  HS.nil)))
theorem f__law_told {C : Cx} (G : Gl C Hd.vw) (hz : C.held = none)  {ad : String → Addr} (Tb : XTab C csX ksX ad) (h__law_asked : FnAtX C 5 "_law_asked" (sp__law_asked C.ns)) (hspec : ∀ vs σ Q X, sp__law_told C.ns vs σ Q X → vs.length = 4 ∧ T__law_told C.ns ad (bindM ["_law_book", "_law_way", "_law_wrong", "_law_good"] vs none') σ (fin Q) (fun c _ σ' => X c σ')) : FnAtX C 6 "_law_told" (sp__law_told C.ns) :=
  FnAtX.mk (xs := ["_law_book", "_law_way", "_law_wrong", "_law_good"]) G 14 26 rfl rfl rfl rfl rfl (fun ws pm code doc h => by
    obtain ⟨w0, w1, w2, w3, rfl⟩ := len4 h
    rfl) rfl (b__law_told G hz  Tb h__law_asked) hspec
noncomputable def T__law_there_then_1 (ns : List Int) : ST :=
  (sSet "_law_tree" (eMCall "tree" (sp_tree ns) (eName "_law_book") (lCons (eName "_law_good") lNil)))
noncomputable def T__law_there_then_2 (ns : List Int) : ST :=
  (sSetItem setD (eVal (.str (Str.ofString "x"))) (eName "_law_tree") (eVal (.str (Str.ofString "later"))))
noncomputable def T__law_there_then_3 (ns : List Int) : ST :=
  (sIf (tOr (tBool (eBin opNe0 (eMCall "grow" (sp_grow ns) (eName "_law_book") (lCons (eName "_law_good") (lCons (eList (lCons (eTup (lCons (eVal (.str (Str.ofString "put"))) (lCons (eVal (.str (Str.ofString "later"))) (lCons (eVal (.str (Str.ofString "x"))) lNil)))) lNil)) lNil))) (eName "_law_many"))) (tOr (tBool (eBin opNe0 (eMCall "many" (sp_many ns) (eName "_law_book") lNil) (eBin opAdd (eName "_law_many") (eVal (.int 1))))) (tOr (tBool (eBin opNe (eMCall "tree" (sp_tree ns) (eName "_law_book") (lCons (eName "_law_many") lNil)) (eName "_law_tree"))) tF))) (sSeq (sRet (eVal (.bool false)))
  sNil) sNil)
noncomputable def T__law_there_then_4 (ns : List Int) : ST :=
  (sIf (tOr (tBool (eBin opNe (eMCall "parents" (sp_parents ns) (eName "_law_book") (lCons (eName "_law_many") lNil)) (eTup (lCons (eName "_law_good") lNil)))) (tOr (tBool (eBin opNe (eMCall "elders" (sp_elders ns) (eName "_law_book") (lCons (eName "_law_many") lNil)) (eBin opAdd (eMCall "elders" (sp_elders ns) (eName "_law_book") (lCons (eName "_law_good") lNil)) (eList (lCons (eName "_law_many") lNil))))) tF)) (sSeq (sRet (eVal (.bool false)))
  sNil) sNil)
noncomputable def T__law_there_then_5 (ns : List Int) : ST :=
  (sIf (tOr (tBool (eBin opNe0 (eMCall "nearest" (sp_nearest ns) (eName "_law_book") (lCons (eName "_law_many") (lCons (eName "_law_good") lNil))) (eName "_law_good"))) (tOr (tBool (eBin opNe (eMCall "road" (sp_road ns) (eName "_law_book") (lCons (eName "_law_good") (lCons (eName "_law_many") lNil))) (eList (lCons (eName "_law_good") (lCons (eName "_law_many") lNil))))) (tOr (tBool (eBin opIsNot (eMCall "road" (sp_road ns) (eName "_law_book") (lCons (eName "_law_many") (lCons (eName "_law_good") lNil))) (eVal .none))) tF))) (sSeq (sRet (eVal (.bool false)))
  sNil) sNil)
noncomputable def T__law_there_then_6 (ns : List Int) : ST :=
  (sRet (eAnd (eBin opEqD (eMCall "story" (sp_story ns) (eName "_law_book") (lCons (eName "_law_many") (lCons (eVal (.str (Str.ofString "later"))) lNil))) (eList (lCons (eName "_law_many") lNil))) (eBin opEq0 (eMCall "grow" (sp_grow ns) (eName "_law_book") (lCons (eName "_law_many") (lCons (eList lNil) lNil))) (eBin opAdd (eName "_law_many") (eVal (.int 1))))))
noncomputable def T__law_there_then (ns : List Int) : ST := (sSeq (T__law_there_then_1 ns) (sSeq (T__law_there_then_2 ns) (sSeq (T__law_there_then_3 ns) (sSeq (T__law_there_then_4 ns) (sSeq (T__law_there_then_5 ns) (sSeq (T__law_there_then_6 ns) sNil))))))
theorem b__law_there_then {C : Cx} (G : Gl C Hd.vw) (hz : C.held = none)  {bk N : Addr} {mN : Str → Option Value} (B : Bk C bk N mN) (h_tree : MtAt C mN 1 "tree" (sp_tree C.ns)) (h_grow : MtAt C mN 4 "grow" (sp_grow C.ns)) (h_many : MtAt C mN 0 "many" (sp_many C.ns)) (h_parents : MtAt C mN 1 "parents" (sp_parents C.ns)) (h_elders : MtAt C mN 1 "elders" (sp_elders C.ns)) (h_nearest : MtAt C mN 2 "nearest" (sp_nearest C.ns)) (h_road : MtAt C mN 1 "road" (sp_road C.ns)) (h_story : MtAt C mN 2 "story" (sp_story C.ns)) : HS C (scopeAt Hd.vw 27) 5 (bodyAt Hd.vw 27) (T__law_there_then C.ns) :=
  (HS.cons (HS1.set (.inl rfl) (HE.mcall G.ok B h_tree (by decide) ol_tree (HE.name rfl rfl) (HL.cons (HE.name rfl rfl) HL.nil rfl) rfl (fun _ => rfl) rfl (by decide)) (fun _ _ => rfl))
  (HS.cons (HS1.setItem ok_setD HE.str (HE.name rfl rfl) HE.str (fun _ _ => rfl))
  (HS.cons (HS1.ite (HB.boolOp (HBs.or (HB.cmp ok_ne0 (HE.mcall G.ok B h_grow (by decide) ol_grow (HE.name rfl rfl) (HL.cons (HE.name rfl rfl) (HL.cons (HE.list (HL.cons (HE.tup (HL.cons HE.str (HL.cons HE.str (HL.cons HE.str HL.nil rfl) rfl) rfl)) HL.nil rfl)) HL.nil rfl) rfl) rfl (fun _ => rfl) rfl (by decide)) (HE.name rfl rfl) rfl) (HBs.or (HB.cmp ok_ne0 (HE.mcall G.ok B h_many (by decide) ol_many (HE.name rfl rfl) HL.nil rfl (fun _ => rfl) rfl (by decide)) (HE.bin ok_add (HE.name rfl rfl) HE.int) rfl) (HBs.or (HB.cmp (ok_neD G.ok) (HE.mcall G.ok B h_tree (by decide) ol_tree (HE.name rfl rfl) (HL.cons (HE.name rfl rfl) HL.nil rfl) rfl (fun _ => rfl) rfl (by decide)) (HE.name rfl rfl) rfl) HBs.orNil)))) (HS.cons (HS1.ret HE.bool)
  HS.nil) HS.nil)
  (HS.cons (HS1.ite (HB.boolOp (HBs.or (HB.cmp (ok_neD G.ok) (HE.mcall G.ok B h_parents (by decide) ol_parents (HE.name rfl rfl) (HL.cons (HE.name rfl rfl) HL.nil rfl) rfl (fun _ => rfl) rfl (by decide)) (HE.tup (HL.cons (HE.name rfl rfl) HL.nil rfl)) rfl) (HBs.or (HB.cmp (ok_neD G.ok) (HE.mcall G.ok B h_elders (by decide) ol_elders (HE.name rfl rfl) (HL.cons (HE.name rfl rfl) HL.nil rfl) rfl (fun _ => rfl) rfl (by decide)) (HE.bin ok_add (HE.mcall G.ok B h_elders (by decide) ol_elders (HE.name rfl rfl) (HL.cons (HE.name rfl rfl) HL.nil rfl) rfl (fun _ => rfl) rfl (by decide)) (HE.list (HL.cons (HE.name rfl rfl) HL.nil rfl))) rfl) HBs.orNil))) (HS.cons (HS1.ret HE.bool)
  HS.nil) HS.nil)
  (HS.cons (HS1.ite (HB.boolOp (HBs.or (HB.cmp ok_ne0 (HE.mcall G.ok B h_nearest (by decide) ol_nearest (HE.name rfl rfl) (HL.cons (HE.name rfl rfl) (HL.cons (HE.name rfl rfl) HL.nil rfl) rfl) rfl (fun _ => rfl) rfl (by decide)) (HE.name rfl rfl) rfl) (HBs.or (HB.cmp (ok_neD G.ok) (HE.mcall G.ok B h_road (by decide) ol_road (HE.name rfl rfl) (HL.cons (HE.name rfl rfl) (HL.cons (HE.name rfl rfl) HL.nil rfl) rfl) rfl (fun _ => rfl) rfl (by decide)) (HE.list (HL.cons (HE.name rfl rfl) (HL.cons (HE.name rfl rfl) HL.nil rfl) rfl)) rfl) (HBs.or (HB.cmp ok_isNot (HE.mcall G.ok B h_road (by decide) ol_road (HE.name rfl rfl) (HL.cons (HE.name rfl rfl) (HL.cons (HE.name rfl rfl) HL.nil rfl) rfl) rfl (fun _ => rfl) rfl (by decide)) HE.none rfl) HBs.orNil)))) (HS.cons (HS1.ret HE.bool)
  HS.nil) HS.nil)
  (HS.cons (HS1.ret (HE.boolOp (HVs.and (HE.cmp (ok_eqD G.ok) (HE.mcall G.ok B h_story (by decide) ol_story (HE.name rfl rfl) (HL.cons (HE.name rfl rfl) (HL.cons HE.str HL.nil rfl) rfl) rfl (fun _ => rfl) rfl (by decide)) (HE.list (HL.cons (HE.name rfl rfl) HL.nil rfl)) rfl) (HVs.one (HE.cmp ok_eq0 (HE.mcall G.ok B h_grow (by decide) ol_grow (HE.name rfl rfl) (HL.cons (HE.name rfl rfl) (HL.cons (HE.list HL.nil) HL.nil rfl) rfl) rfl (fun _ => rfl) rfl (by decide)) (HE.bin ok_add (HE.name rfl rfl) HE.int) rfl)))))
  HS.nil))))))
theorem f__law_there_then {C : Cx} (G : Gl C Hd.vw) (hz : C.held = none)  {bk N : Addr} {mN : Str → Option Value} (B : Bk C bk N mN) (h_tree : MtAt C mN 1 "tree" (sp_tree C.ns)) (h_grow : MtAt C mN 4 "grow" (sp_grow C.ns)) (h_many : MtAt C mN 0 "many" (sp_many C.ns)) (h_parents : MtAt C mN 1 "parents" (sp_parents C.ns)) (h_elders : MtAt C mN 1 "elders" (sp_elders C.ns)) (h_nearest : MtAt C mN 2 "nearest" (sp_nearest C.ns)) (h_road : MtAt C mN 1 "road" (sp_road C.ns)) (h_story : MtAt C mN 2 "story" (sp_story C.ns)) (hspec : ∀ vs σ Q, sp__law_there_then C.ns vs σ Q → vs.length = 3 ∧ T__law_there_then C.ns (bindM ["_law_book", "_law_many", "_law_good"] vs none') σ (fin Q)) : FnAt C 5 "_law_there_then" (sp__law_there_then C.ns) :=
  FnAt.mk (xs := ["_law_book", "_law_many", "_law_good"]) G 15 27 rfl rfl rfl rfl rfl (fun ws pm code doc h => by
    obtain ⟨w0, w1, w2, rfl⟩ := len3 h
    rfl) rfl (b__law_there_then G hz  B h_tree h_grow h_many h_parents h_elders h_nearest h_road h_story) hspec
noncomputable def T_law_1 (ns : List Int) : STX :=
  (xP (sSet "_law_book" (eNew (sp___init__ ns))))
noncomputable def T_law_2 (ns : List Int) : STX :=
  (xP (sSet "_law_beside" (eNew (sp___init__ ns))))
noncomputable def T_law_3 (ns : List Int) : STX :=
  (xP (sSet "_law_many" (eBin opAdd (eVal (.int 1)) (eBin opMod (eCall (sp__law_cell_at ns) (lCons (eName "_law_script") (lCons (eVal (.int 0)) lNil))) (eVal (.int 6))))))
noncomputable def T_law_4 (ns : List Int) : STX :=
  (xP (sFor (.name "_law_k") (iRange (lCons (eVal (.int 1)) (lCons (eName "_law_many") lNil))) (sSeq (sExpr (eMCall "grow" (sp_grow ns) (eName "_law_book") (lCons (eBin opMod (eCall (sp__law_cell_at ns) (lCons (eName "_law_script") (lCons (eBin opAdd (eVal (.int 2)) (eName "_law_k")) lNil))) (eName "_law_k")) (lCons (eList (lCons (eTup (lCons (eVal (.str (Str.ofString "put"))) (lCons (eBin opAdd (eVal (.str (Str.ofString "v"))) (eCall spStr (lCons (eName "_law_k") lNil))) (lCons (eVal (.str (Str.ofString ""))) lNil)))) lNil)) lNil))))
  sNil)))
noncomputable def T_law_5 (ns : List Int) : STX :=
  (xP (sSet "_law_cell" (eCall (sp__law_cell_at ns) (lCons (eName "_law_script") (lCons (eVal (.int 1)) lNil)))))
noncomputable def T_law_6 (ns : List Int) : STX :=
  (xP (sSet "_law_good" (eBin opMod (eBin opDiv (eName "_law_cell") (eVal (.int 5))) (eName "_law_many"))))
noncomputable def T_law_7 (ns : List Int) : STX :=
  (xP (sSet "_law_far" (eBin (opItem ns) (eList (lCons (eVal (.int 0)) (lCons (eBin opMod (eBin opDiv (eName "_law_cell") (eVal (.int 90))) (eVal (.int 1001))) (lCons (eBin opAdd (eBin opPow (eVal (.int 10)) (eVal (.int 20))) (eBin opMod (eBin opDiv (eName "_law_cell") (eVal (.int 90))) (eVal (.int 1001)))) lNil)))) (eBin opMod (eBin opDiv (eName "_law_cell") (eVal (.int 30))) (eVal (.int 3))))))
noncomputable def T_law_8 (ns : List Int) : STX :=
  (xP (sSet "_law_wrong" (eBin (opItem ns) (eList (lCons (eBin opAdd (eName "_law_many") (eName "_law_far")) (lCons (eBin opSub (eBin opSub (eVal (.int 0)) (eVal (.int 1))) (eName "_law_far")) (lCons (eVal (.bool true)) (lCons (eVal (.bool false)) (lCons (eBin opSub (eVal (.int 0)) (eName "_law_many")) lNil)))))) (eBin opMod (eName "_law_cell") (eVal (.int 5))))))
noncomputable def T_law_9 (ns : List Int) : STX :=
  (xFor (.name "_law_way") (iRange (lCons (eVal (.int 14)) lNil)) (xSeq (xP (sSet "_law_word" (eVal (.str (Str.ofString "NoVersion")))))
  (xSeq (xP (sIf (tBool (eBin opGt (eName "_law_way") (eVal (.int 11)))) (sSeq (sSet "_law_word" (eVal (.str (Str.ofString "SameVersion"))))
  sNil) sNil))
  (xSeq (xIfX (xCmp opNe0 (xCall (sp__law_told ns) (lCons (eName "_law_book") (lCons (eName "_law_way") (lCons (eName "_law_wrong") (lCons (eName "_law_good") lNil))))) (eName "_law_word")) (xP (sSeq (sRet (eVal (.bool false)))
  sNil)) (xP sNil))
  (xP sNil)))))
noncomputable def T_law_10 (ns : List Int) : ST :=
  (sIf (tOr (tBool (eBin opNe0 (eMCall "many" (sp_many ns) (eName "_law_book") lNil) (eName "_law_many"))) (tOr (tBool (eBin opNe0 (eMCall "many" (sp_many ns) (eName "_law_beside") lNil) (eVal (.int 1)))) (tOr (tBool (eBin opNe (eMCall "tree" (sp_tree ns) (eName "_law_beside") (lCons (eVal (.int 0)) lNil)) eDict0)) (tOr (tBool (eBin opNe (eMCall "parents" (sp_parents ns) (eName "_law_beside") (lCons (eVal (.int 0)) lNil)) (eTup lNil))) tF)))) (sSeq (sRet (eVal (.bool false)))
  sNil) sNil)
noncomputable def T_law_11 (ns : List Int) : ST :=
  (sIf (tOr (tBool (eBin opNe0 (eMCall "grow" (sp_grow ns) (eName "_law_beside") (lCons (eVal (.int 0)) (lCons (eList (lCons (eTup (lCons (eVal (.str (Str.ofString "put"))) (lCons (eVal (.str (Str.ofString "beside"))) (lCons (eVal (.str (Str.ofString "b"))) lNil)))) lNil)) lNil))) (eVal (.int 1)))) (tOr (tBool (eBin opNe (eMCall "tree" (sp_tree ns) (eName "_law_beside") (lCons (eVal (.int 1)) lNil)) (eDictS1 (eVal (.str (Str.ofString "beside"))) (eVal (.str (Str.ofString "b")))))) (tOr (tBool (eBin opNe0 (eMCall "many" (sp_many ns) (eName "_law_book") lNil) (eName "_law_many"))) tF))) (sSeq (sRet (eVal (.bool false)))
  sNil) sNil)
noncomputable def T_law_12 (ns : List Int) : ST :=
  (sRet (eCall (sp__law_there_then ns) (lCons (eName "_law_book") (lCons (eName "_law_many") (lCons (eName "_law_good") lNil)))))
noncomputable def T_law (ns : List Int) : STX := (xSeq (T_law_1 ns) (xSeq (T_law_2 ns) (xSeq (T_law_3 ns) (xSeq (T_law_4 ns) (xSeq (T_law_5 ns) (xSeq (T_law_6 ns) (xSeq (T_law_7 ns) (xSeq (T_law_8 ns) (xSeq (T_law_9 ns) (xP (sSeq (T_law_10 ns) (sSeq (T_law_11 ns) (sSeq (T_law_12 ns) sNil)))))))))))))
theorem b_law {C : Cx} (G : Gl C Hd.vw) (hz : C.held = none)  {bk N : Addr} {mN : Str → Option Value} (B : Bk C bk N mN) (h___init__ : MtAt C mN 0 "__init__" (sp___init__ C.ns)) (h__law_cell_at : FnAt C 0 "_law_cell_at" (sp__law_cell_at C.ns)) (h_grow : MtAt C mN 4 "grow" (sp_grow C.ns)) (h__law_told : FnAtX C 6 "_law_told" (sp__law_told C.ns)) (h_many : MtAt C mN 0 "many" (sp_many C.ns)) (h_tree : MtAt C mN 1 "tree" (sp_tree C.ns)) (h_parents : MtAt C mN 1 "parents" (sp_parents C.ns)) (h__law_there_then : FnAt C 5 "_law_there_then" (sp__law_there_then C.ns)) : HSX C (scopeAt Hd.vw 28) 7 (bodyAt Hd.vw 28) (T_law C.ns) :=
  (HSX.cons (HSX1.plain (HS1.set (.inl rfl) (HE.new G.ok B h___init__ (by decide) rfl) (fun _ _ => rfl)))
  (HSX.cons (HSX1.plain (HS1.set (.inl rfl) (HE.new G.ok B h___init__ (by decide) rfl) (fun _ _ => rfl)))
  (HSX.cons (HSX1.plain (HS1.set (.inl rfl) (HE.bin ok_add HE.int (HE.bin ok_mod (HE.callAt G h__law_cell_at (by decide) rfl rfl (HL.cons (HE.name rfl rfl) (HL.cons HE.int HL.nil rfl) rfl) rfl) HE.int)) (fun _ _ => rfl)))
  (HSX.cons (HSX1.plain (HS1.for (HT.name rfl) (HI.rng G hz rfl (HL.cons HE.int (HL.cons (HE.name rfl rfl) HL.nil rfl) rfl) rfl) (HS.cons (HS1.expr (HE.mcall G.ok B h_grow (by decide) ol_grow (HE.name rfl rfl) (HL.cons (HE.bin ok_mod (HE.callAt G h__law_cell_at (by decide) rfl rfl (HL.cons (HE.name rfl rfl) (HL.cons (HE.bin ok_add HE.int (HE.name rfl rfl)) HL.nil rfl) rfl) rfl) (HE.name rfl rfl)) (HL.cons (HE.list (HL.cons (HE.tup (HL.cons HE.str (HL.cons (HE.bin ok_add HE.str (HE.strC G rfl (HL.cons (HE.name rfl rfl) HL.nil rfl) rfl)) (HL.cons HE.str HL.nil rfl) rfl) rfl)) HL.nil rfl)) HL.nil rfl) rfl) rfl (fun _ => rfl) rfl (by decide)) (fun _ _ => rfl))
  HS.nil) (fun _ _ => rfl)))
  (HSX.cons (HSX1.plain (HS1.set (.inl rfl) (HE.callAt G h__law_cell_at (by decide) rfl rfl (HL.cons (HE.name rfl rfl) (HL.cons HE.int HL.nil rfl) rfl) rfl) (fun _ _ => rfl)))
  (HSX.cons (HSX1.plain (HS1.set (.inl rfl) (HE.bin ok_mod (HE.bin ok_div (HE.name rfl rfl) HE.int) (HE.name rfl rfl)) (fun _ _ => rfl)))
  (HSX.cons (HSX1.plain (HS1.set (.inl rfl) (HE.item G (HE.list (HL.cons HE.int (HL.cons (HE.bin ok_mod (HE.bin ok_div (HE.name rfl rfl) HE.int) HE.int) (HL.cons (HE.bin ok_add (HE.bin ok_pow HE.int HE.int) (HE.bin ok_mod (HE.bin ok_div (HE.name rfl rfl) HE.int) HE.int)) HL.nil rfl) rfl) rfl)) (HE.bin ok_mod (HE.bin ok_div (HE.name rfl rfl) HE.int) HE.int) rfl) (fun _ _ => rfl)))
  (HSX.cons (HSX1.plain (HS1.set (.inl rfl) (HE.item G (HE.list (HL.cons (HE.bin ok_add (HE.name rfl rfl) (HE.name rfl rfl)) (HL.cons (HE.bin ok_sub (HE.bin ok_sub HE.int HE.int) (HE.name rfl rfl)) (HL.cons HE.bool (HL.cons HE.bool (HL.cons (HE.bin ok_sub HE.int (HE.name rfl rfl)) HL.nil rfl) rfl) rfl) rfl) rfl)) (HE.bin ok_mod (HE.name rfl rfl) HE.int) rfl) (fun _ _ => rfl)))
  (HSX.cons (HSX1.for (HT.name rfl) (HI.rng G hz rfl (HL.cons HE.int HL.nil rfl) rfl) (HSX.cons (HSX1.plain (HS1.set (.inl rfl) HE.str (fun _ _ => rfl)))
  (HSX.cons (HSX1.plain (HS1.ite (HB.cmp ok_gt (HE.name rfl rfl) HE.int rfl) (HS.cons (HS1.set (.inl rfl) HE.str (fun _ _ => rfl))
  HS.nil) HS.nil))
  (HSX.cons (HSX1.iteX (HBX.cmp ok_ne0 (HEX.callAt G h__law_told (by decide) rfl rfl (HL.cons (HE.name rfl rfl) (HL.cons (HE.name rfl rfl) (HL.cons (HE.name rfl rfl) (HL.cons (HE.name rfl rfl) HL.nil rfl) rfl) rfl) rfl) rfl) (HE.name rfl rfl) rfl) (HSX.plain (HS.cons (HS1.ret HE.bool)
  HS.nil)) (HSX.plain HS.nil))
  (HSX.plain HS.nil)))) (fun _ _ => rfl))
  (HSX.plain (HS.cons (HS1.ite (HB.boolOp (HBs.or (HB.cmp ok_ne0 (HE.mcall G.ok B h_many (by decide) ol_many (HE.name rfl rfl) HL.nil rfl (fun _ => rfl) rfl (by decide)) (HE.name rfl rfl) rfl) (HBs.or (HB.cmp ok_ne0 (HE.mcall G.ok B h_many (by decide) ol_many (HE.name rfl rfl) HL.nil rfl (fun _ => rfl) rfl (by decide)) HE.int rfl) (HBs.or (HB.cmp (ok_neD G.ok) (HE.mcall G.ok B h_tree (by decide) ol_tree (HE.name rfl rfl) (HL.cons HE.int HL.nil rfl) rfl (fun _ => rfl) rfl (by decide)) HE.dict0 rfl) (HBs.or (HB.cmp (ok_neD G.ok) (HE.mcall G.ok B h_parents (by decide) ol_parents (HE.name rfl rfl) (HL.cons HE.int HL.nil rfl) rfl (fun _ => rfl) rfl (by decide)) (HE.tup HL.nil) rfl) HBs.orNil))))) (HS.cons (HS1.ret HE.bool)
  HS.nil) HS.nil)
  (HS.cons (HS1.ite (HB.boolOp (HBs.or (HB.cmp ok_ne0 (HE.mcall G.ok B h_grow (by decide) ol_grow (HE.name rfl rfl) (HL.cons HE.int (HL.cons (HE.list (HL.cons (HE.tup (HL.cons HE.str (HL.cons HE.str (HL.cons HE.str HL.nil rfl) rfl) rfl)) HL.nil rfl)) HL.nil rfl) rfl) rfl (fun _ => rfl) rfl (by decide)) HE.int rfl) (HBs.or (HB.cmp (ok_neD G.ok) (HE.mcall G.ok B h_tree (by decide) ol_tree (HE.name rfl rfl) (HL.cons HE.int HL.nil rfl) rfl (fun _ => rfl) rfl (by decide)) (HE.dictS1 HQ.str HQ.str) rfl) (HBs.or (HB.cmp ok_ne0 (HE.mcall G.ok B h_many (by decide) ol_many (HE.name rfl rfl) HL.nil rfl (fun _ => rfl) rfl (by decide)) (HE.name rfl rfl) rfl) HBs.orNil)))) (HS.cons (HS1.ret HE.bool)
  HS.nil) HS.nil)
  (HS.cons (HS1.ret (HE.callAt G h__law_there_then (by decide) rfl rfl (HL.cons (HE.name rfl rfl) (HL.cons (HE.name rfl rfl) (HL.cons (HE.name rfl rfl) HL.nil rfl) rfl) rfl) rfl))
  HS.nil)))))))))))))
theorem f_law {C : Cx} (G : Gl C Hd.vw) (hz : C.held = none)  {bk N : Addr} {mN : Str → Option Value} (B : Bk C bk N mN) (h___init__ : MtAt C mN 0 "__init__" (sp___init__ C.ns)) (h__law_cell_at : FnAt C 0 "_law_cell_at" (sp__law_cell_at C.ns)) (h_grow : MtAt C mN 4 "grow" (sp_grow C.ns)) (h__law_told : FnAtX C 6 "_law_told" (sp__law_told C.ns)) (h_many : MtAt C mN 0 "many" (sp_many C.ns)) (h_tree : MtAt C mN 1 "tree" (sp_tree C.ns)) (h_parents : MtAt C mN 1 "parents" (sp_parents C.ns)) (h__law_there_then : FnAt C 5 "_law_there_then" (sp__law_there_then C.ns)) (hspec : ∀ vs σ Q X, sp_law C.ns vs σ Q X → vs.length = 1 ∧ T_law C.ns (bindM ["_law_script"] vs none') σ (fin Q) (fun c _ σ' => X c σ')) : FnAtX C 7 "law" (sp_law C.ns) :=
  FnAtX.mk (xs := ["_law_script"]) G 16 28 rfl rfl rfl rfl rfl (fun ws pm code doc h => by
    obtain ⟨w0, rfl⟩ := len1 h
    rfl) rfl (b_law G hz  B h___init__ h__law_cell_at h_grow h__law_told h_many h_tree h_parents h__law_there_then) hspec
end Mine


end
noncomputable section
set_option autoImplicit false
set_option linter.unusedVariables false
set_option maxHeartbeats 1000000
namespace Mine
open PySem PySem.W PyProof.Rows PySem.Calls
section
variable {σ σ' σ'' : View} {b t mo : Addr} {ads : List Addr} {ts : List (List (Str × V))} {ps : List (List Int)} {Q : V → View → Prop}
theorem BookAt.grow (B : BookAt σ b t mo ads ts ps) (g : Grow σ σ') : BookAt σ' b t mo ads ts ps :=
  ⟨let ⟨dx, h1, h2⟩ := B.obj; ⟨dx, g _ _ h1, g _ _ h2⟩, g _ _ B.tr, g _ _ B.md, B.ne, B.len, B.lenP, fun i d e => let ⟨kvs, ep, h1, h2⟩ := B.at_ i d e; ⟨kvs, ep, h1, g _ _ h2⟩, B.few, B.tree, B.ord⟩
theorem attr_T (B : BookAt σ b t mo ads ts ps) : attrOf "trees" (.ref b) σ Q = Q (.ref t) σ := propext ⟨fun ⟨a, dx, fs, t', e, h1, h2, h3, q⟩ => by
    cases e
    obtain ⟨dx', h4, h5⟩ := B.obj
    rw [h4] at h1; cases h1
    rw [h5] at h2; cases h2
    simp [List.lookup] at h3
    subst h3
    exact q, fun q => let ⟨dx, h1, h2⟩ := B.obj; ⟨b, dx, _, t, rfl, h1, h2, by simp [List.lookup], q⟩⟩
theorem attr_M (B : BookAt σ b t mo ads ts ps) : attrOf "made_of" (.ref b) σ Q = Q (.ref mo) σ := propext ⟨fun ⟨a, dx, fs, t', e, h1, h2, h3, q⟩ => by
    cases e
    obtain ⟨dx', h4, h5⟩ := B.obj
    rw [h4] at h1; cases h1
    rw [h5] at h2; cases h2
    simp [List.lookup] at h3
    subst h3
    exact q, fun q => let ⟨dx, h1, h2⟩ := B.obj; ⟨b, dx, _, mo, rfl, h1, h2, by simp [List.lookup], q⟩⟩
theorem inst_B (B : BookAt σ b t mo ads ts ps) {f : String} (h1 : (f == "made_of") = false) (h2 : (f == "trees") = false) : isInst f (.ref b) σ = True := by
  obtain ⟨dx, h4, h5⟩ := B.obj
  exact eq_true ⟨b, dx, _, rfl, h4, h5, by simp [List.lookup, h1, h2]⟩
theorem BookAt.treeAt (B : BookAt σ b t mo ads ts ps) {n : Nat} {kvs : List (Str × V)} (h : ts[n]? = some kvs) : ∃ d ep, ads[n]? = some d ∧ σ d = some (.dict kvs ep) := by
  have hlt : n < ads.length := by rw [B.len]; exact (List.getElem?_eq_some_iff.mp h).1
  obtain ⟨kvs', ep, h1, h2⟩ := B.at_ n _ (List.getElem?_eq_getElem hlt)
  rw [h] at h1; cases h1
  exact ⟨_, ep, List.getElem?_eq_getElem hlt, h2⟩
theorem BookAt.itemT (B : BookAt σ b t mo ads ts ps) {n : Int} {kvs : List (Str × V)} {ns : List Int} (h0 : 0 ≤ n) (h : ts[n.toNat]? = some kvs) (q : ∀ d ep, σ d = some (.dict kvs ep) → Q (.ref d) σ) : opItem ns (.ref t) (.int n) σ Q := by
  obtain ⟨d, ep, h1, h2⟩ := B.treeAt h
  exact item_list B.tr h0 (by rw [List.getElem?_map, h1]; rfl) (q d ep h2)
theorem BookAt.itemM (B : BookAt σ b t mo ads ts ps) {n : Int} {l : List Int} {ns : List Int} (h0 : 0 ≤ n) (h : ps[n.toNat]? = some l) (q : Q (.tup (l.map .int)) σ) : opItem ns (.ref mo) (.int n) σ Q :=
  item_list B.md h0 (by unfold madeV; rw [List.getElem?_map, h]; rfl) q
@[simp] theorem isi_ib {i : Int} : spIsi [.int i, .ty "bool"] σ Q = Q (.bool false) σ := by simp [spIsi, Mine.isi]
theorem len_T (B : BookAt σ b t mo ads ts ps) {ns : List Int} : spLen ns [.ref t] σ Q = Q (.int ts.length) σ := by rw [len_list B.tr, List.length_map, B.len]
theorem Grow.keep {S : List Addr} (g : Grow σ σ') (h : Keep S σ' σ'') : Keep S σ σ'' := fun b o e n => h b o (g b o e) n
end
theorem s_need (ns : List Int) : ∀ vs σ Q, sp_need ns vs σ Q → vs.length = 2 ∧ T_need ns (bindM ["self", "number"] vs none') σ (fin Q) := by
  rintro vs σ Q ⟨b, t, mo, ads, ts, ps, n, rfl, B, h0, h1, q⟩
  refine ⟨rfl, ?_⟩
  unfold T_need
  rw [seq_eq]
  simp [T_need_1, attr_T B, len_T B, h0, h1]
  exact q
theorem sx_need (ns : List Int) : ∀ vs σ Q X, spX_need ns vs σ Q X → vs.length = 2 ∧ TX_need ns (bindM ["self", "number"] vs none') σ (fin Q) (fun c _ σ' => X c σ') := by
  rintro vs σ Q X ⟨b, t, mo, ads, ts, ps, v, rfl, B, h⟩
  refine ⟨rfl, ?_⟩
  unfold TX_need
  rw [xseq_eq]
  rcases h with ⟨n, rfl, h0, h1, q⟩ | ⟨hb, q⟩
  · simp [TX_need_1, attr_T B, len_T B, h0, h1]
    exact q
  · cases v with
    | bool c => simp [TX_need_1, xseq_eq]; exact q
    | int i =>
      unfold Bad at hb
      by_cases h0 : 0 ≤ i
      · have h1 : ¬ i < ts.length := fun h => hb ⟨h0, h⟩
        simp [TX_need_1, xseq_eq, attr_T B, len_T B, h0, h1]
        exact q
      · simp [TX_need_1, xseq_eq, h0]
        exact q
    | _ => exact hb.elim
theorem s_many (ns : List Int) : ∀ vs σ Q, sp_many ns vs σ Q → vs.length = 1 ∧ T_many ns (bindM ["self"] vs none') σ (fin Q) := by
  rintro vs σ Q ⟨b, t, mo, ads, ts, ps, rfl, B, q⟩
  refine ⟨rfl, ?_⟩
  unfold T_many
  rw [seq_eq]
  simp [T_many_1, attr_T B, len_T B]
  exact q
theorem need_ok {ns : List Int} {σ : View} {b t mo : Addr} {ads : List Addr} {ts : List (List (Str × V))} {ps : List (List Int)} {Q : V → View → Prop} (B : BookAt σ b t mo ads ts ps) {n : Int} (h0 : 0 ≤ n) (h1 : n < ts.length) (q : Q .none σ) : sp_need ns [.ref b, .int n] σ Q := ⟨b, t, mo, ads, ts, ps, n, rfl, B, h0, h1, q⟩
theorem lt_of_get {ts : List (List (Str × V))} {n : Int} {kvs : List (Str × V)} (h0 : 0 ≤ n) (h : ts[n.toNat]? = some kvs) : n < ts.length := by
  have := (List.getElem?_eq_some_iff.mp h).1
  omega
theorem s_tree (ns : List Int) : ∀ vs σ Q, sp_tree ns vs σ Q → vs.length = 2 ∧ T_tree ns (bindM ["self", "number"] vs none') σ (fin Q) := by
  rintro vs σ Q ⟨b, t, mo, ads, ts, ps, n, kvs, rfl, B, h0, h, q⟩
  refine ⟨rfl, ?_⟩
  unfold T_tree
  rw [seq_eq]
  simp [T_tree_1, inst_B B]
  refine need_ok B h0 (lt_of_get h0 h) ?_
  rw [seq_eq]
  simp [T_tree_2, attr_T B]
  exact B.itemT h0 h fun d ep hd => dictc_dict hd fun a ep' ha => q a ep' ha
theorem sx_tree (ns : List Int) : ∀ vs σ Q X, spX_tree ns vs σ Q X → vs.length = 2 ∧ TX_tree ns (bindM ["self", "number"] vs none') σ (fin Q) (fun c _ σ' => X c σ') := by
  rintro vs σ Q X ⟨b, t, mo, ads, ts, ps, v, rfl, B, hb, q⟩
  refine ⟨rfl, ?_⟩
  unfold TX_tree
  rw [xseq_eq]
  simp [TX_tree_1, inst_B B]
  exact ⟨b, t, mo, ads, ts, ps, v, rfl, B, .inr ⟨hb, q⟩⟩
theorem s_parents (ns : List Int) : ∀ vs σ Q, sp_parents ns vs σ Q → vs.length = 2 ∧ T_parents ns (bindM ["self", "number"] vs none') σ (fin Q) := by
  rintro vs σ Q ⟨b, t, mo, ads, ts, ps, n, l, rfl, B, h0, h, q⟩
  refine ⟨rfl, ?_⟩
  have h1 : n < ts.length := by
    have := (List.getElem?_eq_some_iff.mp h).1
    have := B.lenP
    omega
  unfold T_parents
  rw [seq_eq]
  simp [T_parents_1, inst_B B]
  refine need_ok B h0 h1 ?_
  rw [seq_eq]
  simp [T_parents_2, attr_M B]
  exact B.itemM h0 h q
theorem sx_parents (ns : List Int) : ∀ vs σ Q X, spX_parents ns vs σ Q X → vs.length = 2 ∧ TX_parents ns (bindM ["self", "number"] vs none') σ (fin Q) (fun c _ σ' => X c σ') := by
  rintro vs σ Q X ⟨b, t, mo, ads, ts, ps, v, rfl, B, hb, q⟩
  refine ⟨rfl, ?_⟩
  unfold TX_parents
  rw [xseq_eq]
  simp [TX_parents_1, inst_B B]
  exact ⟨b, t, mo, ads, ts, ps, v, rfl, B, .inr ⟨hb, q⟩⟩
theorem sx_grow (ns : List Int) : ∀ vs σ Q X, spX_grow ns vs σ Q X → vs.length = 3 ∧ TX_grow ns (bindM ["self", "parent", "deeds"] vs none') σ (fin Q) (fun c _ σ' => X c σ') := by
  rintro vs σ Q X ⟨b, t, mo, ads, ts, ps, v, u, rfl, B, hb, q⟩
  refine ⟨rfl, ?_⟩
  unfold TX_grow
  rw [xseq_eq]
  simp [TX_grow_1, inst_B B]
  exact ⟨b, t, mo, ads, ts, ps, v, rfl, B, .inr ⟨hb, q⟩⟩
theorem sx_road (ns : List Int) : ∀ vs σ Q X, spX_road ns vs σ Q X → vs.length = 3 ∧ TX_road ns (bindM ["self", "elder", "number"] vs none') σ (fin Q) (fun c _ σ' => X c σ') := by
  rintro vs σ Q X ⟨b, t, mo, ads, ts, ps, v, u, rfl, B, hb, q⟩
  refine ⟨rfl, ?_⟩
  unfold TX_road
  rw [xseq_eq]
  simp [TX_road_1, inst_B B]
  rcases hb with hb | ⟨n, rfl, h0, h1, hb⟩
  · exact ⟨b, t, mo, ads, ts, ps, v, rfl, B, .inr ⟨hb, q⟩⟩
  · refine ⟨b, t, mo, ads, ts, ps, _, rfl, B, .inl ⟨n, rfl, h0, h1, ?_⟩⟩
    rw [xseq_eq]
    simp [TX_road_2, inst_B B]
    exact ⟨b, t, mo, ads, ts, ps, u, rfl, B, .inr ⟨hb, q⟩⟩
theorem sx_merge (ns : List Int) : ∀ vs σ Q X, spX_merge ns vs σ Q X → vs.length = 4 ∧ TX_merge ns (bindM ["self", "one", "other", "picks"] vs none') σ (fin Q) (fun c _ σ' => X c σ') := by
  rintro vs σ Q X ⟨b, t, mo, ads, ts, ps, v, u, pk, rfl, B, hb⟩
  refine ⟨rfl, ?_⟩
  unfold TX_merge
  rw [xseq_eq]
  simp [TX_merge_1, inst_B B]
  rcases hb with ⟨hb, q⟩ | ⟨n, rfl, h0, h1, hb⟩
  · exact ⟨b, t, mo, ads, ts, ps, v, rfl, B, .inr ⟨hb, q⟩⟩
  · refine ⟨b, t, mo, ads, ts, ps, _, rfl, B, .inl ⟨n, rfl, h0, h1, ?_⟩⟩
    rw [xseq_eq]
    simp [TX_merge_2, inst_B B]
    rcases hb with ⟨hb, q⟩ | ⟨rfl, q⟩
    · exact ⟨b, t, mo, ads, ts, ps, u, rfl, B, .inr ⟨hb, q⟩⟩
    · refine ⟨b, t, mo, ads, ts, ps, _, rfl, B, .inl ⟨n, rfl, h0, h1, ?_⟩⟩
      rw [xseq_eq]
      simp [TX_merge_3, xseq_eq]
      exact q
theorem s_init (ns : List Int) : ∀ vs σ Q, sp___init__ ns vs σ Q → vs.length = 1 ∧ T___init__ ns (bindM ["self"] vs none') σ (fin Q) := by
  rintro vs σ Q ⟨a, dx, rfl, ha, hd, q⟩
  refine ⟨rfl, ?_⟩
  unfold T___init__
  rw [seq_eq]
  simp [T___init___1]
  intro d0 ep hd0 t ht
  have ht0 : t ≠ d0 := by rintro rfl; rw [upd_same] at ht; cases ht
  rw [upd_ne ht0] at ht
  have ne : ∀ {x y : Addr} {o : AObj}, σ x = some o → σ y = none → x ≠ y := by rintro x y o h1 h2 rfl; rw [h1] at h2; cases h2
  refine set_attr (a := a) (dx := dx) (fs := []) ?_ ?_ (by simp) ?_
  · rw [upd_ne (ne ha ht), upd_ne (ne ha hd0)]; exact ha
  · rw [upd_ne (ne hd ht), upd_ne (ne hd hd0)]; exact hd
  rw [seq_eq]
  simp [T___init___2]
  intro mo hmo
  have hda : dx ≠ a := by rintro rfl; rw [ha] at hd; cases hd
  have m1 : mo ≠ dx := by rintro rfl; rw [upd_same] at hmo; cases hmo
  rw [upd_ne m1] at hmo
  have m2 : mo ≠ t := by rintro rfl; rw [upd_same] at hmo; cases hmo
  rw [upd_ne m2] at hmo
  have m3 : mo ≠ d0 := by rintro rfl; rw [upd_same] at hmo; cases hmo
  rw [upd_ne m3] at hmo
  refine set_attr (a := a) (dx := dx) ?_ ?_ ?_ ?_ (fs := [("trees", .ref t)])
  · rw [upd_ne (ne ha hmo), upd_ne (Ne.symm hda), upd_ne (ne ha ht), upd_ne (ne ha hd0)]; exact ha
  · rw [upd_ne (Ne.symm m1), upd_same]
  · simp
  · refine q t mo d0 ep _ ?_ ?_ ?_ ?_ ?_ (Ne.symm m2) ht hmo hd0
    · intro x o hx hn
      have hxd : x ≠ dx := by simpa using hn
      rw [upd_ne hxd, upd_ne (ne hx hmo), upd_ne hxd, upd_ne (ne hx ht), upd_ne (ne hx hd0)]; exact hx
    · rw [upd_same]
    · rw [upd_ne (ne hd ht).symm, upd_ne (Ne.symm m2), upd_ne (ne hd ht).symm, upd_same]
    · rw [upd_ne m1, upd_same]
    · rw [upd_ne (ne hd hd0).symm, upd_ne (Ne.symm m3), upd_ne (ne hd hd0).symm, upd_ne (Ne.symm ht0), upd_same]
end Mine


end
noncomputable section
set_option autoImplicit false
set_option linter.unusedVariables false
set_option linter.unusedSimpArgs false
set_option maxHeartbeats 1000000
namespace Mine
open PySem PySem.W PyProof.Rows PySem.Calls
theorem Grow.over {σ σ' : View} {b : Addr} {o : AObj} (g : Grow σ σ') (hb : σ b = Option.none) : Grow σ (Mine.upd σ' b o) := fun c o' e => by
  rw [upd_ne (by rintro rfl; rw [hb] at e; cases e)]; exact g c o' e
theorem attr_at {σ : View} {b dx t : Addr} {x : String} {fs : List (String × V)} {Q : V → View → Prop} (h1 : σ b = some (.inst dx)) (h2 : σ dx = some (.ns fs)) (h3 : fs.lookup x = some (.ref t)) : attrOf x (.ref b) σ Q = Q (.ref t) σ :=
  propext ⟨fun ⟨a, dx', fs', t', e, g1, g2, g3, q⟩ => by
    cases e
    rw [h1] at g1; cases g1
    rw [h2] at g2; cases g2
    rw [h3] at g3; cases g3
    exact q, fun q => ⟨b, dx, fs, t, rfl, h1, h2, h3, q⟩⟩
theorem key_at {kvs : List (Str × V)} {i : Nat} {v : V} (h : (kvs.map fun q => V.str q.1)[i]? = some v) : ∃ y, (keysOf kvs)[i]? = some y ∧ v = .str y := by
  rw [List.getElem?_map] at h
  obtain ⟨q, hq, rfl⟩ := Option.map_eq_some_iff.mp h
  exact ⟨q.1, by unfold keysOf; rw [List.getElem?_map, hq]; rfl, rfl⟩
theorem put_end {σ : View} {b t mo : Addr} {ads : List Addr} {ts : List (List (Str × V))} {ps : List (List Int)} (B : BookAt σ b t mo ads ts ps) {d : Addr} {kvs : List (Str × V)} {ep : Nat} {l : List Int} (hd : σ d = some (.dict kvs ep)) (ht : Tr kvs) (hz : ts.length < 50) (hl2 : l.length ≤ 2) (hl : ∀ p ∈ l, 0 ≤ p ∧ p < (ts.length : Int)) :
    Keep [t, mo] σ (upd (upd σ t (.list (ads.map .ref ++ [.ref d]))) mo (.list (madeV ps ++ [.tup (l.map .int)]))) ∧ BookAt (upd (upd σ t (.list (ads.map .ref ++ [.ref d]))) mo (.list (madeV ps ++ [.tup (l.map .int)]))) b t mo (ads ++ [d]) (ts ++ [kvs]) (ps ++ [l]) := by
  have K : Keep [t, mo] σ (upd (upd σ t (.list (ads.map .ref ++ [.ref d]))) mo (.list (madeV ps ++ [.tup (l.map .int)]))) := by
    intro x o e n
    simp at n
    rw [upd_ne n.2, upd_ne n.1]; exact e
  obtain ⟨dx, h1, h2⟩ := B.obj
  have off : ∀ {x : Addr} {o : AObj}, σ x = some o → (∀ xs, o ≠ .list xs) → x ∉ [t, mo] := by
    intro x o e ho hm
    simp at hm
    rcases hm with rfl | rfl
    · rw [B.tr] at e; cases e; exact ho _ rfl
    · rw [B.md] at e; cases e; exact ho _ rfl
  refine ⟨K, ⟨⟨dx, K _ _ h1 (off h1 (by simp)), K _ _ h2 (off h2 (by simp))⟩, ?_, ?_, B.ne, by simp [B.len], by simp [B.lenP], fun i a e => ?_, by simp; omega, fun k hk => ?_, fun k m e => ?_⟩⟩
  · rw [upd_ne B.ne, upd_same]; simp
  · rw [upd_same]; simp [madeV]
  · rcases Nat.lt_or_ge i ads.length with hi | hi
    · rw [List.getElem?_append_left hi] at e
      obtain ⟨kv, ep', g1, g2⟩ := B.at_ i a e
      exact ⟨kv, ep', by rw [List.getElem?_append_left (by rw [← B.len]; exact hi)]; exact g1, K _ _ g2 (off g2 (by simp))⟩
    · rw [List.getElem?_append_right hi] at e
      have hi2 : i - ads.length = 0 := by
        have := (List.getElem?_eq_some_iff.mp e).1
        simpa using this
      rw [hi2] at e
      simp at e
      subst e
      exact ⟨kvs, ep, by rw [List.getElem?_append_right (by rw [← B.len]; exact hi), ← B.len, hi2]; rfl, K _ _ hd (off hd (by simp))⟩
  · rcases List.mem_append.mp hk with hk | hk
    · exact B.tree _ hk
    · simp at hk; subst hk; exact ht
  · rcases Nat.lt_or_ge k ps.length with hi | hi
    · rw [List.getElem?_append_left hi] at e
      exact B.ord k m e
    · rw [List.getElem?_append_right hi] at e
      have hi2 : k - ps.length = 0 := by
        have := (List.getElem?_eq_some_iff.mp e).1
        simpa using this
      have hk : k = ts.length := by rw [← B.lenP]; omega
      rw [hi2] at e
      simp at e
      subst e hk
      exact ⟨hl2, hl⟩
theorem s_put_down (ns : List Int) : ∀ vs σ Q, sp_put_down ns vs σ Q → vs.length = 3 ∧ T_put_down ns (bindM ["self", "tree", "parents"] vs none') σ (fin Q) := by
  rintro vs σ Q ⟨b, t, mo, ads, ts, ps, d, kvs, ep, l, rfl, B, hd, ht, hz, hl2, hl, q⟩
  refine ⟨rfl, ?_⟩
  obtain ⟨K, B'⟩ := put_end B hd ht hz hl2 hl
  obtain ⟨dx, h1, h2⟩ := B.obj
  have bt : b ≠ t := by rintro rfl; rw [B.tr] at h1; cases h1
  have dt : dx ≠ t := by rintro rfl; rw [B.tr] at h2; cases h2
  have h1' : upd σ t (.list (ads.map .ref ++ [.ref d])) b = some (.inst dx) := by rw [upd_ne bt]; exact h1
  have h2' : upd σ t (.list (ads.map .ref ++ [.ref d])) dx = some (.ns [("made_of", .ref mo), ("trees", .ref t)]) := by rw [upd_ne dt]; exact h2
  have h3' : upd σ t (.list (ads.map .ref ++ [.ref d])) mo = some (.list (madeV ps)) := by rw [upd_ne (Ne.symm B.ne)]; exact B.md
  have few := B.few
  have len := B.len
  have lenP := B.lenP
  unfold T_put_down
  rw [seq_eq]
  simp [T_put_down_1, attr_T B, tyList_ref B.tr]
  refine append_list B.tr (by rw [List.length_map]; omega) ?_
  rw [seq_eq]
  simp [T_put_down_2, attr_at h1' h2' (x := "made_of") (t := mo) (by simp [List.lookup]), tyList_ref h3']
  refine append_list h3' (by simp [madeV]; omega) ?_
  rw [seq_eq]
  simp [T_put_down_3, attr_T B', len_T B']
  exact q _ K B'
@[simp] theorem put_1 (ns : List Int) {p : Str × Str} {σ : View} {Q : V → View → Prop} (q : Q (.str p.1) σ) : opItem ns (putV p) (.int 1) σ Q := ⟨by show 3 < 16777217; decide, 1, _, rfl, rfl, q⟩
theorem put_0 (ns : List Int) {p : Str × Str} {σ : View} {Q : V → View → Prop} (q : Q (.str (Str.ofString "put")) σ) : opItem ns (putV p) (.int 0) σ Q := ⟨by show 3 < 16777217; decide, 0, _, rfl, rfl, q⟩
theorem put_2 (ns : List Int) {p : Str × Str} {σ : View} {Q : V → View → Prop} (q : Q (.str p.2) σ) : opItem ns (putV p) (.int 2) σ Q := ⟨by show 3 < 16777217; decide, 2, _, rfl, rfl, q⟩
theorem cut_put : Str.ofString "put" ≠ Str.ofString "cut" := by decide
theorem s_done (ns : List Int) : ∀ vs σ Q, sp_done ns vs σ Q → vs.length = 2 ∧ T_done ns (bindM ["tree", "deed"] vs none') σ (fin Q) := by
  rintro vs σ Q ⟨a, kvs, ep, p, rfl, ha, ht, hp, hl, hf, q⟩
  refine ⟨rfl, ?_⟩
  have len := ht.len
  unfold T_done
  rw [seq_eq]
  simp [T_done_1]
  refine put_1 ns ?_
  rw [seq_eq]
  simp [T_done_2]
  refine ⟨p.1, rfl, by omega, fun σ₁ g1 => ?_⟩
  simp [hp]
  rw [seq_eq]
  simp [T_done_3]
  have ha1 := g1 _ _ ha
  refine dictc_dict ha1 fun b eb hb => ?_
  have hbn := g1.none hb
  have xb := upd_same σ₁ b (.dict kvs eb)
  have g2 : Grow σ (upd σ₁ b (.dict kvs eb)) := g1.upd hb
  have ha2 : upd σ₁ b (.dict kvs eb) a = some (.dict kvs ep) := by rw [upd_ne (by rintro rfl; rw [ha1] at hb; cases hb)]; exact ha1
  generalize (upd σ₁ b (.dict kvs eb)) = σ₂ at xb g2 ha2 ⊢
  rw [seq_eq]
  simp [T_done_4]
  refine put_0 ns ?_
  simp [cut_put]
  rw [seq_eq]
  simp [T_done_5, iter_dict ha2]
  have hlen := ht.key
  refine forL_inv (fun i m σ' => σ' = σ₂ ∧ m "path" = some (.str p.1) ∧ m "fresh" = some (.ref b) ∧ m "deed" = some (putV p)) (fun _ _ _ => False)
    (fun i m σ' h => by rw [h.1]; exact ha2) _ ?_ ?_ (fun _ _ _ h => h.elim) _ _ ⟨rfl, by simp, by simp, by simp⟩
  · rintro i v m σ' Q' hv ⟨rfl, hm, hf', hd⟩ n1 n2 n3
    obtain ⟨y, hy, rfl⟩ := key_at hv
    have hmem := List.mem_of_getElem? hy
    have hyl : y.length ≤ 300 := by
      obtain ⟨z, hz, rfl⟩ := List.mem_map.mp hmem
      exact hlen z hz
    have hfr := List.all_eq_true.mp hf y hmem
    simp at hfr
    refine ⟨_, rfl, ?_⟩
    simp [seq_eq, hm]
    refine ⟨p.1, y, rfl, by omega, ?_⟩
    simp [hfr.2]
    refine ⟨y, p.1, rfl, by omega, ?_⟩
    simp [hfr.1]
    exact n1 _ _ ⟨rfl, by simp [hm], by simp [hf'], by simp [hd]⟩
  · rintro m σ' ⟨rfl, hm, hf', hd⟩
    rw [kont_next, seq_eq]
    simp [T_done_6, hd, hf', hm]
    refine put_2 ns ?_
    refine set_dict xb (by omega) fun ep' => ?_
    rw [seq_eq]
    simp [T_done_7, hf']
    exact q b ep' _ (g2.over hbn) hbn (upd_same _ _ _)
theorem changed_loop {ns : List Int} {L : Addr} {dl0 : List (Str × Str)} {σ0 : View} {Q : V → View → Prop} (hL : σ0 L = some (.list (dl0.map putV))) :
    ∀ (dl : List (Str × Str)) (kvs : List (Str × V)) (b : Addr) (eb : Nat) (m : Loc) (σ' : View), σ0 b = Option.none → Grow σ0 σ' → σ' b = some (.dict kvs eb) → PutsOk kvs dl → m "fresh" = some (.ref b) →
      (∀ b ep' σ', Grow σ0 σ' → σ0 b = Option.none → σ' b = some (.dict (puts kvs dl) ep') → Q (.ref b) σ') →
      forL (.name "deed") (fun σ'' => σ'' L = some (.list (dl0.map putV))) (sSeq (sSet "fresh" (eCall (sp_done ns) (lCons (eName "fresh") (lCons (eName "deed") lNil)))) sNil) (dl.map putV) m σ' (kont (sSeq (T_changed_3 ns) sNil) (fin Q)) := by
  intro dl
  induction dl with
  | nil =>
    intro kvs b eb m σ' hb g hb' hp hm q
    simp only [List.map_nil, forL]
    refine ⟨g _ _ hL, ?_⟩
    rw [kont_next, seq_eq]
    simp [T_changed_3, hm]
    exact q b eb σ' g hb hb'
  | cons p r ih =>
    intro kvs b eb m σ' hb g hb' hp hm q
    obtain ⟨ht, h1, h2, h3, h4⟩ := hp
    simp only [List.map_cons, forL]
    refine ⟨g _ _ hL, _, rfl, ?_⟩
    rw [seq_eq]
    simp [hm]
    refine ⟨b, kvs, eb, p, rfl, hb', ht, h1, h2, h3, fun b2 ep2 σ2 g2 hb2 hb2' => ?_⟩
    try simp
    exact ih _ b2 ep2 _ σ2 (g.none hb2) (g.trans g2) hb2' h4 (by simp) q
theorem s_changed (ns : List Int) : ∀ vs σ Q, sp_changed ns vs σ Q → vs.length = 2 ∧ T_changed ns (bindM ["tree", "deeds"] vs none') σ (fin Q) := by
  rintro vs σ Q ⟨a, L, kvs, ep, dl, rfl, ha, hL, hp, q⟩
  refine ⟨rfl, ?_⟩
  unfold T_changed
  rw [seq_eq]
  simp [T_changed_1]
  refine dictc_dict ha fun b eb hb => ?_
  have xb := upd_same σ b (.dict kvs eb)
  have g2 : Grow σ (upd σ b (.dict kvs eb)) := Grow.refl.upd hb
  have hL2 := g2 _ _ hL
  generalize (upd σ b (.dict kvs eb)) = σ₂ at xb g2 hL2 ⊢
  rw [seq_eq]
  simp [T_changed_2, iter_list hL2]
  exact changed_loop hL dl kvs b eb _ σ₂ hb g2 xb hp (by simp) q
theorem s_grow (ns : List Int) : ∀ vs σ Q, sp_grow ns vs σ Q → vs.length = 3 ∧ T_grow ns (bindM ["self", "parent", "deeds"] vs none') σ (fin Q) := by
  rintro vs σ Q ⟨b, t, mo, ads, ts, ps, n, L, dl, kvs, rfl, B, h0, h, hL, hp, ht, hz, q⟩
  refine ⟨rfl, ?_⟩
  have h1 := lt_of_get h0 h
  unfold T_grow
  rw [seq_eq]
  simp [T_grow_1, inst_B B]
  refine need_ok B h0 h1 ?_
  rw [seq_eq]
  simp [T_grow_2, inst_B B, attr_T B]
  refine B.itemT h0 h fun a ep ha => ?_
  refine ⟨a, L, kvs, ep, dl, rfl, ha, hL, hp, fun d ep' σ' g hd hd' => ?_⟩
  refine ⟨b, t, mo, ads, ts, ps, d, _, ep', [n], rfl, B.grow g, hd', ht, hz, by simp, fun p hp => ?_, fun σ'' K B' => ?_⟩
  · simp at hp; subst hp; exact ⟨h0, h1⟩
  · exact q d σ'' (g.keep K) hd B'
/- elders -/
theorem Anc.le {ps : List (List Int)} (ho : ∀ (k : Nat) l, ps[k]? = some l → ∀ p ∈ l, 0 ≤ p ∧ p < (k : Int)) {n x : Int} (h : Anc ps n x) (h0 : 0 ≤ n) : 0 ≤ x ∧ x ≤ n := by
  induction h with
  | self n => exact ⟨h0, Int.le_refl _⟩
  | up h1 h2 _ ih =>
    have := ho _ _ h1 _ h2
    have := ih this.1
    omega
/-- the keys found so far -/
structure Found (ps : List (List Int)) (n : Int) (i : Nat) (kvs : List (Int × V)) : Prop where
  anc : ∀ x ∈ kvs.map (·.1), Anc ps n x
  self : n ∈ kvs.map (·.1)
  up : ∀ x ∈ kvs.map (·.1), n - i < x → ∀ l, ps[x.toNat]? = some l → ∀ p ∈ l, p ∈ kvs.map (·.1)
  nodup : (kvs.map (·.1)).Nodup
theorem Found.all {ps : List (List Int)} {n : Int} {i : Nat} {kvs : List (Int × V)} (F : Found ps n i kvs) (ho : ∀ (k : Nat) l, ps[k]? = some l → ∀ p ∈ l, 0 ≤ p ∧ p < (k : Int)) (h0 : 0 ≤ n) (hi : n < i) : ∀ x, x ∈ kvs.map (·.1) ↔ Anc ps n x := by
  intro x
  refine ⟨F.anc x, fun h => ?_⟩
  have key : ∀ {y x : Int}, Anc ps y x → y ∈ kvs.map (·.1) → x ∈ kvs.map (·.1) := by
    intro y x h
    induction h with
    | self _ => exact id
    | up h1 h2 _ ih =>
      intro hy
      have := ((F.anc _ hy).le ho h0).1
      exact ih (F.up _ hy (by omega) _ h1 _ h2)
  exact key h F.self
theorem nodup_few : ∀ {n : Nat} {l : List Int}, l.Nodup → (∀ x ∈ l, 0 ≤ x ∧ x < (n : Int)) → l.length ≤ n
  | 0, [], _, _ => Nat.le_refl _
  | 0, x :: r, _, h => by have := h x (.head _); omega
  | n + 1, l, hn, h => by
    by_cases hm : (n : Int) ∈ l
    · have h1 := nodup_few (n := n) (l := l.erase n) (hn.erase _) fun x hx => by
        have h2 := (hn.mem_erase_iff).mp hx
        have h3 := h x h2.2
        have h4 := h2.1
        omega
      rw [List.length_erase_of_mem hm] at h1
      omega
    · have h1 := nodup_few (n := n) (l := l) hn fun x hx => by
        have h3 := h x hx
        have h4 : x ≠ n := fun e => hm (e ▸ hx)
        omega
      omega
theorem isrt_lt {l : List Int} (h : l.Nodup) : (isrt l).Pairwise (· < ·) := by
  have h1 := isrt_sorted l
  have h2 : (isrt l).Nodup := (isrt_perm l).nodup_iff.mpr h
  rw [List.nodup_iff_pairwise_ne] at h2
  exact (h1.and h2).imp fun ⟨a, b⟩ => by omega
end Mine


end
noncomputable section
set_option autoImplicit false
set_option linter.unusedVariables false
set_option linter.unusedSimpArgs false
set_option maxHeartbeats 1000000
namespace Mine
open PySem PySem.W PyProof.Rows PySem.Calls
@[simp] theorem iter_tup {ns : List Int} {vs : List V} {σ : View} {R : List V → (View → Prop) → View → Prop} : iterOf ns (.tup vs) σ R = R vs (fun _ => True) σ := rfl
theorem Anc.step {ps : List (List Int)} {n k p : Int} {l : List Int} (h : Anc ps n k) (hl : ps[k.toNat]? = some l) (hp : p ∈ l) : Anc ps n p := by
  induction h with
  | self n => exact .up hl hp (.self p)
  | up h1 h2 _ ih => exact .up h1 h2 (ih hl)
theorem int_at {l : List Int} {i : Nat} {v : V} (h : (l.map V.int)[i]? = some v) : ∃ x, l[i]? = some x ∧ v = .int x := by
  rw [List.getElem?_map] at h
  obtain ⟨x, h1, rfl⟩ := Option.map_eq_some_iff.mp h
  exact ⟨x, h1, rfl⟩
theorem eld_tail (ns : List Int) {σ : View} {b t mo : Addr} {ads : List Addr} {ts : List (List (Str × V))} {ps : List (List Int)} {Q : V → View → Prop} {n : Int} {m : Loc} (B : BookAt σ b t mo ads ts ps) (h0 : 0 ≤ n) (h1 : n < ts.length) (hs : m "self" = some (.ref b)) (hm : m "number" = some (.int n))
    (q : ∀ a (xs : List Int) σ', Grow σ σ' → σ a = Option.none → σ' a = some (.list (xs.map .int)) → xs.Pairwise (· < ·) → (∀ x, x ∈ xs ↔ Anc ps n x) → Q (.ref a) σ') :
    sSeq (T_elders_2 ns) (sSeq (T_elders_3 ns) (sSeq (T_elders_4 ns) sNil)) m σ (fin Q) := by
  have few := B.few
  have ho : ∀ (k : Nat) l, ps[k]? = some l → ∀ p ∈ l, 0 ≤ p ∧ p < (k : Int) := fun k l h => (B.ord k l h).2
  rw [seq_eq]
  simp [T_elders_2, hm]
  intro f ef hf
  have xf := upd_same σ f (.idict [(n, .bool true)] ef)
  have g0 : Grow σ (upd σ f (.idict [(n, .bool true)] ef)) := Grow.refl.upd hf
  generalize (upd σ f (.idict [(n, .bool true)] ef)) = σ₂ at xf g0 ⊢
  rw [seq_eq]
  simp [T_elders_3, hm, h0]
  refine ⟨by omega, ?_⟩
  refine forL_inv (fun i m σ' => ∃ kvs ep, σ' f = some (.idict kvs ep) ∧ Found ps n i kvs ∧ Grow σ σ' ∧ m "self" = some (.ref b) ∧ m "found" = some (.ref f)) (fun _ _ _ => False)
    (fun _ _ _ _ => trivial) _ ?_ ?_ (fun _ _ _ h => h.elim) _ _ ⟨_, _, xf, ⟨?_, ?_, ?_, ?_⟩, g0, by simp [hs], by simp⟩
  · rintro i v m σ' Q' hv ⟨kvs, ep, hk, F, g, hs, hfd⟩ n1 n2 n3
    obtain ⟨hi, rfl⟩ := down_get hv
    have hk0 : 0 ≤ n - i := by omega
    refine ⟨_, rfl, ?_⟩
    simp [seq_eq, hs, hfd]
    refine in_idict hk ?_
    simp [iget_isSome]
    have B' := B.grow g
    have hlt : (n - (i : Int)).toNat < ps.length := by rw [B.lenP]; omega
    split
    · rename_i hin
      have hin' : (n - (i : Int)) ∈ kvs.map (·.1) := by simpa using hin
      simp [attr_M B']
      refine B'.itemM hk0 (List.getElem?_eq_getElem hlt) ?_
      have hl : ps[(n - (i : Int)).toNat]? = some ps[(n - (i : Int)).toNat] := List.getElem?_eq_getElem hlt
      generalize ps[(n - (i : Int)).toNat] = l at hl ⊢
      have hlo := ho _ _ hl
      try simp
      refine forL_inv (fun j m σ'' => ∃ kvs' ep', σ'' f = some (.idict kvs' ep') ∧ Grow σ σ'' ∧ m "self" = some (.ref b) ∧ m "found" = some (.ref f) ∧ (∀ x ∈ kvs'.map (·.1), Anc ps n x) ∧ (∀ x ∈ kvs.map (·.1), x ∈ kvs'.map (·.1)) ∧ (∀ p ∈ l.take j, p ∈ kvs'.map (·.1)) ∧ (∀ x ∈ kvs'.map (·.1), x ∈ kvs.map (·.1) ∨ x ∈ l) ∧ (kvs'.map (·.1)).Nodup)
        (fun _ _ _ => False) (fun _ _ _ _ => trivial) _ ?_ ?_ (fun _ _ _ h => h.elim) _ _ ⟨kvs, ep, hk, g, by simp [hs], by simp [hfd], F.anc, fun _ h => h, by simp, fun _ h => .inl h, F.nodup⟩
      · rintro j v m σ'' Q'' hv ⟨kvs', ep', hk', g', hs', hf', c1, c2, c3, c4, c5⟩ n1' n2' n3'
        obtain ⟨p, hp, rfl⟩ := int_at hv
        have hpl := List.mem_of_getElem? hp
        refine ⟨_, rfl, ?_⟩
        simp [seq_eq, hs', hf']
        have hlen : kvs'.length ≤ ts.length := by
          have := nodup_few (n := ts.length) c5 fun x hx => by have := (c1 x hx).le ho h0; omega
          simpa using this
        refine set_idict hk' (by omega) fun ep'' => ?_
        refine n1' _ _ ⟨_, _, upd_same _ _ _, g'.over hf, by simp [hs'], by simp [hf'], ?_, ?_, ?_, ?_, istored_nodup c5⟩
        · intro x hx
          rcases (istored_keys _ _ _ x).mp hx with rfl | hx
          · exact (F.anc _ hin').step hl hpl
          · exact c1 x hx
        · intro x hx; exact (istored_keys _ _ _ x).mpr (.inr (c2 x hx))
        · intro x hx
          rw [List.take_add_one, hp] at hx
          rcases List.mem_append.mp hx with hx | hx
          · exact (istored_keys _ _ _ x).mpr (.inr (c3 x hx))
          · simp at hx; subst hx; exact (istored_keys _ _ _ _).mpr (.inl rfl)
        · intro x hx
          rcases (istored_keys _ _ _ x).mp hx with rfl | hx
          · exact .inr hpl
          · exact c4 x hx
      · rintro m σ'' ⟨kvs', ep', hk', g', hs', hf', c1, c2, c3, c4, c5⟩
        rw [List.length_map, List.take_length] at c3
        try simp
        refine n1 _ _ ⟨kvs', ep', hk', ⟨c1, c2 _ F.self, ?_, c5⟩, g', hs', hf'⟩
        intro x hx hlt' l' hl' p hp
        by_cases hx2 : x = n - i
        · subst hx2
          rw [hl] at hl'; cases hl'
          exact c3 p hp
        · rcases c4 x hx with hx3 | hx3
          · exact c2 p (F.up x hx3 (by omega) l' hl' p hp)
          · have := hlo x hx3
            omega
    · rename_i hin
      have hin' : (n - (i : Int)) ∉ kvs.map (·.1) := by simpa using hin
      refine n1 _ _ ⟨kvs, ep, hk, ⟨F.anc, F.self, ?_, F.nodup⟩, g, by simp [hs], by simp [hfd]⟩
      intro x hx hlt' l' hl' p hp
      by_cases hx2 : x = n - i
      · subst hx2; exact absurd hx hin'
      · exact F.up x hx (by omega) l' hl' p hp
  · rintro m σ' ⟨kvs, ep, hk, F, g, hs, hfd⟩
    rw [down_len] at F
    rw [kont_next, seq_eq]
    have hall := F.all ho h0 (by omega)
    have hlen : kvs.length ≤ ts.length := by
      have := nodup_few (n := ts.length) F.nodup fun x hx => by have := (F.anc x hx).le ho h0; omega
      simpa using this
    simp [T_elders_4, hfd]
    refine sort_idict hk (by omega) fun a ha => ?_
    refine q a _ _ (g.upd ha) (g.none ha) (upd_same _ _ _) (isrt_lt F.nodup) fun x => ?_
    rw [(isrt_perm _).mem_iff]
    exact hall x
  · intro x hx; simp at hx; subst hx; exact .self _
  · simp
  · intro x hx hlt; simp at hx hlt; omega
  · simp
theorem s_elders (ns : List Int) : ∀ vs σ Q, sp_elders ns vs σ Q → vs.length = 2 ∧ T_elders ns (bindM ["self", "number"] vs none') σ (fin Q) := by
  rintro vs σ Q ⟨b, t, mo, ads, ts, ps, n, rfl, B, h0, h1, q⟩
  refine ⟨rfl, ?_⟩
  unfold T_elders
  rw [seq_eq]
  simp [T_elders_1, inst_B B]
  refine need_ok B h0 h1 ?_
  exact eld_tail ns B h0 h1 (by simp) (by simp) q
theorem sx_elders (ns : List Int) : ∀ vs σ Q X, spX_elders ns vs σ Q X → vs.length = 2 ∧ TX_elders ns (bindM ["self", "number"] vs none') σ (fin Q) (fun c _ σ' => X c σ') := by
  rintro vs σ Q X ⟨b, t, mo, ads, ts, ps, v, rfl, B, h⟩
  refine ⟨rfl, ?_⟩
  unfold TX_elders
  rw [xseq_eq]
  rcases h with ⟨n, rfl, ⟨b', t', mo', ads', ts', ps', n', e, B', h0, h1, q⟩⟩ | ⟨hb, q⟩
  · cases e
    simp [TX_elders_1, inst_B B']
    refine ⟨b, t', mo', ads', ts', ps', _, rfl, B', .inl ⟨n, rfl, h0, h1, ?_⟩⟩
    exact eld_tail ns B' h0 h1 (by simp) (by simp) q
  · simp [TX_elders_1, inst_B B]
    exact ⟨b, t, mo, ads, ts, ps, v, rfl, B, .inr ⟨hb, q⟩⟩
end Mine


end
noncomputable section
set_option autoImplicit false
set_option linter.unusedVariables false
set_option linter.unusedSimpArgs false
set_option maxHeartbeats 1000000
namespace Mine
open PySem PySem.W PyProof.Rows PySem.Calls
theorem any_ints (x : Int) : ∀ ys : List Int, anyEq (.int x) (ys.map .int) = some (decide (x ∈ ys))
  | [] => rfl
  | y :: r => by
    have ih := any_ints x r
    simp only [List.map_cons, anyEq, ih]
    by_cases h : x = y
    · subst h; simp [veq0]
    · simp [veq0, h, Ne.symm h]
theorem in_ints {σ : View} {a : Addr} {x : Int} {ys : List Int} {Q : V → View → Prop} (h : σ a = some (.list (ys.map .int))) (q : Q (.bool (decide (x ∈ ys))) σ) : opInL (.int x) (.ref a) σ Q := ⟨_, _, h, any_ints x ys, q⟩
theorem eld_ok {ns : List Int} {σ : View} {b t mo : Addr} {ads : List Addr} {ts : List (List (Str × V))} {ps : List (List Int)} {Q : V → View → Prop} (B : BookAt σ b t mo ads ts ps) {n : Int} (h0 : 0 ≤ n) (h1 : n < ts.length)
    (q : ∀ a (xs : List Int) σ', Grow σ σ' → σ a = Option.none → σ' a = some (.list (xs.map .int)) → xs.Pairwise (· < ·) → (∀ x, x ∈ xs ↔ Anc ps n x) → Q (.ref a) σ') : sp_elders ns [.ref b, .int n] σ Q := ⟨b, t, mo, ads, ts, ps, n, rfl, B, h0, h1, q⟩
theorem few_of {ps : List (List Int)} {n : Int} {xs : List Int} {N : Nat} (ho : ∀ (k : Nat) l, ps[k]? = some l → ∀ p ∈ l, 0 ≤ p ∧ p < (k : Int)) (h0 : 0 ≤ n) (h1 : n < N) (hs : xs.Pairwise (· < ·)) (h : ∀ x, x ∈ xs ↔ Anc ps n x) : xs.length ≤ N :=
  nodup_few (by rw [List.nodup_iff_pairwise_ne]; exact hs.imp fun h => by omega) fun x hx => by have := ((h x).mp hx).le ho h0; omega
theorem s_nearest (ns : List Int) : ∀ vs σ Q, sp_nearest ns vs σ Q → vs.length = 3 ∧ T_nearest ns (bindM ["self", "one", "other"] vs none') σ (fin Q) := by
  rintro vs σ Q ⟨b, t, mo, ads, ts, ps, n, k, rfl, B, h0, h1, k0, k1, ⟨z, z1, z2⟩, q⟩
  refine ⟨rfl, ?_⟩
  have ho : ∀ (k : Nat) l, ps[k]? = some l → ∀ p ∈ l, 0 ≤ p ∧ p < (k : Int) := fun k l h => (B.ord k l h).2
  have few := B.few
  unfold T_nearest
  rw [seq_eq]
  simp [T_nearest_1, inst_B B]
  refine eld_ok B h0 h1 fun a1 xs1 σ1 g1 ha1 x1 s1 e1 => ?_
  have B1 := B.grow g1
  rw [seq_eq]
  simp [T_nearest_2, inst_B B1]
  refine eld_ok B1 k0 k1 fun a2 xs2 σ2 g2 ha2 x2 s2 e2 => ?_
  have l2 := few_of ho k0 k1 s2 e2
  simp [iter_list x2]
  refine compL_filter (fun σ' => σ' = σ2) (fun σ' e => by rw [e]; exact x2) (fun v => match v with | .int x => if x ∈ xs1 then some (.int x) else Option.none | _ => Option.none) _ _ _ _ (by simp; omega) ?_ rfl ?_
  · rintro v hv σ' Q1 Q2 rfl n1 n2
    obtain ⟨x, hx, rfl⟩ := List.mem_map.mp hv
    refine ⟨_, rfl, ?_⟩
    try simp
    refine in_ints (g2 _ _ x1) ?_
    try simp
    split
    · rename_i h; exact n1 _ _ rfl (by simp [h])
    · rename_i h; exact n2 _ rfl (by simp [h])
  · rintro σ' rfl
    have hfm : ∀ xs : List Int, (xs.map V.int).filterMap (fun v => match v with | .int x => if x ∈ xs1 then some (V.int x) else Option.none | _ => Option.none) = (xs.filter fun x => decide (x ∈ xs1)).map V.int := by
      intro xs
      induction xs with
      | nil => rfl
      | cons y r ih =>
        simp only [List.map_cons, List.filterMap_cons]
        by_cases h : y ∈ xs1
        · rw [List.filter_cons_of_pos (by simpa using h)]; simp [h, ih]
        · rw [List.filter_cons_of_neg (by simpa using h)]; simp [h, ih]
    simp only [List.nil_append]
    rw [hfm]
    intro a3 ha3
    refine max_list (upd_same _ _ _) ?_ fun M hM hmax => ?_
    · have : z ∈ xs2.filter fun x => decide (x ∈ xs1) := List.mem_filter.mpr ⟨(e2 z).mpr z2, by simpa using (e1 z).mpr z1⟩
      exact List.length_pos_of_mem this
    · obtain ⟨m1, m2⟩ := List.mem_filter.mp hM
      have m2' : M ∈ xs1 := by simpa using m2
      refine q M _ ((g1.trans g2).upd ha3) ((e1 M).mp m2') ((e2 M).mp m1) fun y y1 y2 => ?_
      exact hmax y (List.mem_filter.mpr ⟨(e2 y).mpr y2, by simpa using (e1 y).mpr y1⟩)
theorem sx_nearest (ns : List Int) : ∀ vs σ Q X, spX_nearest ns vs σ Q X → vs.length = 3 ∧ TX_nearest ns (bindM ["self", "one", "other"] vs none') σ (fin Q) (fun c _ σ' => X c σ') := by
  rintro vs σ Q X ⟨b, t, mo, ads, ts, ps, v, u, rfl, B, hb, q⟩
  refine ⟨rfl, ?_⟩
  unfold TX_nearest
  rw [xseq_eq]
  simp [TX_nearest_1, inst_B B]
  rcases hb with hb | ⟨n, rfl, h0, h1, hb⟩
  · exact ⟨b, t, mo, ads, ts, ps, v, rfl, B, .inr ⟨hb, q _ Grow.refl⟩⟩
  · refine ⟨b, t, mo, ads, ts, ps, _, rfl, B, .inl ⟨n, rfl, eld_ok B h0 h1 fun a1 xs1 σ1 g1 ha1 x1 s1 e1 => ?_⟩⟩
    have B1 := B.grow g1
    rw [xseq_eq]
    simp [TX_nearest_2, inst_B B1]
    exact ⟨b, t, mo, ads, ts, ps, u, rfl, B1, .inr ⟨hb, q _ g1⟩⟩
theorem sx_story (ns : List Int) : ∀ vs σ Q X, spX_story ns vs σ Q X → vs.length = 3 ∧ TX_story ns (bindM ["self", "number", "path"] vs none') σ (fin Q) (fun c _ σ' => X c σ') := by
  rintro vs σ Q X ⟨b, t, mo, ads, ts, ps, v, u, rfl, B, hb, q⟩
  refine ⟨rfl, ?_⟩
  unfold TX_story
  rw [xseq_eq]
  simp [TX_story_1]
  intro a ha
  have g : Grow σ (upd σ a (.list [])) := Grow.refl.upd ha
  have B1 := B.grow g
  rw [xseq_eq]
  simp [TX_story_2, inst_B B1]
  exact ⟨b, t, mo, ads, ts, ps, v, rfl, B1, .inr ⟨hb, q _ g⟩⟩
/- road -/
theorem s_road (ns : List Int) : ∀ vs σ Q, sp_road ns vs σ Q → vs.length = 3 ∧ T_road ns (bindM ["self", "elder", "number"] vs none') σ (fin Q) := by
  rintro vs σ Q ⟨b, t, mo, ads, ts, ps, e, n, rfl, B, e0, e1, n0, n1, h⟩
  refine ⟨rfl, ?_⟩
  have ho : ∀ (k : Nat) l, ps[k]? = some l → l.length ≤ 2 ∧ ∀ p ∈ l, 0 ≤ p ∧ p < (k : Int) := B.ord
  have few := B.few
  unfold T_road
  rw [seq_eq]
  simp [T_road_1, inst_B B]
  refine need_ok B e0 e1 ?_
  rw [seq_eq]
  simp [T_road_2, inst_B B]
  refine need_ok B n0 n1 ?_
  rw [seq_eq]
  simp [T_road_3]
  intro f ef hf
  have xf := upd_same σ f (.idict [(e, .int e)] ef)
  have g0 : Grow σ (upd σ f (.idict [(e, .int e)] ef)) := Grow.refl.upd hf
  generalize (upd σ f (.idict [(e, .int e)] ef)) = σ₂ at xf g0 ⊢
  rw [seq_eq]
  simp [T_road_4]
  refine ⟨⟨by omega, by omega, by omega, by omega⟩, ?_⟩
  rcases h with ⟨hlt, q⟩ | ⟨hlt, hps, q⟩
  · have : (n + 1 - (e + 1)).toNat = 0 := by omega
    rw [this]
    simp only [rangeL, List.range_zero, List.map_nil, forL]
    refine ⟨trivial, ?_⟩
    rw [kont_next, seq_eq]
    simp [T_road_5]
    refine notin_idict xf ?_
    rw [iget_isSome]
    simp [show ¬ n = e by omega, seq_eq]
    exact q _ g0
  · refine forL_inv (fun i m σ' => ∃ kvs ep, σ' f = some (.idict kvs ep) ∧ Grow σ σ' ∧ m "self" = some (.ref b) ∧ m "came" = some (.ref f) ∧ m "number" = some (.int n) ∧ m "elder" = some (.int e) ∧ (iget kvs e).isSome = true ∧ kvs.length ≤ 1 + 2 * i ∧ ((n - e).toNat ≤ i → iget kvs n = some (.int e))) (fun _ _ _ => False)
      (fun _ _ _ _ => trivial) _ ?_ ?_ (fun _ _ _ h => h.elim) _ _ ⟨_, _, xf, g0, by simp, by simp, by simp, by simp, by simp [iget], by simp, fun h => by omega⟩
    · rintro i v m σ' Q' hv ⟨kvs, ep, hk, g, hs, hc, hn, he, hse, hlen, hl⟩ q1 q2 q3
      obtain ⟨hi, rfl⟩ := range_get hv
      have B' := B.grow g
      refine ⟨_, rfl, ?_⟩
      have hlt2 : (e + 1 + (i : Int)).toNat < ps.length := by rw [B.lenP]; omega
      have hgl : ps[(e + 1 + (i : Int)).toNat]? = some ps[(e + 1 + (i : Int)).toNat] := List.getElem?_eq_getElem hlt2
      generalize ps[(e + 1 + (i : Int)).toNat] = l at hgl
      simp [seq_eq, hs, attr_M B']
      refine B'.itemM (by omega) hgl ?_
      have hol := ho _ _ hgl
      try simp
      refine forL_inv (fun j m σ'' => ∃ kvs' ep', σ'' f = some (.idict kvs' ep') ∧ Grow σ σ'' ∧ m "self" = some (.ref b) ∧ m "came" = some (.ref f) ∧ m "number" = some (.int n) ∧ m "elder" = some (.int e) ∧ m "k" = some (.int (e + 1 + i)) ∧ (iget kvs' e).isSome = true ∧ kvs'.length ≤ kvs.length + j ∧ (l = [e] → e + 1 + i = n → 1 ≤ j → iget kvs' n = some (.int e)))
        (fun _ _ _ => False) (fun _ _ _ _ => trivial) _ ?_ ?_ (fun _ _ _ h => h.elim) _ _ ⟨kvs, ep, hk, g, by simp [hs], by simp [hc], by simp [hn], by simp [he], by simp, hse, by simp, fun _ _ h => by omega⟩
      · rintro j v m σ'' Q'' hv ⟨kvs', ep', hk', g', hs', hc', hn', he', hkk, hse', hlen', hl'⟩ r1 r2 r3
        obtain ⟨p, hp, rfl⟩ := int_at hv
        have hj : j < l.length := (List.getElem?_eq_some_iff.mp hp).1
        refine ⟨_, rfl, ?_⟩
        simp [seq_eq, hc', hkk]
        refine in_idict hk' ?_
        simp only [isB_bool]
        split
        · have hle := istored_len kvs' (e + 1 + i) (.int p)
          refine set_idict hk' (by omega) fun ep'' => ?_
          refine r1 _ _ ⟨_, _, upd_same _ _ _, g'.over hf, by simp [hs'], by simp [hc'], by simp [hn'], by simp [he'], by simp [hkk], ?_, by omega, fun hle1 hn1 _ => ?_⟩
          · rw [iget_stored]; split
            · rfl
            · exact hse'
          · subst hle1
            have hj0 : j = 0 := by simp at hj; omega
            subst hj0
            simp at hp
            subst hp
            rw [iget_stored, if_pos hn1.symm]
        · rename_i hno
          refine r1 _ _ ⟨kvs', ep', hk', g', by simp [hs'], by simp [hc'], by simp [hn'], by simp [he'], by simp [hkk], hse', by omega, fun hle1 hn1 _ => ?_⟩
          exfalso
          subst hle1
          have hj0 : j = 0 := by simp at hj; omega
          subst hj0
          simp at hp
          subst hp
          exact hno hse'
      · rintro m σ'' ⟨kvs', ep', hk', g', hs', hc', hn', he', hkk, hse', hlen', hl'⟩
        rw [List.length_map] at hlen' hl'
        try simp
        refine q1 _ _ ⟨kvs', ep', hk', g', hs', hc', hn', he', hse', by omega, fun hi2 => ?_⟩
        have hi3 : i + 1 = (n - e).toNat := by omega
        have hkn : e + 1 + (i : Int) = n := by omega
        rw [hkn] at hgl
        rw [hps] at hgl
        cases hgl
        exact hl' rfl hkn (by simp)
    · rintro m σ' ⟨kvs, ep, hk, g, hs, hc, hn, he, hse, hlen, hl⟩
      rw [range_len] at hl hlen
      have hget := hl (by omega)
      rw [kont_next, seq_eq]
      simp [T_road_5, hn, hc]
      refine notin_idict hk ?_
      rw [hget]
      try simp
      rw [seq_eq]
      simp [T_road_6, hn]
      intro r hr
      have hrf : σ r = none := g.none hr
      have xr := upd_same σ' r (.list [.int n])
      have xk : upd σ' r (.list [.int n]) f = some (.idict kvs ep) := by rw [upd_ne (by rintro rfl; rw [hk] at hr; cases hr)]; exact hk
      have g3 : Grow σ (upd σ' r (.list [.int n])) := g.upd hr
      generalize upd σ' r (.list [.int n]) = σ₃ at xr xk g3 ⊢
      rw [seq_eq]
      refine ⟨2, ?_⟩
      simp only [whileN]
      simp [he, hc]
      refine item_last (xs := []) (by simpa using xr) ?_
      simp [show ¬ n = e by omega, seq_eq, tyList_ref xr, hc]
      refine item_last (xs := []) (by simpa using xr) ?_
      refine item_idict xk hget ?_
      refine append_list xr (by simp) ?_
      simp [he]
      refine item_last (xs := [.int n]) (v := .int e) (upd_same _ _ _) ?_
      try simp
      simp [T_road_8]
      refine rev_list (upd_same _ _ _) ?_
      intro a ha
      try simp
      refine q a _ ((g3.over hrf).upd ha) (g3.none (by rw [upd_ne (by rintro rfl; rw [upd_same] at ha; cases ha)] at ha; exact ha)) (upd_same _ _ _)
end Mine


end
noncomputable section
set_option autoImplicit false
set_option linter.unusedVariables false
set_option linter.unusedSimpArgs false
set_option maxHeartbeats 1000000
namespace Mine
open PySem PySem.W PyProof.Rows PySem.Calls
theorem up_i {w k : Int} (h : k ≤ w) (n : ¬ w = k) : k + 1 ≤ w := by omega
theorem s_asked (ns : List Int) : ∀ vs σ Q X, sp__law_asked ns vs σ Q X → vs.length = 4 ∧ T__law_asked ns (bindM ["_law_book", "_law_way", "_law_wrong", "_law_good"] vs none') σ (fin Q) (fun c _ σ' => X c σ') := by
  rintro vs σ Q X ⟨b, t, mo, ads, ts, ps, w, v, g, rfl, B, w0, w1, hb, g0, g1, q⟩
  refine ⟨rfl, ?_⟩
  have q0 := q σ Grow.refl
  unfold T__law_asked
  rw [xseq_eq]
  simp [T__law_asked_1]
  split
  · rename_i hw
    subst hw
    simp [xseq_eq, inst_B B]
    exact ⟨b, t, mo, ads, ts, ps, v, rfl, B, hb, q0⟩
  rename_i w0n
  rw [xseq_eq]
  simp [T__law_asked_2]
  split
  · rename_i hw
    subst hw
    simp [xseq_eq, inst_B B]
    exact ⟨b, t, mo, ads, ts, ps, v, rfl, B, hb, q0⟩
  rename_i w1n
  rw [xseq_eq]
  simp [T__law_asked_3]
  split
  · rename_i hw
    subst hw
    simp [xseq_eq, inst_B B]
    intro L hL
    have gg : Grow σ (upd σ L (.list [.tup [.str (Str.ofString "cut"), .str (Str.ofString "a/..")]])) := Grow.refl.upd hL
    exact ⟨b, t, mo, ads, ts, ps, v, _, rfl, B.grow gg, hb, q _ gg⟩
  rename_i w2n
  rw [xseq_eq]
  simp [T__law_asked_4]
  split
  · rename_i hw
    subst hw
    simp [xseq_eq, inst_B B]
    intro L e hL
    have gg : Grow σ (upd σ L (.dict [(Str.ofString "x", .str (Str.ofString "y"))] e)) := Grow.refl.upd hL
    exact ⟨b, t, mo, ads, ts, ps, v, _, _, rfl, B.grow gg, .inl ⟨hb, q _ gg⟩⟩
  rename_i w3n
  rw [xseq_eq]
  simp [T__law_asked_5]
  split
  · rename_i hw
    subst hw
    simp [xseq_eq, inst_B B]
    intro L e hL
    have gg : Grow σ (upd σ L (.dict [] e)) := Grow.refl.upd hL
    exact ⟨b, t, mo, ads, ts, ps, _, v, _, rfl, B.grow gg, .inr ⟨g, rfl, g0, g1, .inl ⟨hb, q _ gg⟩⟩⟩
  rename_i w4n
  rw [xseq_eq]
  simp [T__law_asked_6]
  split
  · rename_i hw
    subst hw
    simp [xseq_eq, inst_B B]
    exact ⟨b, t, mo, ads, ts, ps, v, rfl, B, .inr ⟨hb, q0⟩⟩
  rename_i w5n
  rw [xseq_eq]
  simp [T__law_asked_7]
  split
  · rename_i hw
    subst hw
    simp [xseq_eq, inst_B B]
    exact ⟨b, t, mo, ads, ts, ps, v, _, rfl, B, .inl hb, fun σ' gg => q σ' gg⟩
  rename_i w6n
  rw [xseq_eq]
  simp [T__law_asked_8]
  split
  · rename_i hw
    subst hw
    simp [xseq_eq, inst_B B]
    exact ⟨b, t, mo, ads, ts, ps, _, v, rfl, B, .inr ⟨g, rfl, g0, g1, hb⟩, fun σ' gg => q σ' gg⟩
  rename_i w7n
  rw [xseq_eq]
  simp [T__law_asked_9]
  split
  · rename_i hw
    subst hw
    simp [xseq_eq, inst_B B]
    exact ⟨b, t, mo, ads, ts, ps, v, _, rfl, B, .inl hb, q0⟩
  rename_i w8n
  rw [xseq_eq]
  simp [T__law_asked_10]
  split
  · rename_i hw
    subst hw
    simp [xseq_eq, inst_B B]
    exact ⟨b, t, mo, ads, ts, ps, _, v, rfl, B, .inr ⟨g, rfl, g0, g1, hb⟩, q0⟩
  rename_i w9n
  rw [xseq_eq]
  simp [T__law_asked_11]
  split
  · rename_i hw
    subst hw
    simp [xseq_eq, inst_B B]
    exact ⟨b, t, mo, ads, ts, ps, v, _, rfl, B, hb, fun σ' gg => q σ' gg⟩
  rename_i w10n
  rw [xseq_eq]
  simp [T__law_asked_12]
  split
  · rename_i hw
    subst hw
    simp [xseq_eq, inst_B B]
    intro L e hL
    have gg : Grow σ (upd σ L (.dict [] e)) := Grow.refl.upd hL
    exact ⟨b, t, mo, ads, ts, ps, v, _, _, rfl, B.grow gg, .inl ⟨hb, q _ gg⟩⟩
  rename_i w11n
  rw [xseq_eq]
  have w12 : w > 11 := up_i (up_i (up_i (up_i (up_i (up_i (up_i (up_i (up_i (up_i (up_i (up_i w0 w0n) w1n) w2n) w3n) w4n) w5n) w6n) w7n) w8n) w9n) w10n) w11n
  have hw : wordOf w = "SameVersion" := by unfold wordOf; rw [if_pos w12]
  rw [hw] at q
  simp [T__law_asked_13, inst_B B]
  intro L1 e1 hL1
  have gg1 : Grow σ (upd σ L1 (.dict [] e1)) := Grow.refl.upd hL1
  intro L2 e2 hL2
  have gg2 : Grow σ (upd (upd σ L1 (.dict [] e1)) L2 (.dict [(Str.ofString "x", .str (Str.ofString "y"))] e2)) := gg1.upd hL2
  intro L3 hL3
  have x3 := upd_same (upd (upd σ L1 (.dict [] e1)) L2 (.dict [(Str.ofString "x", .str (Str.ofString "y"))] e2)) L3 (.list [.ref L1, .ref L2])
  have gg3 := gg2.upd (o := .list [.ref L1, .ref L2]) hL3
  generalize (upd (upd (upd σ L1 (.dict [] e1)) L2 (.dict [(Str.ofString "x", .str (Str.ofString "y"))] e2)) L3 (.list [.ref L1, .ref L2])) = σ₃ at x3 gg3 ⊢
  have hm0 : 0 ≤ w % 2 := by omega
  have hm : ∃ u, [V.ref L1, .ref L2][(w % 2).toNat]? = some u := ⟨_, List.getElem?_eq_getElem (by simp; omega)⟩
  obtain ⟨u, hu⟩ := hm
  refine item_list x3 hm0 hu ?_
  exact ⟨b, t, mo, ads, ts, ps, _, _, u, rfl, B.grow gg3, .inr ⟨g, rfl, g0, g1, .inr ⟨rfl, q _ gg3⟩⟩⟩
theorem fit_comp {σ : View} {inv : View → Prop} {m : Loc} {Q : List V → View → Prop} (hi : inv σ) : ∀ (l : List (Str × Bool)) (acc : List V), acc.length + l.length ≤ 1000 → Q (acc ++ (l.filter (·.2)).map fun p => .str p.1) σ →
    compL (.tup ["_law_word", "_law_fits"]) inv (tBool (eName "_law_fits")) (eName "_law_word") m (l.map fun p => .tup [.str p.1, .bool p.2]) acc σ Q
  | [], acc, _, q => by simp [compL]; exact ⟨hi, by simpa using q⟩
  | (w, b) :: r, acc, hl, q => by
    simp only [List.map_cons, compL]
    refine ⟨hi, _, rfl, ?_⟩
    cases b with
    | true =>
      try simp
      simp at hl
      exact ⟨by omega, fit_comp hi r (acc ++ [.str w]) (by simp; omega) (by simpa using q)⟩
    | false =>
      try simp
      simp at hl
      exact fit_comp hi r _ (by omega) (by simpa using q)
theorem s_told (ns : List Int) (ad : String → Addr) : ∀ vs σ Q X, sp__law_told ns vs σ Q X → vs.length = 4 ∧ T__law_told ns ad (bindM ["_law_book", "_law_way", "_law_wrong", "_law_good"] vs none') σ (fin Q) (fun c _ σ' => X c σ') := by
  rintro vs σ Q X ⟨b, t, mo, ads, ts, ps, w, v, g, rfl, B, w0, w1, hb, g0, g1, q⟩
  refine ⟨rfl, ?_⟩
  unfold T__law_told
  rw [xseq_eq]
  simp [T__law_told_1, xseq_eq]
  refine ⟨b, t, mo, ads, ts, ps, w, v, g, rfl, B, w0, w1, hb, g0, g1, ?_⟩
  intro σ' g
  have hc : wordOf w = "NoVersion" ∨ wordOf w = "SameVersion" := by unfold wordOf; split <;> simp
  generalize wordOf w = c at hc q ⊢
  refine ⟨by rcases hc with rfl | rfl <;> decide, fun e he => ?_⟩
  rw [seq_eq]
  try simp
  intro d1 h1
  generalize hs1 : upd σ' d1 _ = σ₁
  have g1 : Grow σ' σ₁ := by rw [← hs1]; exact Grow.refl.upd h1
  have x1 : σ₁ d1 = some (.list [.tup [.str (Str.ofString "NoVersion"), .bool (subX c "NoVersion")], .tup [.str (Str.ofString "SameVersion"), .bool (subX c "SameVersion")]]) := by rw [← hs1, upd_same]
  rw [seq_eq]
  try simp
  intro d2 h2
  generalize hs2 : upd σ₁ d2 _ = σ₂
  have g2 : Grow σ₁ σ₂ := by rw [← hs2]; exact Grow.refl.upd h2
  have x2 : σ₂ d2 = some (.list [.tup [.str (Str.ofString "NoClash"), .bool (subX c "NoClash")], .tup [.str (Str.ofString "Clashed"), .bool (subX c "Clashed")]]) := by rw [← hs2, upd_same]
  refine add_list (g2 _ _ x1) x2 (by simp) fun d3 h3 => ?_
  generalize hs3 : upd σ₂ d3 _ = σ₃
  have g3 : Grow σ₂ σ₃ := by rw [← hs3]; exact Grow.refl.upd h3
  have x3 : σ₃ d3 = some (.list ([.tup [.str (Str.ofString "NoVersion"), .bool (subX c "NoVersion")], .tup [.str (Str.ofString "SameVersion"), .bool (subX c "SameVersion")]] ++ [.tup [.str (Str.ofString "NoClash"), .bool (subX c "NoClash")], .tup [.str (Str.ofString "Clashed"), .bool (subX c "Clashed")]])) := by rw [← hs3, upd_same]
  rw [seq_eq]
  try simp
  intro d4 h4
  generalize hs4 : upd σ₃ d4 _ = σ₄
  have g4 : Grow σ₃ σ₄ := by rw [← hs4]; exact Grow.refl.upd h4
  have x4 : σ₄ d4 = some (.list [.tup [.str (Str.ofString "NoPath"), .bool (subX c "NoPath")], .tup [.str (Str.ofString "NoFile"), .bool (subX c "NoFile")]]) := by rw [← hs4, upd_same]
  refine add_list (g4 _ _ x3) x4 (by simp) fun d5 h5 => ?_
  generalize hs5 : upd σ₄ d5 _ = σ₅
  have g5 : Grow σ₄ σ₅ := by rw [← hs5]; exact Grow.refl.upd h5
  have x5 : σ₅ d5 = some (.list (([.tup [.str (Str.ofString "NoVersion"), .bool (subX c "NoVersion")], .tup [.str (Str.ofString "SameVersion"), .bool (subX c "SameVersion")]] ++ [.tup [.str (Str.ofString "NoClash"), .bool (subX c "NoClash")], .tup [.str (Str.ofString "Clashed"), .bool (subX c "Clashed")]]) ++ [.tup [.str (Str.ofString "NoPath"), .bool (subX c "NoPath")], .tup [.str (Str.ofString "NoFile"), .bool (subX c "NoFile")]])) := by rw [← hs5, upd_same]
  rw [seq_eq]
  try simp
  intro d6 h6
  generalize hs6 : upd σ₅ d6 _ = σ₆
  have g6 : Grow σ₅ σ₆ := by rw [← hs6]; exact Grow.refl.upd h6
  have x6 : σ₆ d6 = some (.list [.tup [.str (Str.ofString "InTheWay"), .bool (subX c "InTheWay")]]) := by rw [← hs6, upd_same]
  refine add_list (g6 _ _ x5) x6 (by simp) fun d7 h7 => ?_
  generalize hs7 : upd σ₆ d7 _ = σ₇
  have g7 : Grow σ₆ σ₇ := by rw [← hs7]; exact Grow.refl.upd h7
  have x7 : σ₇ d7 = some (.list ([(Str.ofString "NoVersion", subX c "NoVersion"), (Str.ofString "SameVersion", subX c "SameVersion"), (Str.ofString "NoClash", subX c "NoClash"), (Str.ofString "Clashed", subX c "Clashed"), (Str.ofString "NoPath", subX c "NoPath"), (Str.ofString "NoFile", subX c "NoFile"), (Str.ofString "InTheWay", subX c "InTheWay")].map fun p => .tup [.str p.1, .bool p.2])) := by rw [← hs7, upd_same]; rfl
  rw [seq_eq]
  simp only [sRet_eq, eBin_eq, lCons_eq, eMeth_eq, eVal_eq, tyStr_str, eComp_eq, iList_eq, eName_eq, lNil_eq]
  refine ⟨trivial, .ref d7, by simp, d7, _, rfl, x7, ?_⟩
  refine fit_comp x7 _ [] (by show 7 ≤ 1000; decide) ?_
  intro d8 h8
  generalize hs8 : upd σ₇ d8 _ = σ₈
  have g8 : Grow σ₇ σ₈ := by rw [← hs8]; exact Grow.refl.upd h8
  have x8 : σ₈ d8 = some (.list ([Str.ofString c].map .str)) := by
    rw [← hs8, upd_same]
    rcases hc with rfl | rfl <;> rfl
  refine join_list x8 (by
    rcases hc with rfl | rfl <;> decide +kernel) ?_
  have hj : Str.join (Str.ofString "") [Str.ofString c] = Str.ofString c := by rcases hc with rfl | rfl <;> decide +kernel
  rw [hj]
  try simp
  refine ⟨?_, ?_⟩
  · rcases hc with rfl | rfl <;> (unfold MulOk; decide +kernel)
  · have hm : Txt.mul (Str.ofString c) 1 = Str.ofString c := by rcases hc with rfl | rfl <;> decide +kernel
    rw [hm]
    exact q _ (((((((g.trans g1).trans g2).trans g3).trans g4).trans g5).trans g6).trans (g7.trans g8))
end Mine


end
noncomputable section
set_option autoImplicit false
set_option linter.unusedVariables false
set_option linter.unusedSimpArgs false
set_option maxHeartbeats 1000000
namespace Mine
open PySem PySem.W PyProof.Rows PySem.Calls
/-- nothing, or a text -/
noncomputable def NS : V → Prop
  | .none => True
  | .str _ => True
  | _ => False
theorem ns_eq {u v : V} (hu : NS u) (hv : NS v) : ∃ r, veq0 u v = some r ∧ (r = true ↔ u = v) := by
  cases u <;> first | exact hu.elim | skip
  · cases v <;> first | exact hv.elim | skip
    · exact ⟨true, rfl, by simp⟩
    · exact ⟨false, rfl, by simp⟩
  · cases v <;> first | exact hv.elim | skip
    · exact ⟨false, rfl, by simp⟩
    · rename_i x y; exact ⟨decide (x = y), rfl, by simp⟩
theorem Tr.ns {kvs : List (Str × V)} (h : Tr kvs) (x : Str) : NS ((vget kvs x).getD .none) := by
  cases e : vget kvs x with
  | none => trivial
  | some v =>
    unfold vget at e
    obtain ⟨q, h1, rfl⟩ := Option.map_eq_some_iff.mp e
    obtain ⟨y, hy⟩ := h.val q (List.mem_of_find?_eq_some h1)
    rw [hy]; trivial
section
variable {σ σ' : View} {b t mo : Addr} {ads : List Addr} {ts : List (List (Str × V))} {ps : List (List Int)} {Q : V → View → Prop}
theorem txt_ns (B : BookAt σ b t mo ads ts ps) (i : Int) (x : Str) : NS (txt ts i x) := by
  unfold txt
  cases e : ts[i.toNat]? with
  | none => trivial
  | some kvs => exact (B.tree _ (List.mem_of_getElem? e)).ns x
theorem get_txt {ns : List Int} (B : BookAt σ b t mo ads ts ps) {i : Int} {x : Str} (h0 : 0 ≤ i) (h1 : i < ts.length) (q : Q (txt ts i x) σ) : opItem ns (.ref t) (.int i) σ fun o σ₁ => tyDict o σ₁ ∧ spGet [o, .str x] σ₁ Q := by
  have hlt : i.toNat < ts.length := by omega
  have hg : ts[i.toNat]? = some ts[i.toNat] := List.getElem?_eq_getElem hlt
  refine B.itemT h0 hg fun d ep hd => ?_
  refine ⟨by rw [tyDict_ref hd]; trivial, get_dict hd ?_⟩
  unfold txt at q
  rw [hg] at q
  exact q
end
open Classical in
theorem s_story (ns : List Int) : ∀ vs σ Q, sp_story ns vs σ Q → vs.length = 3 ∧ T_story ns (bindM ["self", "number", "path"] vs none') σ (fin Q) := by
  rintro vs σ Q ⟨b, t, mo, ads, ts, ps, n, x, rfl, B, h0, h1, q⟩
  refine ⟨rfl, ?_⟩
  have ho : ∀ (k : Nat) l, ps[k]? = some l → ∀ p ∈ l, 0 ≤ p ∧ p < (k : Int) := fun k l h => (B.ord k l h).2
  have few := B.few
  unfold T_story
  rw [seq_eq]
  simp [T_story_1]
  intro a ha
  have xa := upd_same σ a (.list [])
  have g1 : Grow σ (upd σ a (.list [])) := Grow.refl.upd ha
  generalize upd σ a (.list []) = σ1 at xa g1 ⊢
  have B1 := B.grow g1
  rw [seq_eq]
  simp [T_story_2, inst_B B1]
  refine eld_ok B1 h0 h1 fun a2 xs σ2 g2 ha2 x2 s2 e2 => ?_
  have hne : a2 ≠ a := by rintro rfl; rw [xa] at ha2; cases ha2
  have ha2' : σ a2 = none := g1.none ha2
  have hlen := few_of ho h0 h1 s2 e2
  simp [iter_list x2]
  refine forL_inv (fun i m σ' => σ' a = some (.list (((xs.take i).filter fun y => decide (toldBy ts ps x y)).map .int)) ∧ σ' a2 = some (.list (xs.map .int)) ∧ Grow σ σ' ∧ m "self" = some (.ref b) ∧ m "path" = some (.str x) ∧ m "told" = some (.ref a)) (fun _ _ _ => False)
    (fun i m σ' h => h.2.1) _ ?_ ?_ (fun _ _ _ h => h.elim) _ _ ⟨by simpa using g2 _ _ xa, x2, g1.trans g2, by simp, by simp, by simp⟩
  · rintro i v m σ' Q' hv ⟨ha', hx', g, hs, hp, ht⟩ q1 q2 q3
    obtain ⟨y, hy, rfl⟩ := int_at hv
    have hyx := List.mem_of_getElem? hy
    have hyle := ((e2 y).mp hyx).le ho h0
    have B' := B.grow g
    have hplt : y.toNat < ps.length := by rw [B.lenP]; omega
    have hpl : ps[y.toNat]? = some ps[y.toNat] := List.getElem?_eq_getElem hplt
    generalize ps[y.toNat] = l at hpl
    have hlo := ho _ _ hpl
    have hl2 := (B.ord _ _ hpl).1
    refine ⟨_, rfl, ?_⟩
    rw [seq_eq]
    simp [hs, hp, attr_T B']
    refine get_txt B' hyle.1 (by omega) ?_
    rw [seq_eq]
    simp [hs, attr_M B']
    refine B'.itemM hyle.1 hpl ?_
    try simp
    refine compL_filter (fun σ'' => σ'' = σ') (fun _ _ => trivial) (fun v => match v with | .int p => if txt ts p x = txt ts y x then some (.int p) else Option.none | _ => Option.none) _ _ _ _ (by simp; omega) ?_ rfl ?_
    · rintro v hv σ'' Q1 Q2 rfl n1 n2
      obtain ⟨p, hpm, rfl⟩ := List.mem_map.mp hv
      have hpo := hlo p hpm
      refine ⟨_, rfl, ?_⟩
      simp [hs, hp, attr_T B']
      refine get_txt B' hpo.1 (by omega) ?_
      obtain ⟨r, hr, hre⟩ := ns_eq (txt_ns B p x) (txt_ns B y x)
      refine ⟨r, hr, ?_⟩
      simp only [isB_bool]
      cases r with
      | true => simp; exact n1 _ _ rfl (by simp [hre.mp rfl])
      | false => simp; exact n2 _ rfl (by simp; intro e; exact absurd (hre.mpr e) (by simp))
    · rintro σ'' rfl
      have hfm : (l.map V.int).filterMap (fun v => match v with | .int p => if txt ts p x = txt ts y x then some (V.int p) else Option.none | _ => Option.none) = (l.filter fun p => decide (txt ts p x = txt ts y x)).map V.int := by
        clear hpl hlo hl2
        induction l with
        | nil => rfl
        | cons z r ih =>
          simp only [List.map_cons, List.filterMap_cons]
          by_cases h : txt ts z x = txt ts y x
          · rw [List.filter_cons_of_pos (by simpa using h)]; simp [h, ih]
          · rw [List.filter_cons_of_neg (by simpa using h)]; simp [h, ih]
      simp only [List.nil_append]
      rw [hfm]
      intro a3 ha3
      have x3 := upd_same σ'' a3 (.list ((l.filter fun p => decide (txt ts p x = txt ts y x)).map .int))
      have g3 := Grow.refl.upd (σ := σ'') (o := .list ((l.filter fun p => decide (txt ts p x = txt ts y x)).map .int)) ha3
      generalize upd σ'' a3 (.list ((l.filter fun p => decide (txt ts p x = txt ts y x)).map .int)) = σ3 at x3 g3 ⊢
      have B3 := B'.grow g3
      rw [seq_eq]
      simp [hs, attr_M B3]
      refine B3.itemM hyle.1 hpl ?_
      have told_iff : toldBy ts ps x y ↔ l ≠ [] ∧ (l.filter fun p => decide (txt ts p x = txt ts y x)) = [] := by
        unfold toldBy
        constructor
        · rintro ⟨l', hl', h1, h2⟩
          rw [hpl] at hl'; cases hl'
          exact ⟨h1, List.filter_eq_nil_iff.mpr fun p hp => by simpa using h2 p hp⟩
        · rintro ⟨h1, h2⟩
          exact ⟨l, hpl, h1, fun p hp => by simpa using List.filter_eq_nil_iff.mp h2 p hp⟩
      have keep : ¬ toldBy ts ps x y → ((xs.take (i + 1)).filter fun y => decide (toldBy ts ps x y)) = (xs.take i).filter fun y => decide (toldBy ts ps x y) := by
        intro h
        rw [List.take_add_one, hy, List.filter_append]
        simp [h]
      cases l with
      | nil =>
        refine ⟨true, rfl, ?_⟩
        try simp
        refine q1 _ _ ⟨?_, g3 _ _ hx', g.trans g3, by simp [hs], by simp [hp], by simp [ht]⟩
        rw [keep (by rw [told_iff]; simp)]
        exact g3 _ _ ha'
      | cons l0 lr =>
        refine ⟨false, rfl, ?_⟩
        try simp
        intro a4 ha4
        have x4 := upd_same σ3 a4 (.list [])
        have g4 := Grow.refl.upd (σ := σ3) (o := .list []) ha4
        generalize upd σ3 a4 (.list []) = σ4 at x4 g4 ⊢
        have g34 : Grow σ'' σ4 := g3.trans g4
        have x3' := g4 _ _ x3
        generalize hfl : ((l0 :: lr).filter fun p => decide (txt ts p x = txt ts y x)) = fl at x3' told_iff
        cases fl with
        | nil =>
          refine ⟨true, by simp [dq, x3', x4, rowq], ?_⟩
          simp [ht, seq_eq]
          rw [tyList_ref (g34 _ _ ha')]
          refine ⟨trivial, append_list (g34 _ _ ha') (by simp; have := List.length_filter_le (fun y => decide (toldBy ts ps x y)) (xs.take i); have := (List.take_sublist i xs).length_le; omega) ?_⟩
          refine q1 _ _ ⟨?_, ?_, (g.trans g34).over ha, by simp [hs], by simp [hp], by simp [ht]⟩
          · rw [upd_same, List.take_add_one, hy, List.filter_append]
            simp [told_iff.mpr ⟨by simp, rfl⟩]
          · rw [upd_ne hne]; exact g34 _ _ hx'
        | cons f0 fr =>
          refine ⟨false, by simp [dq, x3', x4], ?_⟩
          try simp
          refine q1 _ _ ⟨?_, g34 _ _ hx', g.trans g34, by simp [hs], by simp [hp], by simp [ht]⟩
          rw [keep (by rw [told_iff]; simp)]
          exact g34 _ _ ha'
  · rintro m σ' ⟨ha', hx', g, hs, hp, ht⟩
    rw [List.length_map, List.take_length] at ha'
    rw [kont_next, seq_eq]
    simp [T_story_3, ht]
    refine q a _ σ' g ha ha' (s2.filter _) fun j => ?_
    rw [List.mem_filter, e2]
    try simp
end Mine


end
noncomputable section
set_option autoImplicit false
set_option linter.unusedVariables false
set_option linter.unusedSimpArgs false
set_option maxHeartbeats 1000000
namespace Mine
open PySem PySem.W PyProof.Rows PySem.Calls
theorem slist_ext : ∀ {xs ys : List Int}, xs.Pairwise (· < ·) → ys.Pairwise (· < ·) → (∀ x, x ∈ xs ↔ x ∈ ys) → xs = ys := by
  intro xs ys hx hy h
  have nx : xs.Nodup := by rw [List.nodup_iff_pairwise_ne]; exact hx.imp fun h => by omega
  have ny : ys.Nodup := by rw [List.nodup_iff_pairwise_ne]; exact hy.imp fun h => by omega
  exact isorted_uniq ((List.perm_ext_iff_of_nodup nx ny).mpr h) (hx.imp fun h => by omega) (hy.imp fun h => by omega)
section
variable {σ σ' : View} {b t mo : Addr} {ads : List Addr} {ts : List (List (Str × V))} {ps : List (List Int)} {Q : V → View → Prop}
theorem BookAt.keep (B : BookAt σ b t mo ads ts ps) {S : List Addr} (K : Keep S σ σ') (hS : ∀ x ∈ S, ∃ xs, σ x = some (.list xs)) (ht : t ∉ S) (hm : mo ∉ S) : BookAt σ' b t mo ads ts ps := by
  have off : ∀ {x : Addr} {o : AObj}, σ x = some o → (∀ xs, o ≠ .list xs) → x ∉ S := fun e ho hx => by
    obtain ⟨xs, h⟩ := hS _ hx
    rw [e] at h; cases h; exact ho _ rfl
  obtain ⟨dx, h1, h2⟩ := B.obj
  exact ⟨⟨dx, K _ _ h1 (off h1 (by simp)), K _ _ h2 (off h2 (by simp))⟩, K _ _ B.tr ht, K _ _ B.md hm, B.ne, B.len, B.lenP, fun i d e => let ⟨kvs, ep, g1, g2⟩ := B.at_ i d e; ⟨kvs, ep, g1, K _ _ g2 (off g2 (by simp))⟩, B.few, B.tree, B.ord⟩
theorem BookAt.lists (B : BookAt σ b t mo ads ts ps) : ∀ x ∈ [t, mo], ∃ xs, σ x = some (.list xs) := by
  intro x hx
  simp at hx
  rcases hx with rfl | rfl
  · exact ⟨_, B.tr⟩
  · exact ⟨_, B.md⟩
end
theorem vk_path : ∀ k : Nat, k < 6 → okPath (Str.ofString "v" ++ Str.ofString ((k : Int).repr)) = true := by decide +kernel
theorem vk_len : ∀ k : Nat, k < 6 → (Str.ofString "v" ++ Str.ofString ((k : Int).repr)).length = 2 := by decide +kernel
theorem vk_free : ∀ j : Nat, j < 6 → ∀ k : Nat, k < 6 → (!(Txt.startswith (Str.ofString "v" ++ Str.ofString ((j : Int).repr)) (Str.ofString "v" ++ Str.ofString ((k : Int).repr) ++ Str.ofString "/") || Txt.startswith (Str.ofString "v" ++ Str.ofString ((k : Int).repr)) (Str.ofString "v" ++ Str.ofString ((j : Int).repr) ++ Str.ofString "/"))) = true := by decide +kernel
theorem vk_later : ∀ j : Nat, j < 6 → (!(Txt.startswith (Str.ofString "v" ++ Str.ofString ((j : Int).repr)) (Str.ofString "later" ++ Str.ofString "/") || Txt.startswith (Str.ofString "later") (Str.ofString "v" ++ Str.ofString ((j : Int).repr) ++ Str.ofString "/"))) = true := by decide +kernel
theorem vk_ne : ∀ j : Nat, j < 6 → Str.ofString "v" ++ Str.ofString ((j : Int).repr) ≠ Str.ofString "later" := by decide +kernel
theorem later_ok : okPath (Str.ofString "later") = true := by decide +kernel
theorem later_len : (Str.ofString "later").length = 5 := by decide +kernel
theorem beside_ok : okPath (Str.ofString "beside") = true := by decide +kernel
theorem beside_len : (Str.ofString "beside").length = 6 := by decide +kernel
theorem Tr.put {kvs : List (Str × V)} (h : Tr kvs) {x y : Str} (hx : x.length ≤ 300) (hz : kvs.length < 1000) : Tr (vstored kvs x (.str y)) :=
  ⟨by have := vstored_len kvs x (.str y); omega, fun q hq => (vstored_mem hq).elim (fun e => by rw [e]; exact hx) fun hq => h.key q hq, fun q hq => (vstored_mem hq).elim (fun e => ⟨y, by rw [e]⟩) fun hq => h.val q hq, vstored_nodup h.nodup⟩
theorem Tr.flat {kvs : List (Str × V)} (h : Tr kvs) : ∀ q ∈ kvs, Flat0 q.2 := fun q hq => by obtain ⟨y, e⟩ := h.val q hq; rw [e]; trivial
theorem ints_flat {n : Nat} (xs : List Int) : ∀ v ∈ xs.map V.int, FlatN n v := by
  intro v hv
  obtain ⟨x, _, rfl⟩ := List.mem_map.mp hv
  cases n <;> trivial
theorem no_later {ts : List (List (Str × V))} (W : Vs ts) {i : Nat} {kvs : List (Str × V)} (h : ts[i]? = some kvs) : vget kvs (Str.ofString "later") = none := by
  cases e : vget kvs (Str.ofString "later") with
  | none => rfl
  | some v =>
    have hm : Str.ofString "later" ∈ kvs.map (·.1) := by
      have := vget_isSome kvs (Str.ofString "later")
      rw [e] at this
      simpa using this.symm
    obtain ⟨q, hq, e2⟩ := List.mem_map.mp hm
    obtain ⟨k, _, hk, e3⟩ := W.key kvs (List.mem_of_getElem? h) q hq
    exact absurd (e3.symm.trans e2) (vk_ne k hk)
theorem s_cell (ns : List Int) : ∀ vs σ Q, sp__law_cell_at ns vs σ Q → vs.length = 2 ∧ T__law_cell_at ns (bindM ["_law_script", "_law_k"] vs none') σ (fin Q) := by
  rintro vs σ Q ⟨k, rfl, hk, q⟩
  refine ⟨rfl, ?_⟩
  simp [T__law_cell_at, T__law_cell_at_1, T__law_cell_at_2, seq_eq]
  split
  · rename_i h; exact cell_item hk h q
  · rename_i h; rw [cell_out hk h] at q; exact q
theorem vget_put {kvs : List (Str × V)} {x : Str} {v : V} (h : vget kvs x = none) : vget (vstored kvs x v) x = some v := by
  unfold vstored
  split
  · rename_i hc
    have := vget_isSome kvs x
    rw [h] at this
    obtain ⟨q, hq, e⟩ := List.any_eq_true.mp hc
    have hm : x ∈ kvs.map (·.1) := List.mem_map.mpr ⟨q, hq, by simpa using e⟩
    simp [hm] at this
  · unfold vget at h ⊢
    rw [Option.map_eq_none_iff] at h
    rw [List.find?_append, h]
    try simp
theorem s_there (ns : List Int) : ∀ vs σ Q, sp__law_there_then ns vs σ Q → vs.length = 3 ∧ T__law_there_then ns (bindM ["_law_book", "_law_many", "_law_good"] vs none') σ (fin Q) := by
  rintro vs σ Q ⟨b, t, mo, ads, ts, ps, g, rfl, B, W, h6, g0, g1, q⟩
  refine ⟨rfl, ?_⟩
  have ho : ∀ (k : Nat) l, ps[k]? = some l → ∀ p ∈ l, 0 ≤ p ∧ p < (k : Int) := fun k l h => (B.ord k l h).2
  have hlt : g.toNat < ts.length := by omega
  have hg : ts[g.toNat]? = some ts[g.toNat] := List.getElem?_eq_getElem hlt
  generalize ts[g.toNat] = kvs at hg
  have hkm := List.mem_of_getElem? hg
  have hT := B.tree _ hkm
  have hkl : kvs.length ≤ 6 := by have := W.len _ _ hg; omega
  have hT' : Tr (vstored kvs (Str.ofString "later") (.str (Str.ofString "x"))) := hT.put (by rw [later_len]; omega) (by omega)
  have hfree : isFree (keysOf kvs) (Str.ofString "later") = true := by
    unfold isFree
    rw [List.all_eq_true]
    intro y hy
    obtain ⟨p, hp, rfl⟩ := List.mem_map.mp hy
    obtain ⟨k, _, hk, e⟩ := W.key kvs hkm p hp
    rw [e]; exact vk_later k hk
  have lenP := B.lenP
  unfold T__law_there_then
  show sSeq _ _ _ _ _
  rw [seq_eq]
  simp [T__law_there_then_1, inst_B B]
  refine ⟨b, t, mo, ads, ts, ps, g, kvs, rfl, B, g0, hg, fun a1 ep1 ha1 => ?_⟩
  have x1 := upd_same σ a1 (.dict kvs ep1)
  have gr1 : Grow σ (upd σ a1 (.dict kvs ep1)) := Grow.refl.upd ha1
  generalize upd σ a1 (.dict kvs ep1) = σ1 at x1 gr1 ⊢
  have B1 := B.grow gr1
  show sSeq _ _ _ _ _
  rw [seq_eq]
  simp [T__law_there_then_2]
  refine set_dict x1 (by omega) fun ep2 => ?_
  have x2 := upd_same σ1 a1 (.dict (vstored kvs (Str.ofString "later") (.str (Str.ofString "x"))) ep2)
  have gr2 : Grow σ (upd σ1 a1 (.dict (vstored kvs (Str.ofString "later") (.str (Str.ofString "x"))) ep2)) := gr1.over ha1
  generalize upd σ1 a1 (.dict (vstored kvs (Str.ofString "later") (.str (Str.ofString "x"))) ep2) = σ2 at x2 gr2 ⊢
  have B2 := B.grow gr2
  show sSeq _ _ _ _ _
  rw [seq_eq]
  simp [T__law_there_then_3, inst_B B2]
  intro L hL
  have xL := upd_same σ2 L (.list [.tup [.str (Str.ofString "put"), .str (Str.ofString "later"), .str (Str.ofString "x")]])
  have gr3 := Grow.refl.upd (σ := σ2) (o := .list [.tup [.str (Str.ofString "put"), .str (Str.ofString "later"), .str (Str.ofString "x")]]) hL
  generalize upd σ2 L (.list [.tup [.str (Str.ofString "put"), .str (Str.ofString "later"), .str (Str.ofString "x")]]) = σ3 at xL gr3 ⊢
  have B3 := B2.grow gr3
  refine ⟨b, t, mo, ads, ts, ps, g, L, [(Str.ofString "later", Str.ofString "x")], kvs, rfl, B3, g0, hg, xL, ⟨hT, later_ok, by rw [later_len]; omega, hfree, hT'⟩, hT', by omega, fun d σ4 K4 hd B4 => ?_⟩
  have x4 : σ4 a1 = some (.dict (vstored kvs (Str.ofString "later") (.str (Str.ofString "x"))) ep2) := K4 _ _ (gr3 _ _ x2) (by
    intro hm
    obtain ⟨xs, hx⟩ := B3.lists _ hm
    rw [gr3 _ _ x2] at hx; cases hx)
  simp only [puts] at B4
  have hgm : (ts ++ [vstored kvs (Str.ofString "later") (.str (Str.ofString "x"))])[ts.length]? = some (vstored kvs (Str.ofString "later") (.str (Str.ofString "x"))) := by simp
  have hpm : (ps ++ [[g]])[ts.length]? = some [g] := by rw [← lenP]; simp
  generalize hts : ts ++ [vstored kvs (Str.ofString "later") (.str (Str.ofString "x"))] = ts' at B4 hgm
  have hlen' : (ts'.length : Int) = ts.length + 1 := by rw [← hts]; simp
  have hlenN : ts'.length = ts.length + 1 := by rw [← hts]; simp
  simp [inst_B B4]
  refine ⟨b, t, mo, _, ts', _, rfl, B4, ?_⟩
  simp [hlen', inst_B B4]
  refine ⟨b, t, mo, _, ts', _, ts.length, _, rfl, B4, by omega, by simpa using hgm, fun a5 ep5 ha5 => ?_⟩
  have gr5 := Grow.refl.upd (σ := σ4) (o := .dict (vstored kvs (Str.ofString "later") (.str (Str.ofString "x"))) ep5) ha5
  refine neD_false (dq_dict (upd_same _ _ _) (gr5 _ _ x4) hT'.nodup hT'.flat) ?_
  generalize upd σ4 a5 (.dict (vstored kvs (Str.ofString "later") (.str (Str.ofString "x"))) ep5) = σ5 at gr5 ⊢
  have B5 := B4.grow gr5
  try simp
  show sSeq _ _ _ _ _
  rw [seq_eq]
  simp [T__law_there_then_4, inst_B B5]
  have ho' : ∀ (k : Nat) l, (ps ++ [[g]])[k]? = some l → ∀ p ∈ l, 0 ≤ p ∧ p < (k : Int) := fun k l h => (B4.ord k l h).2
  refine ⟨b, t, mo, _, ts', _, ts.length, [g], rfl, B5, by omega, by simpa using hpm, ?_⟩
  refine neD_false (dq_tup (rowq_cons (by simp [dq, veq0]) rfl)) ?_
  simp [inst_B B5]
  refine eld_ok B5 (by omega) (by omega) fun a6 xs6 σ6 gr6 ha6 x6 s6 e6 => ?_
  have B6 := B5.grow gr6
  simp [inst_B B6]
  refine eld_ok B6 g0 (by omega) fun a7 xs7 σ7 gr7 ha7 x7 s7 e7 => ?_
  have l7 := few_of (N := ts'.length) ho' g0 (by omega) s7 e7
  have few' := B4.few
  intro a8 ha8
  have gr8 := Grow.refl.upd (σ := σ7) (o := .list [.int (ts.length : Int)]) ha8
  refine add_list (gr8 _ _ x7) (upd_same _ _ _) (by simp; omega) fun a9 ha9 => ?_
  generalize upd σ7 a8 (.list [.int (ts.length : Int)]) = σ8 at gr8 ha9 ⊢
  have hanc : ∀ x, Anc (ps ++ [[g]]) ts.length x ↔ x = (ts.length : Int) ∨ Anc (ps ++ [[g]]) g x := by
    intro x
    constructor
    · intro h
      cases h with
      | self => exact .inl rfl
      | @up _ p _ l h1 h2 h3 =>
        have h1' : (ps ++ [[g]])[ts.length]? = some l := by simpa using h1
        rw [hpm] at h1'; cases h1'
        simp at h2; subst h2
        exact .inr h3
    · rintro (rfl | h)
      · exact .self _
      · exact .up (l := [g]) (by simpa using hpm) (by simp) h
  have exs : xs6 = xs7 ++ [(ts.length : Int)] := by
    refine slist_ext s6 ?_ fun x => ?_
    · rw [List.pairwise_append]
      refine ⟨s7, by simp, fun x hx y hy => ?_⟩
      simp at hy; subst hy
      have := ((e7 x).mp hx).le ho' g0
      omega
    · rw [e6, hanc, List.mem_append, e7]
      simp [or_comm]
  have gr9 := Grow.refl.upd (σ := σ8) (o := .list (xs7.map V.int ++ [.int (ts.length : Int)])) ha9
  refine neD_false (dq_list (xs := xs6.map .int) (gr9 _ _ (gr8 _ _ (gr7 _ _ x6))) (by rw [upd_same, exs]; simp) (ints_flat xs6)) ?_
  generalize upd σ8 a9 (.list (xs7.map V.int ++ [.int (ts.length : Int)])) = σ9 at gr9 ⊢
  have B9 := B6.grow ((gr7.trans gr8).trans gr9)
  try simp
  show sSeq _ _ _ _ _
  rw [seq_eq]
  simp [T__law_there_then_5, inst_B B9]
  refine ⟨b, t, mo, _, ts', _, ts.length, g, rfl, B9, by omega, by omega, g0, by omega, ⟨g, (hanc g).mpr (.inr (.self g)), .self g⟩, fun M σ10 gr10 m1 m2 m3 => ?_⟩
  have hM : M = g := by
    have a1 := (m2.le ho' g0).2
    have a2 := m3 g ((hanc g).mpr (.inr (.self g))) (.self g)
    omega
  subst hM
  have B10 := B9.grow gr10
  simp [inst_B B10]
  refine ⟨b, t, mo, _, ts', _, M, ts.length, rfl, B10, g0, by omega, by omega, by omega, .inr ⟨by omega, by simpa using hpm, fun a11 σ11 gr11 ha11 x11 => ?_⟩⟩
  have B11 := B10.grow gr11
  try simp
  intro a12 ha12
  have gr12 := Grow.refl.upd (σ := σ11) (o := .list [.int M, .int (ts.length : Int)]) ha12
  refine neD_false (dq_list (xs := [.int M, .int (ts.length : Int)]) (gr12 _ _ x11) (upd_same _ _ _) (ints_flat [M, (ts.length : Int)])) ?_
  generalize upd σ11 a12 (.list [.int M, .int (ts.length : Int)]) = σ12 at gr12 ⊢
  have B12 := B11.grow gr12
  simp [inst_B B12]
  refine ⟨b, t, mo, _, ts', _, ts.length, M, rfl, B12, by omega, by omega, g0, by omega, .inl ⟨by omega, fun σ13 gr13 => ?_⟩⟩
  have B13 := B12.grow gr13
  simp [vNone]
  show sSeq _ _ _ _ _
  rw [seq_eq]
  simp [T__law_there_then_6, inst_B B13]
  refine ⟨b, t, mo, _, ts', _, ts.length, _, rfl, B13, by omega, by omega, fun a14 xs σ14 gr14 ha14 x14 s14 e14 => ?_⟩
  have B14 := B13.grow gr14
  have txt_old : ∀ i : Int, 0 ≤ i → i < ts.length → txt ts' i (Str.ofString "later") = .none := by
    intro i i0 i1
    have hi : i.toNat < ts.length := by omega
    have : ts'[i.toNat]? = some ts[i.toNat] := by rw [← hts, List.getElem?_append_left hi]; exact List.getElem?_eq_getElem hi
    unfold txt
    rw [this]
    simp only [Option.bind_some]
    rw [no_later W (List.getElem?_eq_getElem hi)]
    rfl
  have txt_new : txt ts' ts.length (Str.ofString "later") = .str (Str.ofString "x") := by
    unfold txt
    have : ts'[(ts.length : Int).toNat]? = some (vstored kvs (Str.ofString "later") (.str (Str.ofString "x"))) := by simpa using hgm
    rw [this]
    simp only [Option.bind_some]
    rw [vget_put (no_later W hg)]
    rfl
  have exs2 : xs = [(ts.length : Int)] := by
    refine slist_ext s14 (by simp) fun i => ?_
    rw [e14]
    try simp
    constructor
    · rintro ⟨h1, l, h2, h3, h4⟩
      rcases (hanc i).mp h1 with h | h
      · exact h
      · exfalso
        have hle := h.le ho' g0
        have hlo := ho' _ _ h2
        cases l with
        | nil => exact h3 rfl
        | cons p r =>
          have := hlo p (.head _)
          exact h4 p (.head _) (by rw [txt_old p (by omega) (by omega), txt_old i hle.1 (by omega)])
    · rintro rfl
      refine ⟨.self _, [M], by simpa using hpm, by simp, fun p hp => ?_⟩
      simp at hp; subst hp
      rw [txt_new, txt_old _ g0 g1]; simp
  subst exs2
  intro a15 ha15
  have gr15 := Grow.refl.upd (σ := σ14) (o := .list [.int (ts.length : Int)]) ha15
  refine eqD_true (dq_list (xs := [.int (ts.length : Int)]) (gr15 _ _ x14) (upd_same _ _ _) (ints_flat [(ts.length : Int)])) ?_
  generalize upd σ14 a15 (.list [.int (ts.length : Int)]) = σ15 at gr15 ⊢
  have B15 := B14.grow gr15
  simp [inst_B B15]
  intro a16 ha16
  have x16 := upd_same σ15 a16 (.list [])
  have gr16 := Grow.refl.upd (σ := σ15) (o := .list []) ha16
  generalize upd σ15 a16 (.list []) = σ16 at x16 gr16 ⊢
  refine ⟨b, t, mo, _, ts', _, ts.length, a16, [], _, rfl, B15.grow gr16, by omega, by simpa using hgm, x16, hT', hT', by omega, fun d17 σ17 K17 hd17 B17 => ?_⟩
  simp [hlen']
  exact q _
end Mine


end
noncomputable section
set_option autoImplicit false
set_option maxRecDepth 10000
set_option linter.unusedVariables false
set_option linter.unusedSimpArgs false
namespace Mine
open PySem PySem.W PyProof.Rows PySem.Calls
@[simp] theorem sp_isp {ns : List Int} {σ : View} {Q : V → View → Prop} {x : Str} : sp_is_part ns [.str x] σ Q = (x.length ≤ 1000 ∧ Q (.bool (okPart x)) σ) := propext ⟨fun ⟨_, e, h, q⟩ => by cases e; exact ⟨h, q⟩, fun h => ⟨_, rfl, h.1, h.2⟩⟩
@[simp] theorem sp_cell {ns : List Int} {σ : View} {Q : V → View → Prop} {k : Int} : sp__law_cell_at ns [.script, .int k] σ Q = (0 ≤ k ∧ Q (.int (cell ns k)) σ) := propext ⟨fun ⟨_, e, h, q⟩ => by cases e; exact ⟨h, q⟩, fun h => ⟨_, rfl, h.1, h.2⟩⟩
theorem signs_get {x : Str} {i : Nat} {v : V} (h : (signs x)[i]? = some v) : ∃ c, (cl x)[i]? = some c ∧ v = .str ⟨#[c]⟩ := by
  unfold signs at h
  rw [List.getElem?_map] at h
  obtain ⟨c, h1, rfl⟩ := Option.map_eq_some_iff.mp h
  exact ⟨c, h1, rfl⟩
theorem signs_len (x : Str) : (signs x).length = (cl x).length := by simp [signs]
theorem all_take_succ {f : Nat → Bool} {l : List Nat} {i : Nat} {c : Nat} (h : (l.take i).all f = true) (hc : l[i]? = some c) (hf : f c = true) : (l.take (i + 1)).all f = true := by
  rw [List.take_add_one, hc, List.all_append, h]; simp [hf]
theorem s_isp (ns : List Int) : ∀ vs σ Q, sp_is_part ns vs σ Q → vs.length = 1 ∧ T_is_part ns (bindM ["text"] vs none') σ (fin Q) := by
  rintro vs σ Q ⟨x, rfl, hx, q⟩
  refine ⟨rfl, ?_⟩
  have loop : (x ≠ Str.ofString "." ∧ x ≠ Str.ofString ".." ∧ 1 ≤ x.length ∧ x.length ≤ 12) → T_is_part_2 ns (put none' "text" (.str x)) σ (kont (sSeq (T_is_part_3 ns) sNil) (fin Q)) := by
    intro hg
    simp [T_is_part_2]
    refine forL_inv (fun i m σ' => σ' = σ ∧ ((cl x).take i).all (fun c => Txt.contains ALS ⟨#[c]⟩) = true) (fun u m σ' => σ' = σ ∧ u = .bool false ∧ okPart x = false) (fun _ _ _ _ => trivial) _ ?_ ?_ ?_ _ _ ⟨rfl, by simp⟩
    · rintro i v m σ' Q' hv ⟨rfl, h⟩ n1 n2 n3
      obtain ⟨c, hc, rfl⟩ := signs_get hv
      refine ⟨_, rfl, ?_⟩
      simp [seq_eq]
      split
      · rename_i e; exact n1 _ _ ⟨rfl, all_take_succ h hc e⟩
      · rename_i e
        refine n3 _ _ _ ⟨rfl, rfl, ?_⟩
        unfold okPart
        rw [Bool.and_eq_false_iff]
        right
        rw [List.all_eq_false]
        exact ⟨c, List.mem_of_getElem? hc, by simpa [ALS] using e⟩
    · rintro m σ' ⟨rfl, h⟩
      rw [signs_len, List.take_length] at h
      have : okPart x = true := by unfold okPart; rw [Bool.and_eq_true]; exact ⟨decide_eq_true hg, h⟩
      rw [this] at q
      simpa [seq_eq, T_is_part_3] using q
    · rintro u m σ' ⟨rfl, rfl, h⟩
      rw [h] at q
      simpa using q
  have bad : ¬ (x ≠ Str.ofString "." ∧ x ≠ Str.ofString ".." ∧ 1 ≤ x.length ∧ x.length ≤ 12) → okPart x = false := fun h => by
    unfold okPart; rw [decide_eq_false h]; rfl
  unfold T_is_part
  rw [seq_eq]
  simp [T_is_part_1, seq_eq]
  by_cases h1 : x = Str.ofString "."
  · rw [bad (by simp [h1])] at q; simpa [h1] using q
  by_cases h2 : x = Str.ofString ".."
  · rw [bad (by simp [h2])] at q; simpa [h1, h2] using q
  simp [h1, h2]
  refine ⟨by omega, ?_⟩
  by_cases h3 : 1 ≤ x.length
  · by_cases h4 : x.length ≤ 12
    · have h3' : (1 : Int) ≤ x.length := by omega
      have h4' : (x.length : Int) ≤ 12 := by omega
      simp [h3', h4']
      exact loop ⟨h1, h2, h3, h4⟩
    · have h3' : (1 : Int) ≤ x.length := by omega
      have h4' : ¬ (x.length : Int) ≤ 12 := by omega
      rw [bad (by omega)] at q
      simpa [h3', h4', seq_eq] using q
  · have h3' : ¬ (1 : Int) ≤ x.length := by omega
    rw [bad (by omega)] at q
    simpa [h3', seq_eq] using q
theorem part_len {x p : Str} (hp : p ∈ Txt.split x (Str.ofString "/")) : p.length ≤ x.length := by
  have h0 := PyProof.Rows.split_pos x (Str.ofString "/")
  have h := PyProof.Rows.split_weight x (Str.ofString "/") (by rw [sl_len]; omega)
  have : ∀ (l : List Str), p ∈ l → p.length ≤ (l.map (·.length)).sum := by
    intro l
    induction l with
    | nil => intro h; simp at h
    | cons y r ih => intro h; rcases List.mem_cons.mp h with rfl | h
                     · simp
                     · have := ih h; simp; omega
  have := this _ hp
  omega
theorem s_path (ns : List Int) : ∀ vs σ Q, sp_is_path ns vs σ Q → vs.length = 1 ∧ T_is_path ns (bindM ["text"] vs none') σ (fin Q) := by
  rintro vs σ Q ⟨x, rfl, hx, q⟩
  refine ⟨rfl, ?_⟩
  unfold T_is_path
  rw [seq_eq]
  simp [T_is_path_1, sl_len]
  refine ⟨by omega, fun a ha => ?_⟩
  replace q := q _ (Grow.refl.upd (o := .list ((Txt.split x (Str.ofString "/")).map .str)) ha)
  have ha' := upd_same σ a (.list ((Txt.split x (Str.ofString "/")).map .str))
  generalize (upd σ a (.list ((Txt.split x (Str.ofString "/")).map .str))) = σ₁ at q ha' ⊢
  show sSeq _ _ _ _ _
  rw [seq_eq]
  simp [T_is_path_2, len_list ha', seq_eq]
  split
  · rename_i h
    have : okPath x = false := by unfold okPath; rw [decide_eq_false (by omega)]; rfl
    rw [this] at q
    exact q
  · rename_i h
    simp [T_is_path_3, iter_list ha']
    refine forL_inv (fun i m σ' => σ' = σ₁ ∧ ((Txt.split x (Str.ofString "/")).take i).all okPart = true) (fun u m σ' => σ' = σ₁ ∧ u = .bool false ∧ okPath x = false) (fun i m σ' h => by rw [h.1]; exact ha') _ ?_ ?_ ?_ _ _ ⟨rfl, by simp⟩
    · rintro i v m σ' Q' hv ⟨rfl, h⟩ n1 n2 n3
      rw [List.getElem?_map] at hv
      obtain ⟨pt, hp, rfl⟩ := Option.map_eq_some_iff.mp hv
      have hl := part_len (List.mem_of_getElem? hp)
      refine ⟨_, rfl, ?_⟩
      simp [seq_eq]
      refine ⟨by omega, ?_⟩
      split
      · rename_i e
        refine n1 _ _ ⟨rfl, ?_⟩
        rw [List.take_add_one, hp, List.all_append, h]; simp [e]
      · rename_i e
        refine n3 _ _ _ ⟨rfl, rfl, ?_⟩
        unfold okPath
        rw [Bool.and_eq_false_iff]
        right
        rw [List.all_eq_false]
        exact ⟨pt, List.mem_of_getElem? hp, e⟩
    · rintro m σ' ⟨rfl, h'⟩
      rw [List.length_map, List.take_length] at h'
      have : okPath x = true := by unfold okPath; rw [h', decide_eq_true (by omega)]; rfl
      rw [this] at q
      simpa [seq_eq, T_is_path_4] using q
    · rintro u m σ' ⟨rfl, rfl, h⟩
      rw [h] at q
      simpa using q
theorem s_ben (ns : List Int) : ∀ vs σ Q, sp_is_beneath ns vs σ Q → vs.length = 2 ∧ T_is_beneath ns (bindM ["path", "upper"] vs none') σ (fin Q) := by
  rintro vs σ Q ⟨x, y, rfl, hy, q⟩
  refine ⟨rfl, ?_⟩
  unfold T_is_beneath
  rw [seq_eq]
  simp [T_is_beneath_1]
  exact ⟨by rw [sl_len]; omega, q⟩
end Mine


end
noncomputable section
set_option autoImplicit false
set_option linter.unusedVariables false
set_option linter.unusedSimpArgs false
set_option maxHeartbeats 1000000
namespace Mine
open PySem PySem.W PyProof.Rows PySem.Calls
theorem tr_nil : Tr [] := ⟨by simp, by simp, by simp, by simp⟩
theorem new_ok {ns : List Int} {σ : View} {Q : V → View → Prop} (q : ∀ a t mo d0 σ', Grow σ σ' → σ a = Option.none → σ t = Option.none → σ mo = Option.none → BookAt σ' a t mo [d0] [[]] [[]] → Q (.ref a) σ') : eNew (sp___init__ ns) none' σ Q := by
  intro a dx ha hd hne
  refine ⟨a, dx, rfl, upd_same _ _ _, by rw [upd_ne hne, upd_same], fun t mo d0 ep σ' K h1 h2 h3 h4 h5 ht hm hd0 => ⟨rfl, ?_⟩⟩
  have none_of : ∀ {x : Addr}, upd (upd σ dx (.ns [])) a (.inst dx) x = Option.none → σ x = Option.none := by
    intro x h
    have h6 : x ≠ a := by rintro rfl; rw [upd_same] at h; cases h
    rw [upd_ne h6] at h
    have h7 : x ≠ dx := by rintro rfl; rw [upd_same] at h; cases h
    rw [upd_ne h7] at h
    exact h
  refine q a t mo d0 σ' ?_ ha (none_of ht) (none_of hm) ⟨⟨dx, ?_, h1⟩, h2, by rw [h3]; rfl, h5, rfl, rfl, ?_, by simp, ?_, ?_⟩
  · intro x o e
    have h6 : x ≠ a := by rintro rfl; rw [ha] at e; cases e
    have h7 : x ≠ dx := by rintro rfl; rw [hd] at e; cases e
    exact K _ _ (by rw [upd_ne h6, upd_ne h7]; exact e) (by simpa using h7)
  · exact K _ _ (upd_same _ _ _) (by simpa using Ne.symm hne)
  · intro i d e
    cases i with
    | zero => simp at e; subst e; exact ⟨[], ep, rfl, h4⟩
    | succ i => simp at e
  · intro kvs hk; simp at hk; subst hk; exact tr_nil
  · intro k l e
    cases k with
    | zero => simp at e; subst e; simp
    | succ k => simp at e
theorem new_any {ns : List Int} {m : Loc} {σ : View} {Q : V → View → Prop} : eNew (sp___init__ ns) m σ Q = eNew (sp___init__ ns) none' σ Q := rfl
theorem grow_1 {ns : List Int} {σ : View} {b t mo : Addr} {ads : List Addr} {ts : List (List (Str × V))} {ps : List (List Int)} {Q : V → View → Prop} (B : BookAt σ b t mo ads ts ps) {n : Int} {L : Addr} {kvs : List (Str × V)} {x y : Str} (h0 : 0 ≤ n) (h : ts[n.toNat]? = some kvs) (hL : σ L = some (.list [.tup [.str (Str.ofString "put"), .str x, .str y]]))
    (hp : okPath x = true) (hl : x.length ≤ 100) (hf : isFree (keysOf kvs) x = true) (hk : kvs.length < 1000) (hz : ts.length < 50)
    (q : ∀ d σ', Keep [t, mo] σ σ' → σ d = Option.none → BookAt σ' b t mo (ads ++ [d]) (ts ++ [vstored kvs x (.str y)]) (ps ++ [[n]]) → Q (.int ts.length) σ') : sp_grow ns [.ref b, .int n, .ref L] σ Q := by
  have hT := B.tree _ (List.mem_of_getElem? h)
  have hT' : Tr (vstored kvs x (.str y)) := hT.put (by omega) hk
  exact ⟨b, t, mo, ads, ts, ps, n, L, [(x, y)], kvs, rfl, B, h0, h, hL, ⟨hT, hp, hl, hf, hT'⟩, hT', hz, q⟩
theorem free_v {ts : List (List (Str × V))} (W : Vs ts) {kvs : List (Str × V)} (hk : kvs ∈ ts) {k : Nat} (h : k < 6) : isFree (keysOf kvs) (Str.ofString "v" ++ Str.ofString ((k : Int).repr)) = true := by
  unfold isFree
  rw [List.all_eq_true]
  intro y hy
  obtain ⟨p, hp, rfl⟩ := List.mem_map.mp hy
  obtain ⟨j, _, hj, e⟩ := W.key kvs hk p hp
  rw [e]; exact vk_free j hj k h
theorem Vs.more {ts : List (List (Str × V))} (W : Vs ts) {n : Nat} {kvs : List (Str × V)} (h : ts[n]? = some kvs) {k : Nat} (h1 : 1 ≤ k) (h6 : k < 6) (y : Str) : Vs (ts ++ [vstored kvs (Str.ofString "v" ++ Str.ofString ((k : Int).repr)) (.str y)]) := by
  refine ⟨fun kv hkv q hq => ?_, fun i kv e => ?_⟩
  · rcases List.mem_append.mp hkv with hkv | hkv
    · exact W.key kv hkv q hq
    · simp at hkv; subst hkv
      rcases vstored_mem hq with e | e
      · exact ⟨k, h1, h6, by rw [e]⟩
      · exact W.key kvs (List.mem_of_getElem? h) q e
  · rcases Nat.lt_or_ge i ts.length with hi | hi
    · rw [List.getElem?_append_left hi] at e
      exact W.len i kv e
    · rw [List.getElem?_append_right hi] at e
      have hi2 : i - ts.length = 0 := by
        have := (List.getElem?_eq_some_iff.mp e).1
        simpa using this
      rw [hi2] at e
      simp at e
      subst e
      have h2 := vstored_len kvs (Str.ofString "v" ++ Str.ofString ((k : Int).repr)) (.str y)
      have h3 := W.len n kvs h
      have h4 := (List.getElem?_eq_some_iff.mp h).1
      omega
theorem bad_of {c : Int} {N : Nat} {far : Int} (hf : 0 ≤ far) (hN : 1 ≤ N) {v : V} (h : [V.int ((N : Int) + far), .int (0 - 1 - far), .bool true, .bool false, .int (0 - (N : Int))][(c % 5).toNat]? = some v) : Bad N v := by
  have h0 : 0 ≤ c % 5 := by omega
  have h1 : c % 5 < 5 := by omega
  have h2 : (c % 5).toNat = 0 ∨ (c % 5).toNat = 1 ∨ (c % 5).toNat = 2 ∨ (c % 5).toNat = 3 ∨ (c % 5).toNat = 4 := by omega
  rcases h2 with e | e | e | e | e <;> rw [e] at h <;> simp at h <;> subst h <;> simp [Bad] <;> omega
theorem vk_log : ∀ k : Nat, k < 6 → (k : Int).natAbs.log2 < 1920 := by decide +kernel
theorem vk_sum : ∀ k : Nat, k < 6 → (Str.ofString "v").length + (Str.ofString ((k : Int).repr)).length ≤ 16777216 := by decide +kernel
theorem s_law (ns : List Int) : ∀ vs σ Q X, sp_law ns vs σ Q X → vs.length = 1 ∧ T_law ns (bindM ["_law_script"] vs none') σ (fin Q) (fun c _ σ' => X c σ') := by
  rintro vs σ Q X ⟨rfl, hσ, q⟩
  refine ⟨rfl, ?_⟩
  unfold T_law
  rw [xseq_eq]
  simp only [T_law_1, xP_eq, sSet_eq, new_any]
  refine new_ok fun b1 t1 mo1 d1 σ1 g1 hb1 ht1 hm1 B1 => ?_
  rw [xkont_next, xseq_eq]
  simp only [T_law_2, xP_eq, sSet_eq, new_any]
  refine new_ok fun b2 t2 mo2 d2 σ2 g2 hb2 ht2 hm2 B2 => ?_
  have ne : ∀ {x y : Addr} {o : AObj}, σ1 x = some o → σ1 y = none → x ≠ y := by rintro x y o h1 h2 rfl; rw [h1] at h2; cases h2
  have n1 := ne B1.tr ht2
  have n2 := ne B1.tr hm2
  have n3 := ne B1.md ht2
  have n4 := ne B1.md hm2
  replace B1 := B1.grow g2
  clear g1 hb1 ht1 hm1 g2 hb2 ht2 hm2 ne hσ
  rw [xkont_next, xseq_eq]
  simp [T_law_3]
  have c0 : 0 ≤ cell ns 0 % 6 := by omega
  have c6 : cell ns 0 % 6 < 6 := by omega
  generalize hN : (cell ns 0 % 6).toNat = N
  have hc : cell ns 0 % 6 = (N : Int) := by omega
  rw [hc]
  have hN6 : N < 6 := by omega
  rw [xseq_eq]
  simp [T_law_4]
  refine ⟨⟨by omega, by omega⟩, ?_⟩
  refine forL_inv (fun i m σ' => ∃ ads ts ps, BookAt σ' b1 t1 mo1 ads ts ps ∧ BookAt σ' b2 t2 mo2 [d2] [[]] [[]] ∧ ts.length = 1 + i ∧ Vs ts ∧ m "_law_script" = some .script ∧ m "_law_book" = some (.ref b1) ∧ m "_law_beside" = some (.ref b2) ∧ m "_law_many" = some (.int (1 + N))) (fun _ _ _ => False)
    (fun _ _ _ _ => trivial) _ ?_ ?_ (fun _ _ _ h => h.elim) _ _ ⟨[d1], [[]], [[]], B1, B2, rfl, ⟨by simp, fun i kvs e => by cases i with | zero => simp at e; subst e; simp | succ i => simp at e⟩, by simp, by simp, by simp, by simp⟩
  · rintro i v m σ' Q' hv ⟨ads, ts, ps, B1, B2, hl, W, hs, hb, hb2, hm⟩ r1 r2 r3
    obtain ⟨hi, rfl⟩ := range_get hv
    have hiN : i < N := by omega
    refine ⟨_, rfl, ?_⟩
    simp [seq_eq, hs, hb, inst_B B1]
    refine ⟨by omega, by omega, ?_⟩
    have e0 : 0 ≤ cell ns (2 + (1 + (i : Int))) % (1 + (i : Int)) := Int.emod_nonneg _ (by omega)
    have e1 : cell ns (2 + (1 + (i : Int))) % (1 + (i : Int)) < 1 + (i : Int) := Int.emod_lt_of_pos _ (by omega)
    generalize cell ns (2 + (1 + (i : Int))) % (1 + (i : Int)) = p at e0 e1 ⊢
    have hk : (1 + (i : Int)) = ((1 + i : Nat) : Int) := by omega
    rw [hk]
    refine ⟨vk_log _ (by omega), vk_sum _ (by omega), fun L hL => ?_⟩
    have xL := upd_same σ' L (.list [.tup [.str (Str.ofString "put"), .str (Str.ofString "v" ++ Str.ofString ((1 + i : Nat) : Int).repr), .str (Str.ofString "")]])
    have gL := Grow.refl.upd (σ := σ') (o := .list [.tup [.str (Str.ofString "put"), .str (Str.ofString "v" ++ Str.ofString ((1 + i : Nat) : Int).repr), .str (Str.ofString "")]]) hL
    generalize upd σ' L (.list [.tup [.str (Str.ofString "put"), .str (Str.ofString "v" ++ Str.ofString ((1 + i : Nat) : Int).repr), .str (Str.ofString "")]]) = σL at xL gL ⊢
    have BL := B1.grow gL
    have BL2 := B2.grow gL
    have hp : p.toNat < ts.length := by omega
    have hg : ts[p.toNat]? = some ts[p.toNat] := List.getElem?_eq_getElem hp
    generalize ts[p.toNat] = kvs at hg
    have hkl : kvs.length < 1000 := by have := W.len _ _ hg; omega
    refine grow_1 BL e0 hg xL (vk_path _ (by omega)) (by rw [vk_len _ (by omega)]; omega) (free_v W (List.mem_of_getElem? hg) (by omega)) hkl (by omega) fun d σ3 K hd B3 => ?_
    refine r1 _ _ ⟨_, _, _, B3, BL2.keep K BL.lists (by simp; exact ⟨Ne.symm n1, Ne.symm n3⟩) (by simp; exact ⟨Ne.symm n2, Ne.symm n4⟩), by simp; omega, W.more hg (by omega) (by omega) _, by simp [hs], by simp [hb], by simp [hb2], by simp [hm]⟩
  · rintro m σ' ⟨ads, ts, ps, B1, B2, hl, W, hs, hb, hb2, hm⟩
    rw [range_len] at hl
    have hlN : ts.length = 1 + N := by omega
    have hcN : (1 + (N : Int)) = (ts.length : Int) := by omega
    rw [hcN] at hm
    rw [xkont_next, xseq_eq]
    simp [T_law_5, hs]
    rw [xseq_eq]
    simp [T_law_6, hm]
    refine ⟨by omega, ?_⟩
    generalize cell ns 1 = c
    have g0 : 0 ≤ c / 5 % (ts.length : Int) := Int.emod_nonneg _ (by omega)
    have g1 : c / 5 % (ts.length : Int) < (ts.length : Int) := Int.emod_lt_of_pos _ (by omega)
    generalize c / 5 % (ts.length : Int) = g at g0 g1 ⊢
    rw [xseq_eq]
    simp [T_law_7]
    refine ⟨by decide, ?_⟩
    try simp
    intro L1 hL1
    have x1 := upd_same σ' L1 (.list [.int 0, .int (c / 90 % 1001), .int (100000000000000000000 + c / 90 % 1001)])
    have gr1 := Grow.refl.upd (σ := σ') (o := .list [.int 0, .int (c / 90 % 1001), .int (100000000000000000000 + c / 90 % 1001)]) hL1
    generalize upd σ' L1 (.list [.int 0, .int (c / 90 % 1001), .int (100000000000000000000 + c / 90 % 1001)]) = σ3 at x1 gr1 ⊢
    have hfar : ∃ far : Int, 0 ≤ far ∧ [V.int 0, .int (c / 90 % 1001), .int (100000000000000000000 + c / 90 % 1001)][(c / 30 % 3).toNat]? = some (.int far) := by
      have h9 : 0 ≤ c / 90 % 1001 := by omega
      have h2 : (c / 30 % 3).toNat = 0 ∨ (c / 30 % 3).toNat = 1 ∨ (c / 30 % 3).toNat = 2 := by omega
      rcases h2 with e | e | e <;> rw [e]
      · exact ⟨0, by omega, rfl⟩
      · exact ⟨_, h9, rfl⟩
      · exact ⟨100000000000000000000 + c / 90 % 1001, by omega, rfl⟩
    obtain ⟨far, f0, hfar⟩ := hfar
    refine item_list x1 (by omega) hfar ?_
    rw [xseq_eq]
    simp [T_law_8, hm]
    intro L2 hL2
    have x2 := upd_same σ3 L2 (.list [.int ((ts.length : Int) + far), .int (-1 - far), .bool true, .bool false, .int (-(ts.length : Int))])
    have gr2 := gr1.upd (o := .list [.int ((ts.length : Int) + far), .int (-1 - far), .bool true, .bool false, .int (-(ts.length : Int))]) hL2
    generalize upd σ3 L2 (.list [.int ((ts.length : Int) + far), .int (-1 - far), .bool true, .bool false, .int (-(ts.length : Int))]) = σ4 at x2 gr2 ⊢
    have hv : ∃ v, [V.int ((ts.length : Int) + far), .int (-1 - far), .bool true, .bool false, .int (-(ts.length : Int))][(c % 5).toNat]? = some v := ⟨_, List.getElem?_eq_getElem (by simp; omega)⟩
    obtain ⟨v, hv⟩ := hv
    have hbad : Bad ts.length v := bad_of f0 (by omega) (c := c) (by simpa using hv)
    refine item_list x2 (by omega) hv ?_
    have B1' := B1.grow gr2
    have B2' := B2.grow gr2
    clear x1 x2 hfar hv hL1 hL2 gr1 gr2 B1 B2
    rw [xseq_eq]
    simp [T_law_9]
    refine xforL_inv (fun i m' σ' => BookAt σ' b1 t1 mo1 ads ts ps ∧ BookAt σ' b2 t2 mo2 [d2] [[]] [[]] ∧ m' "_law_book" = some (.ref b1) ∧ m' "_law_beside" = some (.ref b2) ∧ m' "_law_many" = some (.int (ts.length : Int)) ∧ m' "_law_good" = some (.int g) ∧ m' "_law_wrong" = some v)
      (fun _ _ _ _ => trivial) _ ?_ ?_ _ _ ⟨B1', B2', by simp [hb], by simp [hb2], by simp [hm], by simp, by simp⟩
    · rintro i u m' σ' Q' hu ⟨C1, C2, k1, k2, k3, k4, k5⟩ r1
      obtain ⟨hi, rfl⟩ := range_get hu
      refine ⟨_, rfl, ?_⟩
      rw [xseq_eq]
      simp
      rw [xseq_eq]
      have fin_ : ∀ m'' : Loc, m'' "_law_book" = some (.ref b1) → m'' "_law_beside" = some (.ref b2) → m'' "_law_many" = some (.int (ts.length : Int)) → m'' "_law_good" = some (.int g) → m'' "_law_wrong" = some v → m'' "_law_way" = some (.int i) → m'' "_law_word" = some (.str (Str.ofString (wordOf i))) →
          xSeq (xIfX (xCmp opNe0 (xCall (sp__law_told ns) (lCons (eName "_law_book") (lCons (eName "_law_way") (lCons (eName "_law_wrong") (lCons (eName "_law_good") lNil))))) (eName "_law_word")) (xP (sSeq (sRet (eVal (.bool false))) sNil)) (xP sNil)) (xP sNil) m'' σ' Q' (fun c x σ' => X c σ') := by
        intro m'' q1 q2 q3 q4 q5 q6 q7
        rw [xseq_eq]
        simp [q1, q4, q5, q6, q7]
        refine ⟨b1, t1, mo1, ads, ts, ps, (i : Int), v, g, rfl, C1, by omega, by omega, hbad, g0, g1, fun σ'' gg => ?_⟩
        try simp
        exact r1 _ _ ⟨C1.grow gg, C2.grow gg, q1, q2, q3, q4, q5⟩
      try simp
      split
      · rename_i hw
        simp [seq_eq]
        exact fin_ _ (by simp [k1]) (by simp [k2]) (by simp [k3]) (by simp [k4]) (by simp [k5]) (by simp) (by simp [wordOf, hw])
      · rename_i hw
        exact fin_ _ (by simp [k1]) (by simp [k2]) (by simp [k3]) (by simp [k4]) (by simp [k5]) (by simp) (by simp [wordOf, hw])
    · rintro m' σ' ⟨C1, C2, k1, k2, k3, k4, k5⟩
      rw [xkont_next, xP_eq, seq_eq]
      simp [T_law_10, k1, k2, k3, inst_B C1, inst_B C2]
      refine ⟨b1, t1, mo1, ads, ts, ps, rfl, C1, ?_⟩
      simp [k2, inst_B C2]
      refine ⟨b2, t2, mo2, _, _, _, rfl, C2, ?_⟩
      simp [k2, inst_B C2]
      refine ⟨b2, t2, mo2, _, _, _, 0, [], rfl, C2, by omega, rfl, fun a1 e1 h1 => ?_⟩
      have gr1 := Grow.refl.upd (σ := σ') (o := .dict [] e1) h1
      have x1 := upd_same σ' a1 (.dict [] e1)
      generalize upd σ' a1 (.dict [] e1) = σ5 at gr1 x1 ⊢
      try simp
      intro a2 e2 h2
      have gr2 := Grow.refl.upd (σ := σ5) (o := .dict [] e2) h2
      refine neD_false (dq_dict (gr2 _ _ x1) (upd_same _ _ _) (by simp) (by simp)) ?_
      generalize upd σ5 a2 (.dict [] e2) = σ6 at gr2 ⊢
      have D1 := C1.grow (gr1.trans gr2)
      have D2 := C2.grow (gr1.trans gr2)
      simp [k2, inst_B D2]
      refine ⟨b2, t2, mo2, _, _, _, 0, [], rfl, D2, by omega, rfl, ?_⟩
      refine neD_false rfl ?_
      try simp
      rw [seq_eq]
      simp [T_law_11, k1, k2, k3, inst_B D1, inst_B D2]
      intro L hL
      have xL := upd_same σ6 L (.list [.tup [.str (Str.ofString "put"), .str (Str.ofString "beside"), .str (Str.ofString "b")]])
      have gL := Grow.refl.upd (σ := σ6) (o := .list [.tup [.str (Str.ofString "put"), .str (Str.ofString "beside"), .str (Str.ofString "b")]]) hL
      generalize upd σ6 L (.list [.tup [.str (Str.ofString "put"), .str (Str.ofString "beside"), .str (Str.ofString "b")]]) = σ7 at xL gL ⊢
      have E1 := D1.grow gL
      have E2 := D2.grow gL
      refine grow_1 E2 (kvs := []) (by omega) rfl xL beside_ok (by rw [beside_len]; omega) rfl (by simp) (by simp) fun d σ8 K hd F2 => ?_
      have F1 := E1.keep K E2.lists (by simp; exact ⟨n1, n2⟩) (by simp; exact ⟨n3, n4⟩)
      simp [k1, k2, inst_B F2]
      refine ⟨b2, t2, mo2, _, _, _, 1, _, rfl, F2, by omega, rfl, fun a3 e3 h3 => ?_⟩
      have gr3 := Grow.refl.upd (σ := σ8) (o := .dict (vstored [] (Str.ofString "beside") (.str (Str.ofString "b"))) e3) h3
      have x3 := upd_same σ8 a3 (.dict (vstored [] (Str.ofString "beside") (.str (Str.ofString "b"))) e3)
      generalize upd σ8 a3 (.dict (vstored [] (Str.ofString "beside") (.str (Str.ofString "b"))) e3) = σ9 at gr3 x3 ⊢
      try simp
      intro a4 e4 h4
      have gr4 := Grow.refl.upd (σ := σ9) (o := .dict [(Str.ofString "beside", .str (Str.ofString "b"))] e4) h4
      refine neD_false (dq_dict (kvs := [(Str.ofString "beside", .str (Str.ofString "b"))]) (gr4 _ _ x3) (upd_same _ _ _) (by simp) (by simp [Flat0])) ?_
      generalize upd σ9 a4 (.dict [(Str.ofString "beside", .str (Str.ofString "b"))] e4) = σ10 at gr4 ⊢
      have G1 := F1.grow (gr3.trans gr4)
      simp [k1, inst_B G1]
      refine ⟨b1, t1, mo1, ads, ts, ps, rfl, G1, ?_⟩
      try simp
      rw [seq_eq]
      simp [T_law_12, k1, k3, k4]
      exact ⟨b1, t1, mo1, ads, ts, ps, g, rfl, G1, W, by omega, g0, g1, fun σ' => q σ'⟩
end Mine


end
noncomputable section
namespace Mine
open PySem PySem.W PyProof.Rows PySem.Calls
set_option maxRecDepth 100000
noncomputable def adX (k : String) : Addr := match k with
  | "RoadError" => 24
  | "NoPath" => 37
  | "NoFile" => 49
  | "InTheWay" => 61
  | "NoClash" => 73
  | "Clashed" => 85
  | "NoVersion" => 97
  | "SameVersion" => 109
  | _ => 0
theorem ns_at (P : Params) : (ksX.map fun k => nsIn (Hd.kk P) mainGlobals (Str.ofString k)) = ksX.map fun k => some (some (.ref (adX k))) := by kernel_rfl
theorem xc_root (P : Params) : xcIn (Hd.kk P) 24 veBases = true := by kernel_rfl
theorem xc_at (P : Params) : (["NoPath", "NoFile", "InTheWay", "NoClash", "Clashed", "NoVersion", "SameVersion"].all fun k => xcIn (Hd.kk P) (adX k) (.ref 24 :: veBases)) = true := by kernel_rfl
theorem bk_ns (P : Params) : nsIn (Hd.kk P) mainGlobals (Str.ofString "Book") = some (some (.ref Hd.bkA)) := by kernel_rfl
theorem bk_in (P : Params) : bkIn (Hd.kk P) Hd.bkA Hd.bkN = true := by kernel_rfl
theorem tab_of {C : Cx} {P : Params} (X : (Hd.kk P).In C.hB) (g : C.hB.Ns mainGlobals C.mg) (hv : C.mg (Str.ofString "ValueError") = Option.none) : XTab C csX ksX adX := by
  have mgk : ∀ k ∈ ksX, C.mg (Str.ofString k) = some (.ref (adX k)) := by
    intro k hk
    have h := ns_at P
    exact mg_of X g (List.map_inj_left.mp h k hk)
  have xck : ∀ k ∈ ["NoPath", "NoFile", "InTheWay", "NoClash", "Clashed", "NoVersion", "SameVersion"], XC C.hB (adX k) (.ref 24 :: veBases) := fun k hk => xc_of_in X (List.all_eq_true.mp (xc_at P) k hk)
  refine ⟨fun k hk => ⟨mgk k hk, ?_⟩, fun c hc => ?_, hv⟩
  · rcases List.mem_cons.mp hk with rfl | hk
    · exact ⟨_, xc_of_in X (xc_root P)⟩
    · exact ⟨_, xck k hk⟩
  · have hc' : c = "NoVersion" ∨ c = "SameVersion" := by simpa [csX] using hc
    refine ⟨.ref 24 :: veBases, mgk c (by rcases hc' with rfl | rfl <;> decide), xck c (by rcases hc' with rfl | rfl <;> decide), by decide, ?_⟩
    rcases hc' with rfl | rfl <;> decide
theorem free_of {p : Program} {loose : List Str} {mean : ExcName → Option Value} {mg mb : Str → Option Value} {h : Heap} {x : String} (T : Top p loose mean mg mb h) (hf : (!(startupNames ++ loose ++ (recsOf p).map (·.name) ++ (litsOf p).map (·.1) ++ (clssOf p loose).map (·.name)).contains (Str.ofString x)) = true) : mg (Str.ofString x) = none := by
  simp only [Bool.not_eq_true', List.contains_eq_mem, decide_eq_false_iff_not, List.mem_append, not_or] at hf
  obtain ⟨⟨⟨⟨h1, h2⟩, h3⟩, h4⟩, h5⟩ := hf
  exact T.free _ h1 h2 h3 h4 h5
theorem ve_x : (!(startupNames ++ (looseW Hd.vw []) ++ (recsOf Hd.vw).map (·.name) ++ (litsOf Hd.vw).map (·.1) ++ (clssOf Hd.vw (looseW Hd.vw [])).map (·.name)).contains (Str.ofString "ValueError")) = true := by decide +kernel
theorem rev_x : (!(startupNames ++ (looseW Hd.vw []) ++ (recsOf Hd.vw).map (·.name) ++ (litsOf Hd.vw).map (·.1) ++ (clssOf Hd.vw (looseW Hd.vw [])).map (·.name)).contains (Str.ofString "reversed")) = true := by decide +kernel
theorem law_at {C : Cx} (G : Gl C Hd.vw) (hz : C.held = none) (Tb : XTab C csX ksX adX) {bk N : Addr} {mN : Str → Option Value} (B : Bk C bk N mN) {P : Params} (KX : (Hd.kk P).In C.hB) (hN : N = Hd.bkN) (hrev : C.mg (Str.ofString "reversed") = Option.none) (g1 : GInt C "LONGEST_PART" 12) (g2 : GStr C "SIGNS" (Str.ofString "abcdefghijklmnopqrstuvwxyzABCDEFGHIJKLMNOPQRSTUVWXYZ0123456789.-_")) (g3 : GInt C "MOST_PARTS" 8) : FnAtX C 7 "law" (sp_law C.ns) := by
  have h1 := f__law_cell_at G hz (s_cell C.ns)
  have h7 := f_is_part G hz g1 g2 (s_isp C.ns)
  have h8 := f_is_path G hz g3 h7 (s_path C.ns)
  have h9 := f_is_beneath G hz (s_ben C.ns)
  have hdo := f_done G hz h8 h9 (s_done C.ns)
  have hch := f_changed G hz hdo (s_changed C.ns)
  have hin := f___init__ G hz B KX hN (s_init C.ns)
  have hne := f_need G hz B KX hN (s_need C.ns)
  have hma := f_many G hz B KX hN (s_many C.ns)
  have htr := f_tree G hz B KX hN hne (s_tree C.ns)
  have hpa := f_parents G hz B KX hN hne (s_parents C.ns)
  have hpu := f_put_down G hz B KX hN (s_put_down C.ns)
  have hgr := f_grow G hz B KX hN hne hch hpu (s_grow C.ns)
  have hel := f_elders G hz B KX hN hne (s_elders C.ns)
  have hna := f_nearest G hz B KX hN hel (s_nearest C.ns)
  have hro := f_road G hz B hrev KX hN hne (s_road C.ns)
  have hst := f_story G hz B KX hN hel (s_story C.ns)
  have xne := fX_need G hz Tb B KX hN (sx_need C.ns)
  have xtr := fX_tree G hz B KX hN xne (sx_tree C.ns)
  have xpa := fX_parents G hz B KX hN xne (sx_parents C.ns)
  have xgr := fX_grow G hz B KX hN xne (sx_grow C.ns)
  have xme := fX_merge G hz Tb B KX hN xne (sx_merge C.ns)
  have xel := fX_elders G hz B KX hN xne (sx_elders C.ns)
  have xna := fX_nearest G hz B KX hN xel (sx_nearest C.ns)
  have xro := fX_road G hz B KX hN xne (sx_road C.ns)
  have xst := fX_story G hz B KX hN xel (sx_story C.ns)
  have has := f__law_asked G hz B xtr xpa xgr xme xel xna xro xst (s_asked C.ns)
  have hto := f__law_told G hz Tb has (s_told C.ns adX)
  have hth := f__law_there_then G hz B htr hgr hma hpa hel hna hro hst (s_there C.ns)
  exact f_law G hz B hin h1 hgr hto hma htr hpa hth (s_law C.ns)
theorem hf_x : (["len", "range", "min", "max", "isinstance", "bool", "str", "int", "list", "dict", "set", "sorted", "tuple", "sum", "type"].all fun x : String => !(startupNames ++ (looseW Hd.vw []) ++ (recsOf Hd.vw).map (·.name) ++ (litsOf Hd.vw).map (·.1) ++ (clssOf Hd.vw (looseW Hd.vw [])).map (·.name)).contains (Str.ofString x)) = true := by decide +kernel
theorem v1 : valOf Hd.vw (Str.ofString "LONGEST_PART") = some (.int 12) := by rfl
theorem v2 : valOf Hd.vw (Str.ofString "SIGNS") = some (.str (Str.ofString "abcdefghijklmnopqrstuvwxyzABCDEFGHIJKLMNOPQRSTUVWXYZ0123456789.-_")) := by rfl
theorem v3 : valOf Hd.vw (Str.ofString "MOST_PARTS") = some (.int 8) := by rfl
theorem hi_x : importsNone Hd.vw = true := by decide +kernel
end Mine
open PySem PySem.W PyProof.Rows PySem.Calls
set_option maxRecDepth 100000
set_option maxHeartbeats 8000000
theorem PySem.Challenge.cw_uf050007_10_holds : PySem.Challenge.rw_uf050007_10.Holds :=
  Mine.Hd.hd (by rfl) (by rfl) (by rfl) (by
  intro w s₀ s₁ mg mb G Y fa o pm cd doc dV kV ho hd hcd hD hmg hg args vals as hpre hlay hrd hwl hlo
  have KX := kIn_of Y
  have X := (Ground.X G).1
  have V := (Ground.X G).2
  refine Ground.open G ?_
  intro T B D TE TW
  try (refine guard_noD D (by decide +kernel) ?_; clear D)
  obtain ⟨_, _, M⟩ := bmod_of_top T
  wrow_args hpre hlay hrd hwl hlo
  all_goals first | refine callC_kw (enter_call ?_) | refine enter_call ?_ | refine callC_kw (enter_callW ?_) | refine enter_callW ?_ | w_how
  rename_i ns _ _ _ _ _ _ _ aS vs _ hL _ _ _ hI _ hn _
  have O : Mine.Cx.Ok ⟨PySem.Challenge.rw_uf050007_10.row.prog, w, s₁, aS, ns, mg, mb, none⟩ := Mine.Cx.ok_of rfl T Mine.hi_x hL hI hn
  have GG := Mine.Gl.of T O Mine.hf_x
  have hve : mg (Str.ofString "ValueError") = none := Mine.free_of T Mine.ve_x
  have hrev : mg (Str.ofString "reversed") = none := Mine.free_of T Mine.rev_x
  have Tb := Mine.tab_of (C := ⟨PySem.Challenge.rw_uf050007_10.row.prog, w, s₁, aS, ns, mg, mb, none⟩) (P := w.params) KX T.g hve
  have g1 : Mine.GInt ⟨PySem.Challenge.rw_uf050007_10.row.prog, w, s₁, aS, ns, mg, mb, none⟩ "LONGEST_PART" 12 := Mine.GInt.of T Mine.v1
  have g2 : Mine.GStr ⟨PySem.Challenge.rw_uf050007_10.row.prog, w, s₁, aS, ns, mg, mb, none⟩ "SIGNS" (Str.ofString "abcdefghijklmnopqrstuvwxyzABCDEFGHIJKLMNOPQRSTUVWXYZ0123456789.-_") := Mine.GStr.of T Mine.v2
  have g3 : Mine.GInt ⟨PySem.Challenge.rw_uf050007_10.row.prog, w, s₁, aS, ns, mg, mb, none⟩ "MOST_PARTS" 8 := Mine.GInt.of T Mine.v3
  obtain ⟨mN, BK⟩ := Mine.bk_of_in (C := ⟨PySem.Challenge.rw_uf050007_10.row.prog, w, s₁, aS, ns, mg, mb, none⟩) KX (Mine.bk_in w.params) (mg_of KX T.g (Mine.bk_ns w.params))
  obtain ⟨a, o', fd', e1, e2, e3, S⟩ := Mine.law_at GG rfl Tb BK (P := w.params) KX rfl hrev g1 g2 g3
  have ea : a = fa := by
    have := e1.symm.trans hmg
    cases this; rfl
  subst ea
  exact Mine.law_endsX rfl S (by decide) hg (raisesW_false (by wrow_none_raised)) (by wrow_post))


end
