import PyProof.Rows.All
import Wide.All
import OpenK.AllK
import Wide.FinOn
import PyProof.Walks
import PyProof.WalksMore
import PyProof.Cells
import PyProof.DictWalks
import PyProof.StrBlock
import PyProof.CompFree
import PyProof.StrCalls2
import PyProof.DefCall
import PyProof.MakeMany
import PyProof.CallType
import PyProof.Ns1
import PyProof.LetGo
import PyProof.PureInt
import PyProof.StrOps
import PyProof.Rows.RuleB_mod
import PyProof.Rows.RuleB_floordiv
import PyProof.Rows.RuleB_mul
import PyProof.Rows.RuleB_pow
import PyProof.Rows.RuleC_bool
import PyProof.Rows.EqNone
import PyProof.Rows.StrRules
import PyProof.Rows.IntBool
import PyProof.Raises
import PyProof.ForRange
import PyProof.RangeFor
import PyProof.StrWalks
import PyProof.IsiPairs
import PyProof.IsiHeapPairs
import PyProof.WalkInts
import PyProof.SliceMore
import PyProof.SliceStr2
import PyProof.EqAt
import PyProof.ListIndexNeg
import PyProof.StrCalls3
import PyProof.Rows.Tup
import PyProof.Rows.Lst
import PyProof.Rows.SeqMore
import PyProof.StrOps2
import PyProof.DictTruth
import PyProof.EqKinds
import PyProof.StrCalls
import PyProof.CallStr
import PyProof.Conv_int_bool
import PyProof.FactsAll.list
import PyProof.StrLawsOcc
import PyProof.FitsReplace
import PyProof.StrLawsTight
import PyProof.StrBlock2
import KE.KDictList
import KE.KItemsList
import KE.KDictOf
import PyProof.DictRoads
import PyProof.Rows.SortRuns
import PyProof.Rows.SortKey
import PyProof.Rows.SortShell
import PyProof.Rows.SortStr
import PyProof.Rows.SetFrom
import KE.KDictSum
import PyProof.Rows.TupReads
import KE.KEqDict
import PyProof.RaisesMany
import PyProof.StationsW
import PyProof.Rows.OwnQ
import PyProof.ExcBaseAll.ValueError
import PyProof.ExcAttrAll.ValueError
import PyProof.IsInstance
import PyProof.RulesAs
import PyProof.RulesDel
import PySem.Challenge.RW_uf050007_08
set_option Elab.async false
set_option linter.unusedVariables false
set_option linter.unusedSimpArgs false
set_option autoImplicit false
noncomputable section
namespace Mine
inductive LT' where
 | v (i : Nat)
 | n (k : Nat)
 | a (x y : LT')
 | m (k : Nat) (x : LT')
noncomputable def LT'.den (c : List Nat) : LT' → Nat
 | .v i => c.getD i 0
 | .n k => k
 | .a x y => x.den c + y.den c
 | .m k x => k * x.den c
structure PL where
 r : List Nat
 k : Nat
noncomputable def PL.ev (c : List Nat) : List Nat → Nat
 | [] => 0
 | q :: r => q * c.headD 0 + PL.ev c.tail r
noncomputable def PL.den (c : List Nat) (p : PL) : Nat := PL.ev c p.r + p.k
noncomputable def oq : List Nat → List Nat → List Nat
 | [], b => b
 | a, [] => a
 | x :: a, y :: b => (x + y) :: oq a b
theorem mQ : ∀ (c a b : List Nat), PL.ev c (oq a b) = PL.ev c a + PL.ev c b
 | _, [], b => by simp [oq, PL.ev]
 | _, x :: a, [] => by simp [oq, PL.ev]
 | c, x :: a, y :: b => by
  have ih := mQ c.tail a b
  simp only [oq, PL.ev, ih, Nat.add_mul]; exact Nat.add_add_add_comm _ _ _ _
noncomputable def qa : Nat → List Nat
 | 0 => [1]
 | i + 1 => 0 :: qa i
theorem lZ : ∀ (i : Nat) (c : List Nat), PL.ev c (qa i) = c.getD i 0
 | 0, [] => rfl
 | 0, x :: c => by simp [qa, PL.ev]
 | i + 1, [] => by
  have := lZ i []
  simp [qa, PL.ev] at this ⊢; exact this
 | i + 1, x :: c => by
  have := lZ i c
  simp [qa, PL.ev] at this ⊢; exact this
theorem oV (k : Nat) : ∀ (c a : List Nat), PL.ev c (a.map (k * ·)) = k * PL.ev c a
 | _, [] => rfl
 | c, x :: a => by
  have ih := oV k c.tail a
  simp only [List.map_cons, PL.ev, ih, Nat.mul_add, Nat.mul_assoc]
noncomputable def LT'.pl : LT' → PL
 | .v i => ⟨qa i, 0⟩
 | .n k => ⟨[], k⟩
 | .a x y => ⟨oq x.pl.r y.pl.r, x.pl.k + y.pl.k⟩
 | .m k x => ⟨x.pl.r.map (k * ·), k * x.pl.k⟩
theorem j8 (c : List Nat) : ∀ x : LT', x.pl.den c = x.den c
 | .v i => by simp [LT'.pl, PL.den, LT'.den, lZ]
 | .n k => by simp [LT'.pl, PL.den, LT'.den, PL.ev]
 | .a x y => by
  have h1 := j8 c x
  have h2 := j8 c y
  unfold PL.den at h1 h2
  simp only [LT'.pl, PL.den, LT'.den, mQ]; rw [← h1, ← h2]; exact Nat.add_add_add_comm _ _ _ _
 | .m k x => by
  have h1 := j8 c x
  unfold PL.den at h1
  simp only [LT'.pl, PL.den, LT'.den, oV, ← h1, Nat.mul_add]
noncomputable def vj : List Nat → List Nat → Bool
 | _, [] => true
 | [], y :: b => y == 0 && vj [] b
 | x :: a, y :: b => Nat.ble y x && vj a b
theorem o0 : ∀ (c a b : List Nat), vj a b = true → PL.ev c b ≤ PL.ev c a
 | _, _, [], _ => Nat.zero_le _
 | c, [], y :: b, h => by
  simp [vj] at h
  have := o0 c.tail [] b h.2
  simp [PL.ev, h.1] at this ⊢; exact this
 | c, x :: a, y :: b, h => by
  simp [vj] at h
  have := o0 c.tail a b h.2
  have h2 := Nat.mul_le_mul_right (c.headD 0) h.1
  exact Nat.add_le_add h2 this
abbrev Cert := List (Nat × LT' × LT')
noncomputable def Cert.den (c : List Nat) : Cert → Prop → Prop
 | [], g => g
 | (_, x, y) :: r, g => x.den c ≤ y.den c → Cert.den c r g
noncomputable def Cert.sum : Cert → PL × PL
 | [] => (⟨[], 0⟩, ⟨[], 0⟩)
 | (w, x, y) :: r => let s := Cert.sum r; (⟨oq (x.pl.r.map (w * ·)) s.1.r, w * x.pl.k + s.1.k⟩, ⟨oq (y.pl.r.map (w * ·)) s.2.r, w * y.pl.k + s.2.k⟩)
noncomputable def Cert.ok (t : Cert) : Bool := let s := t.sum; vj s.1.r s.2.r && Nat.blt s.2.k s.1.k
theorem oh (c : List Nat) (g : Prop) : ∀ t : Cert, (t.sum.1.den c ≤ t.sum.2.den c → g) → Cert.den c t g
 | [], h => h (Nat.le_refl _)
 | (w, x, y) :: r, h => fun hxy => oh c g r fun hr => h (by
   have h1 := j8 c x
   have h2 := j8 c y
   have h3 := Nat.mul_le_mul_left w hxy
   rw [← h1, ← h2] at h3
   unfold PL.den at h3 hr ⊢
   simp only [Cert.sum, mQ, oV]
   rw [Nat.mul_add, Nat.mul_add] at h3
   have h4 := Nat.add_le_add h3 hr
   rw [Nat.add_add_add_comm] at h4
   exact Nat.le_trans h4 (Nat.le_of_eq (Nat.add_add_add_comm _ _ _ _)))
theorem yo (c : List Nat) (t : Cert) (h : t.ok = true) : Cert.den c t False := oh c False t fun hs => by
 unfold Cert.ok at h
 simp only [Bool.and_eq_true, Nat.blt_eq] at h
 have h1 := o0 c _ _ h.1
 have h2 := h.2
 exact Nat.lt_irrefl _ (Nat.lt_of_lt_of_le (Nat.add_lt_add_of_le_of_lt h1 h2) hs)
end Mine
namespace Mine
theorem dO (a b : Nat) : a ≤ a - b + b := Nat.sub_le_iff_le_add.mp (Nat.le_refl _)
theorem cU {a b : Nat} (h : b ≤ a) : a - b + b ≤ a := Nat.le_of_eq (Nat.sub_add_cancel h)
theorem oG (a b : Nat) : a - b + b = a ∨ a - b = 0 := (Nat.le_total b a).imp Nat.sub_add_cancel Nat.sub_eq_zero_of_le
theorem xL (a k : Nat) : k * (a / k) ≤ a := Nat.mul_div_le a k
theorem xM (a k : Nat) (h : 0 < k) : a < k * (a / k) + k := Nat.lt_of_le_of_lt (Nat.le_of_eq (Nat.div_add_mod a k).symm) (Nat.add_lt_add_left (Nat.mod_lt a h) _)
theorem uF (a b : Nat) : a ≤ min a b ∨ b ≤ min a b := (Nat.le_total a b).imp (fun h => Nat.le_min.mpr ⟨Nat.le_refl _, h⟩) (fun h => Nat.le_min.mpr ⟨h, Nat.le_refl _⟩)
theorem xo (a b : Nat) : max a b ≤ a ∨ max a b ≤ b := (Nat.le_total b a).imp (fun h => Nat.max_le.mpr ⟨Nat.le_refl _, h⟩) (fun h => Nat.max_le.mpr ⟨h, Nat.le_refl _⟩)
theorem dE {a b : Nat} (h : ¬ a < b) : b ≤ a := Nat.le_of_not_lt h
theorem tt {a b : Nat} (h : ¬ a ≤ b) : b < a := Nat.lt_of_not_le h
theorem iH {α : Type} {l : List α} {i : Nat} (h : l.drop i = []) (hi : i ≤ l.length) : i = l.length := Nat.le_antisymm hi (List.drop_eq_nil_iff.mp h)
theorem jM {α : Type} {l r : List α} {x : α} {i : Nat} (h : l.drop i = x :: r) : i < l.length := Nat.lt_of_not_le fun g => by rw [List.drop_eq_nil_of_le g] at h; cases h
theorem xV {a j L c d k : Nat} (h : a + c * (j + 1) + d < L) (hk : k ≤ c) : a + k + c * j + d < L :=
 Nat.lt_of_le_of_lt (Nat.add_le_add_right (by rw [Nat.add_assoc, Nat.add_comm k]; exact Nat.add_le_add_left (Nat.add_le_add_left hk _) a) d) h
noncomputable def dT : Nat → Nat → (LT' → Nat → Cert) → Cert
 | 0, _, _ => []
 | f + 1, c, k => bif Nat.beq (c % 32) 0 then dT f (c / 32) fun x r => dT f r fun y s => k (.a x y) s
  else bif Nat.beq (c % 32) 3 then dT f (c / 32) fun x r => k (.a x (.n 1)) r
  else bif Nat.beq (c % 32) 1 then k (.n (c / 1024 % 32 ^ (c / 32 % 32))) (c / 1024 / 32 ^ (c / 32 % 32))
  else bif Nat.beq (c % 32) 2 then dT f (c / 1024) fun x r => k (.m (c / 32 % 32) x) r
  else k (.v (c % 32 - 4)) (c / 32)
noncomputable def dR : Nat → Nat → Cert
 | 0, _ => []
 | f + 1, c => bif Nat.beq c 0 then [] else dT 12 (c / 32) fun x r => dT 12 r fun y s => (c % 32, x, y) :: dR f s
theorem lN (c : List Nat) (n : Nat) (h : (dR 20 n).ok = true) : Cert.den c (dR 20 n) False := yo c (dR 20 n) h
end Mine
end
noncomputable section
namespace Mine
open PySem
inductive V where
 | none
 | bool (b : Bool)
 | int (i : Int)
 | str (s : Str)
 | ref (a : Addr)
 | script
 | ty (n : String)
 | tup (vs : List V)
inductive AObj where
 | list (xs : List V)
 | dict (kvs : List (Str × V)) (ep : Nat)
 | idict (kvs : List (Int × V)) (ep : Nat)
 | inst (dx : Addr)
 | ns (fs : List (String × V))
abbrev ai := Addr → Option AObj
abbrev aT := String → Option V
noncomputable def a8 (σ : ai) (a : Addr) (o : AObj) : ai := fun b => if b = a then some o else σ b
noncomputable def put (m : aT) (x : String) (v : V) : aT := fun y => bif y == x then some v else m y
@[simp] theorem ay (σ : ai) (a : Addr) (o : AObj) : a8 σ a o a = some o := by simp [a8]
theorem bh {σ : ai} {a b : Addr} {o : AObj} (h : b ≠ a) : a8 σ a o b = σ b := by simp [a8, h]
theorem sU {σ : ai} {a b : Addr} {o o' : AObj} (ha : σ a = none) (hb : σ b = some o') : a8 σ a o b = some o' := by
 rw [bh (by rintro rfl; rw [ha] at hb; cases hb), hb]
@[simp low] theorem j5 (m : aT) (x : String) (v : V) : put m x v x = some v := by simp [put]
theorem fp {m : aT} {x y : String} {v : V} (h : y ≠ x) : put m x v y = m y := by unfold put; rw [beq_false_of_ne h]; rfl
structure Cx where
 prog : Program
 w : World
 s₁ : Shared
 aS : Addr
 ns : List Int
 mg : Str → Option Value
 mb : Str → Option Value
 held : Option Addr := none
abbrev Cx.hB (C : Cx) : Heap := C.s₁.heap
structure Cx.Ok (C : Cx) : Prop where
 g : C.hB.Ns mainGlobals C.mg
 b : C.hB.Ns builtinsNs C.mb
 nolimit : C.hB.NoLimit
 mods : ∃ o, C.hB.get? sysModules = some o
 few : C.ns.length ≤ 63
 heldOk : ∀ e, C.held = some e → ∃ o vs, C.hB.get? e = some o ∧ o.data = .fields vs ∧ vs[2]? = some .none
 script : ∃ ws, C.hB.IsList C.aS ws ∧ ws.toList.length = C.ns.length ∧ ∀ (i : Nat) n, C.ns[i]? = some n → ∃ t, ws.toList[i]? = some (Value.int n t)
theorem Cx.Ok.noMods {C : Cx} (O : C.Ok) {a : Addr} (h : C.hB.get? a = none) : (a == sysModules) = false := by
 obtain ⟨o, ho⟩ := O.mods
 simp only [beq_eq_false_iff_ne]
 rintro rfl
 rw [ho] at h; cases h
mutual
inductive VRel (aS : Addr) (h : Heap) : V → Value → Prop
 | none : VRel aS h .none .none
 | bool (b : Bool) : VRel aS h (.bool b) (.bool b)
 | int (i : Int) (t : Tok) : VRel aS h (.int i) (.int i t)
 | str (x : Str) (t : Tok) : VRel aS h (.str x) (.str x t)
 | ref (a : Addr) : VRel aS h (.ref a) (.ref a)
 | script : VRel aS h .script (.ref aS)
 | ty (n : String) : VRel aS h (.ty n) (.type n)
 | tup {vs : List V} {a : Addr} {ws : List Value} : h.IsTuple a ws.toArray → VRels aS h vs ws → VRel aS h (.tup vs) (.ref a)
inductive VRels (aS : Addr) (h : Heap) : List V → List Value → Prop
 | nil : VRels aS h [] []
 | cons {v : V} {w : Value} {vs : List V} {ws : List Value} : VRel aS h v w → VRels aS h vs ws → VRels aS h (v :: vs) (w :: ws)
end
noncomputable def ld (o : Obj) : Prop := o.cls = .type "tuple" ∧ ∃ it n, o.data = .seq it n
noncomputable def bb (h h' : Heap) : Prop := ∀ b o, h.get? b = some o → ld o → h'.get? b = some o
theorem VRel.keep {aS : Addr} {h h' : Heap} (k : bb h h') {v : V} {w : Value} (x : VRel aS h v w) : VRel aS h' v w :=
 VRel.rec (motive_1 := fun v w _ => VRel aS h' v w) (motive_2 := fun vs ws _ => VRels aS h' vs ws) .none .bool .int .str .ref .script .ty (fun ht _ ih => .tup (let ⟨o, ho, hc, r⟩ := ht; ⟨o, k _ o ho ⟨hc, _, r⟩, hc, r⟩) ih) .nil (fun _ _ a b => .cons a b) x
theorem VRels.inv0 {aS : Addr} {h : Heap} {ws : List Value} (x : VRels aS h [] ws) : ws = [] := by cases x; rfl
theorem VRels.invC {aS : Addr} {h : Heap} {a : V} {as : List V} {ws : List Value} (x : VRels aS h (a :: as) ws) : ∃ w ws', ws = w :: ws' ∧ VRel aS h a w ∧ VRels aS h as ws' := by
 cases x with
 | cons h1 r => exact ⟨_, _, rfl, h1, r⟩
theorem VRels.ind {aS : Addr} {h : Heap} {P : List V → List Value → Prop} (h0 : P [] []) (h1 : ∀ v w vs ws, VRel aS h v w → VRels aS h vs ws → P vs ws → P (v :: vs) (w :: ws)) {vs : List V} {ws : List Value} (x : VRels aS h vs ws) : P vs ws := by
 induction vs generalizing ws with
 | nil => rw [x.inv0]; exact h0
 | cons v vs ih => obtain ⟨w, ws, rfl, a, r⟩ := x.invC; exact h1 _ _ _ _ a r (ih r)
theorem VRels.keep {aS : Addr} {h h' : Heap} (k : bb h h') {vs : List V} {ws : List Value} (x : VRels aS h vs ws) : VRels aS h' vs ws :=
 x.ind .nil fun _ _ _ _ a _ ih => .cons (a.keep k) ih
theorem VRels.length {aS : Addr} {h : Heap} {vs : List V} {ws : List Value} (x : VRels aS h vs ws) : vs.length = ws.length :=
 x.ind (P := fun vs ws => vs.length = ws.length) rfl fun _ _ _ _ _ _ ih => congrArg (· + 1) ih
theorem VRels.get {aS : Addr} {h : Heap} {vs : List V} {ws : List Value} (x : VRels aS h vs ws) : ∀ {i : Nat} {v : V}, vs[i]? = some v → ∃ w, ws[i]? = some w ∧ VRel aS h v w :=
 x.ind (P := fun vs ws => ∀ {i : Nat} {v : V}, vs[i]? = some v → ∃ w, ws[i]? = some w ∧ VRel aS h v w) (fun e => by cases e) fun _ w _ _ a _ ih i _ e => by
  cases i with
  | zero => cases e; exact ⟨w, rfl, a⟩
  | succ i => exact ih e
theorem VRel.invStr {aS : Addr} {h : Heap} {x : Str} {w : Value} (r : VRel aS h (.str x) w) : ∃ t, w = .str x t := by cases r; exact ⟨_, rfl⟩
theorem VRels.append {aS : Addr} {h : Heap} {vs vs' : List V} {ws ws' : List Value} (x : VRels aS h vs ws) (y : VRels aS h vs' ws') : VRels aS h (vs ++ vs') (ws ++ ws') :=
 x.ind (P := fun vs ws => VRels aS h (vs ++ vs') (ws ++ ws')) y fun _ _ _ _ a _ ih => .cons a ih
noncomputable def PRel {K : Type} (aS : Addr) (h : Heap) : List (K × V) → List (K × Value) → Prop
 | [], [] => True
 | (k, v) :: r, (k', w) :: r' => k = k' ∧ VRel aS h v w ∧ PRel aS h r r'
 | _, _ => False
theorem PRel.ind {K : Type} {aS : Addr} {h : Heap} {P : List (K × V) → List (K × Value) → Prop} (h0 : P [] []) (h1 : ∀ k v w r r', VRel aS h v w → PRel aS h r r' → P r r' → P ((k, v) :: r) ((k, w) :: r')) {a : List (K × V)} {b : List (K × Value)} (x : PRel aS h a b) : P a b := by
 induction a generalizing b with
 | nil => cases b with
  | nil => exact h0
  | cons _ _ => exact False.elim x
 | cons p a ih => cases b with
  | nil => exact False.elim x
  | cons q b =>
   obtain ⟨k, v⟩ := p
   obtain ⟨k', w⟩ := q
   have y : k = k' ∧ VRel aS h v w ∧ PRel aS h a b := x
   obtain ⟨rfl, y, r⟩ := y
   exact h1 _ _ _ _ _ y r (ih r)
theorem PRel.keep {K : Type} {aS : Addr} {h h' : Heap} (k : bb h h') {a : List (K × V)} {b : List (K × Value)} (x : PRel aS h a b) : PRel aS h' a b :=
 x.ind trivial fun _ _ _ _ _ v _ ih => ⟨rfl, v.keep k, ih⟩
theorem PRel.length {K : Type} {aS : Addr} {h : Heap} {a : List (K × V)} {b : List (K × Value)} (x : PRel aS h a b) : a.length = b.length :=
 x.ind (P := fun a b => a.length = b.length) rfl fun _ _ _ _ _ _ _ ih => congrArg (· + 1) ih
theorem PRel.get {K : Type} {aS : Addr} {h : Heap} {a : List (K × V)} {b : List (K × Value)} (x : PRel aS h a b) : ∀ {i : Nat} {k : K} {v : V}, a[i]? = some (k, v) → ∃ w, b[i]? = some (k, w) ∧ VRel aS h v w :=
 x.ind (P := fun a b => ∀ {i : Nat} {k : K} {v : V}, a[i]? = some (k, v) → ∃ w, b[i]? = some (k, w) ∧ VRel aS h v w) (fun e => by simp at e) fun _ _ w _ _ hv _ ih i _ _ e => by
  cases i with
  | zero => cases e; exact ⟨w, rfl, hv⟩
  | succ i => exact ih e
noncomputable def ObjRel (C : Cx) (h : Heap) (a : Addr) : AObj → Prop
 | .list xs => xs.length ≤ 16777216 ∧ ∃ ws : List Value, h.PlainList a ws.toArray ∧ VRels C.aS h xs ws
 | .dict kvs ep => kvs.length ≤ 16777216 ∧ ∃ kws, h.DictAt (strKind C.prog C.w) a kws ep ∧ PRel C.aS h kvs kws
 | .idict kvs ep => kvs.length ≤ 16777216 ∧ ∃ kws, h.DictAt (intKind C.prog C.w) a kws ep ∧ PRel C.aS h kvs kws
 | .inst dx => ∃ cl, C.mg (Str.ofString "Book") = some (.ref cl) ∧ dx ≠ a ∧ h.get? a = some { cls := .ref cl, dict := some dx, data := .plain }
 | .ns fs => fs.length ≤ 1000 ∧ ∃ mA : Str → Option Value, h.Ns1 a mA ∧ (∀ x v, fs.lookup x = some v → ∃ w, mA (Str.ofString x) = some w ∧ VRel C.aS h v w) ∧ ∀ y : Str, (∀ q ∈ fs, y ≠ Str.ofString q.1) → mA y = none
theorem ObjRel.keep {C : Cx} {h h' : Heap} {a : Addr} {o : AObj} (x : ObjRel C h a o) (k : bb h h') (ka : ∀ o, h.get? a = some o → h'.get? a = some o) : ObjRel C h' a o := by
 cases o with
 | list xs => obtain ⟨hz, ws, h1, h2⟩ := x; exact ⟨hz, ws, h1.at ka, h2.keep k⟩
 | dict kvs ep => obtain ⟨hz, ws, h1, h2⟩ := x; exact ⟨hz, ws, h1.at' ka, h2.keep k⟩
 | idict kvs ep => obtain ⟨hz, ws, h1, h2⟩ := x; exact ⟨hz, ws, h1.at' ka, h2.keep k⟩
 | inst dx => obtain ⟨cl, h1, h2, h3⟩ := x; exact ⟨cl, h1, h2, ka _ h3⟩
 | ns fs => obtain ⟨hz, mA, h1, h2, h3⟩ := x; exact ⟨hz, mA, h1.at ka, fun y v e => let ⟨w, a, b⟩ := h2 y v e; ⟨w, a, b.keep k⟩, h3⟩
theorem ObjRel.shape {C : Cx} {h : Heap} {a : Addr} {o : AObj} (x : ObjRel C h a o) : ∃ ob, h.get? a = some ob ∧ ¬ ld ob ∧ ∀ v, ob.data ≠ .cell v := by
 cases o with
 | list xs => obtain ⟨_, ws, ⟨n, h1⟩, h2⟩ := x; exact ⟨_, h1, by simp [ld], by simp⟩
 | dict kvs ep => obtain ⟨_, ws, ⟨o, es, ho, hc, hd, _⟩, h2⟩ := x; exact ⟨o, ho, by simp [ld, hd], by rw [hd]; simp⟩
 | idict kvs ep => obtain ⟨_, ws, ⟨o, es, ho, hc, hd, _⟩, h2⟩ := x; exact ⟨o, ho, by simp [ld, hd], by rw [hd]; simp⟩
 | inst dx => obtain ⟨cl, h1, h2, h3⟩ := x; exact ⟨_, h3, by simp [ld], by simp⟩
 | ns fs => obtain ⟨_, mA, ⟨o, es, ep, ho, hd, _⟩, h2⟩ := x; exact ⟨o, ho, by simp [ld, hd], by rw [hd]; simp⟩
structure RelG (C : Cx) (σ : ai) (s : Shared) : Prop where
 rest : ∃ h tk d, s = { C.s₁ with heap := h, toks := tk, drawn := d }
 base : ∀ b o, C.hB.get? b = some o → s.heap.get? b = some o
 view : ∀ a o, σ a = some o → ObjRel C s.heap a o
 apart : ∀ a, σ a ≠ none → C.hB.get? a = none
noncomputable def Like (o o' : Obj) : Prop := o' = o ∨ ((∃ es ep, o.data = .dict es ep) ∧ ∃ sl, o' = { o with slots := sl })
theorem Like.refl (o : Obj) : Like o o := .inl rfl
theorem Like.trans {a b c : Obj} (x : Like a b) (y : Like b c) : Like a c := by
 rcases x with rfl | ⟨⟨es, ep, hd⟩, sl, rfl⟩
 ·exact y
 ·rcases y with rfl | ⟨_, sl', rfl⟩
  ·exact .inr ⟨⟨es, ep, hd⟩, sl, rfl⟩
  ·exact .inr ⟨⟨es, ep, hd⟩, sl', rfl⟩
theorem Like.ns {h h' : Heap} {a : Addr} {m : Str → Option Value} (hn : h.Ns a m) (k : ∀ o, h.get? a = some o → ∃ o', h'.get? a = some o' ∧ Like o o') : h'.Ns a m := by
 obtain ⟨o, es, ep, ho, hd, r⟩ := hn
 obtain ⟨o', ho', hl⟩ := k o ho
 rcases hl with rfl | ⟨_, sl, rfl⟩
 ·exact ⟨_, es, ep, ho', hd, r⟩
 ·exact ⟨_, es, ep, ho', hd, r⟩
structure Step (own : Addr → Prop) (σ σ' : ai) (h h' : Heap) : Prop where
 keepL : ∀ b o, h.get? b = some o → σ b = none → ¬ own b → ∃ o', h'.get? b = some o' ∧ Like o o'
 size : h.objs.size ≤ h'.objs.size
 new : ∀ b, σ b = none → σ' b ≠ none → h.objs.size ≤ b
noncomputable def no : Addr → Prop := fun _ => False
theorem Step.of {own : Addr → Prop} {σ σ' : ai} {h h' : Heap} (k : ∀ b o, h.get? b = some o → σ b = none → ¬ own b → h'.get? b = some o) (size : h.objs.size ≤ h'.objs.size) (new : ∀ b, σ b = none → σ' b ≠ none → h.objs.size ≤ b) : Step own σ σ' h h' :=
 ⟨fun b o e n q => ⟨o, k b o e n q, Like.refl o⟩, size, new⟩
theorem Step.keep {own : Addr → Prop} {σ σ' : ai} {h h' : Heap} (x : Step own σ σ' h h') (b : Addr) (o : Obj) (e : h.get? b = some o) (n : σ b = none) (q : ¬ own b) (hd : ∀ es ep, o.data ≠ .dict es ep) : h'.get? b = some o := by
 obtain ⟨o', h1, h2⟩ := x.keepL b o e n q
 rcases h2 with rfl | ⟨⟨es, ep, z⟩, _⟩
 ·exact h1
 ·exact absurd z (hd es ep)
theorem Step.mono {own own' : Addr → Prop} {σ σ' : ai} {h h' : Heap} (x : Step own σ σ' h h') (k : ∀ b o, h.get? b = some o → own b → own' b) : Step own' σ σ' h h' :=
 ⟨fun b o e n q => x.keepL b o e n fun z => q (k b o e z), x.size, x.new⟩
theorem RelG.dom {C : Cx} {σ : ai} {s : Shared} (R : RelG C σ s) : ∀ b, σ b ≠ none → s.heap.get? b ≠ none := fun b hb => by
 cases e : σ b with
 | none => exact absurd e hb
 | some o => obtain ⟨ob, h1, _⟩ := (R.view b o e).shape; rw [h1]; simp
theorem Step.refl {own : Addr → Prop} {σ : ai} {h : Heap} : Step own σ σ h h :=
 .of (fun _ _ e _ _ => e) (Nat.le_refl _) fun _ h h' => absurd h h'
theorem Step.trans {own : Addr → Prop} {σ₁ σ₂ σ₃ : ai} {h₁ h₂ h₃ : Heap} (x : Step own σ₁ σ₂ h₁ h₂) (y : Step own σ₂ σ₃ h₂ h₃) : Step own σ₁ σ₃ h₁ h₃ where
 keepL := fun b o e n q => by
  obtain ⟨o', h1, h2⟩ := x.keepL b o e n q
  obtain ⟨o'', h3, h4⟩ := y.keepL b o' h1 (by
   cases z : σ₂ b with
   | none => rfl
   | some o' => have := x.new b n (by rw [z]; simp); exact absurd (Heap.lt_size e) (Nat.not_lt.mpr this)) q
  exact ⟨o'', h3, h2.trans h4⟩
 size := Nat.le_trans x.size y.size
 new := fun b n m => by
  cases z : σ₂ b with
  | some o' => exact x.new b n (by rw [z]; simp)
  | none => exact Nat.le_trans x.size (y.new b z m)
theorem Step.tups {C : Cx} {own : Addr → Prop} {σ σ' : ai} {s : Shared} {h' : Heap} (R : RelG C σ s) (x : Step own σ σ' s.heap h') (ho : ∀ b o, own b → s.heap.get? b = some o → ¬ ld o) : bb s.heap h' := fun b o e hc =>
 x.keep b o e (by
  cases z : σ b with
  | none => rfl
  | some o' => obtain ⟨ob, h1, h2, _⟩ := (R.view b o' z).shape; rw [e] at h1; cases h1; exact absurd hc h2) (fun z => ho b o z e hc) (fun es ep z => by obtain ⟨_, it, n, hd⟩ := hc; rw [hd] at z; cases z)
theorem Step.tupsN {C : Cx} {σ σ' : ai} {s : Shared} {h' : Heap} (R : RelG C σ s) (x : Step no σ σ' s.heap h') : bb s.heap h' := x.tups R fun _ _ z => z.elim
theorem RelG.grow {C : Cx} {σ : ai} {s : Shared} {h' : Heap} {tk : Nat} (R : RelG C σ s) (k : ∀ b o, s.heap.get? b = some o → h'.get? b = some o) : RelG C σ { s with heap := h', toks := tk } where
 rest := let ⟨_, _, d, e⟩ := R.rest; ⟨h', tk, d, by rw [e]⟩
 base := fun b o e => k b o (R.base b o e)
 view := fun a o e => (R.view a o e).keep (fun b o e _ => k b o e) fun o e => k a o e
 apart := R.apart
theorem Step.grow {own : Addr → Prop} {σ : ai} {h h' : Heap} (k : ∀ b o, h.get? b = some o → h'.get? b = some o) (z : h.objs.size ≤ h'.objs.size) : Step own σ σ h h' :=
 .of (fun b o e _ _ => k b o e) z fun _ h h' => absurd h h'
theorem Step.push {own : Addr → Prop} {σ : ai} {h : Heap} {o : Obj} : Step own σ σ h (h.push o) := .grow (fun _ _ e => Heap.get?_push_of_some _ e) (by rw [Heap.size_push]; exact Nat.le_succ _)
theorem RelG.draw {C : Cx} {σ : ai} {s : Shared} (R : RelG C σ s) (d : Drawn) : RelG C σ { s with drawn := d } where
 rest := let ⟨h, tk, _, e⟩ := R.rest; ⟨h, tk, d, by rw [e]⟩
 base := R.base
 view := R.view
 apart := R.apart
theorem RelG.tok {C : Cx} {σ : ai} {s : Shared} (R : RelG C σ s) (tk : Nat) : RelG C σ { s with toks := tk } := R.grow fun _ _ e => e
theorem RelG.freshNone {C : Cx} {σ : ai} {s : Shared} (R : RelG C σ s) {a : Addr} (h : s.heap.get? a = none) : σ a = none := by
 cases e : σ a with
 | none => rfl
 | some o => exact absurd h (R.dom a (by rw [e]; simp))
theorem bQ (h : Heap) : h.get? h.objs.size = none := by
 cases e : h.get? h.objs.size with
 | none => rfl
 | some o => exact absurd (Heap.lt_size e) (Nat.lt_irrefl _)
theorem RelG.baseNone {C : Cx} {σ : ai} {s : Shared} (R : RelG C σ s) {a : Addr} (h : s.heap.get? a = none) : C.hB.get? a = none := by
 cases e : C.hB.get? a with
 | none => rfl
 | some o => rw [R.base a o e] at h; cases h
theorem RelG.add {C : Cx} {σ : ai} {s : Shared} {h' : Heap} {tk : Nat} {a : Addr} {o : AObj} (R : RelG C σ s) (k : ∀ b o, s.heap.get? b = some o → h'.get? b = some o) (hn : s.heap.get? a = none) (ho : ObjRel C h' a o) :
  RelG C (a8 σ a o) { s with heap := h', toks := tk } where
 rest := (R.grow (tk := tk) k).rest
 base := (R.grow (tk := tk) k).base
 view := fun b o' e => by
  by_cases hb : b = a
  ·subst hb; rw [ay] at e; cases e; exact ho
  ·rw [bh hb] at e; exact (R.grow (tk := tk) k).view b o' e
 apart := fun b hb => by
  by_cases q : b = a
  ·subst q; exact R.baseNone hn
  ·rw [bh q] at hb; exact R.apart b hb
theorem Step.add {own : Addr → Prop} {σ : ai} {h h' : Heap} {a : Addr} {o : AObj} (k : ∀ b o, h.get? b = some o → h'.get? b = some o) (z : h.objs.size ≤ h'.objs.size) (hn : h.objs.size ≤ a) : Step own σ (a8 σ a o) h h' :=
 .of (fun b o e _ _ => k b o e) z fun b n m => by
  by_cases q : b = a
  ·subst q; exact hn
  ·rw [bh q] at m; exact absurd n m
theorem Step.addPush {own : Addr → Prop} {σ : ai} {h : Heap} {ob : Obj} {o : AObj} : Step own σ (a8 σ h.objs.size o) h (h.push ob) := .add (fun _ _ e => Heap.get?_push_of_some _ e) (by rw [Heap.size_push]; exact Nat.le_succ _) (Nat.le_refl _)
theorem RelG.change {C : Cx} {σ : ai} {s : Shared} {h' : Heap} {tk : Nat} {a : Addr} {o o' : AObj} (R : RelG C σ s) (ha : σ a = some o) (k : Heap.SameBut a s.heap h') (ho : ObjRel C h' a o') : RelG C (a8 σ a o') { s with heap := h', toks := tk } where
 rest := let ⟨_, _, d, e⟩ := R.rest; ⟨h', tk, d, by rw [e]⟩
 base := fun b o e => (k.2 b (by rintro rfl; rw [R.apart b (by rw [ha]; simp)] at e; cases e)).trans (R.base b o e)
 view := fun b o₂ e => by
  by_cases hb : b = a
  ·subst hb; rw [ay] at e; cases e; exact ho
  ·rw [bh hb] at e
   refine (R.view b o₂ e).keep (fun c oc ec hc => ?_) fun oc ec => (k.2 b hb).trans ec
   exact (k.2 c (by rintro rfl; obtain ⟨ob, h1, h2, _⟩ := (R.view c o ha).shape; rw [ec] at h1; cases h1; exact h2 hc)).trans ec
 apart := fun b hb => by
  by_cases q : b = a
  ·subst q; exact R.apart b (by rw [ha]; simp)
  ·rw [bh q] at hb; exact R.apart b hb
theorem Step.change {own : Addr → Prop} {σ : ai} {h h' : Heap} {a : Addr} {o o' : AObj} (ha : σ a = some o) (k : Heap.SameBut a h h') : Step own σ (a8 σ a o') h h' :=
 .of (fun b o₂ e n _ => (k.2 b (by rintro rfl; rw [ha] at n; cases n)).trans e) (Nat.le_of_eq k.1.symm)
   fun b n m => by
  by_cases q : b = a
  ·subst q; rw [ha] at n; cases n
  ·rw [bh q] at m; exact absurd n m
theorem aI {h : Heap} {a : Addr} (q : h.objs.size ≤ a) : h.get? a = none := by
 cases e : h.get? a with
 | none => rfl
 | some o => exact absurd (Heap.lt_size e) (Nat.not_lt.mpr q)
theorem ja {M : Model} {Γ : Ctx} {p : Pos} {t : Sem Fin} {fs : List Frame} {s s' : Shared} {e : End} (h : Runs M Γ p t fs s e s') : s.heap.objs.size ≤ s'.heap.objs.size := by
 induction h <;> (try simp only [Shared.setGen, Heap.size_push, Heap.size_after_update] at *) <;> omega
theorem oA {M : Model} {Γ : Ctx} {p : Pos} {g : Nat} {r : Resume} {s s' : Shared} {res : GenResult} (h : Wakes M Γ p g r s res s') : s.heap.objs.size ≤ s'.heap.objs.size := by
 unfold Wakes at h
 split at h
 ·exact h.elim
 ·split at h
  ·obtain ⟨e₁, s₁, hr, _, _, rfl⟩ := h; exact (ja hr : (s.setGen g .running).heap.objs.size ≤ s₁.heap.objs.size)
  ·rw [h.2]; exact Nat.le_refl _
  ·rw [h.2]; exact Nat.le_refl _
 ·obtain ⟨e₁, s₁, hr, _, _, rfl⟩ := h; exact (ja hr : (s.setGen g .running).heap.objs.size ≤ s₁.heap.objs.size)
 ·rw [h.2]; exact Nat.le_refl _
 ·rw [h.2]; exact Nat.le_refl _
theorem sQ {α : Type} (M : Model) (Γ : Ctx) (n : Nat) (t : Sem α) : ∀ (Q : α → Pos → Shared → Prop) (E : Value → Pos → Shared → Prop) (p : Pos) (s : Shared), n ≤ s.heap.objs.size → Sem.wp M Γ t Q E p s →
  Sem.wp M Γ t (fun a p' s' => n ≤ s'.heap.objs.size ∧ Q a p' s') (fun e p' s' => n ≤ s'.heap.objs.size ∧ E e p' s') p s := by
 induction t with
 | pure a | raise a => intro Q E p s hn h; exact ⟨hn, h⟩
 | unsupported | finish | register | yield | fork | await => intro Q E p s _ h; exact h
 | rule _ k ih | «at» _ k ih | point _ k ih | ask k ih | handled _ k ih | stack k ih | thread k ih | loadIfAlive _ k ih | fresh k ih | os _ _ k ih | newGen _ k ih => intro Q E p s hn h; exact ih _ Q E _ _ hn h
 | load a _ k ih => intro Q E p s hn h; obtain ⟨o, ho, h⟩ := h; exact ⟨o, ho, ih o Q E p s hn h⟩
 | update a _ f k ih => intro Q E p s hn h; exact ⟨h.1, ih () Q E p _ (by simpa using hn) h.2⟩
 | alloc o k ih => intro Q E p s hn h; exact ih _ Q E p _ (by simp; omega) h
 | choose src m k ih => intro Q E p s hn h; exact ⟨h.1, ih _ Q E p _ hn h.2⟩
 | call c hd _ _ k ih => intro Q E p s hn h; obtain ⟨r, s', hr, h⟩ := h; exact ⟨r, s', hr, ih r Q E p s' (Nat.le_trans hn (ja hr)) h⟩
 | genState g k ih => intro Q E p s hn h; obtain ⟨st, hs, h⟩ := h; exact ⟨st, hs, ih _ Q E p s hn h⟩
 | resume g r _ k ih => intro Q E p s hn h; obtain ⟨res, s', hw, h⟩ := h; exact ⟨res, s', hw, ih res Q E p s' (Nat.le_trans hn (oA hw)) h⟩
theorem br {α : Type} {M : Model} {A : Around} {s : Shared} {t : Sem α} {Q : α → Shared → Prop} {E : Value → Shared → Prop}
  (h : wpAny M A t (fun a s' => s.heap.objs.size ≤ s'.heap.objs.size → Q a s') E s) : wpAny M A t Q E s :=
 fun Γ p hΓ => Sem.wp_mono M Γ t (fun _ _ _ x => x.2 x.1) (fun _ _ _ x => x.2) p s (sQ M Γ _ t _ _ p s (Nat.le_refl _) (h Γ p hΓ))
noncomputable def yr (σ : ai) (a : Addr) : ai := fun b => if b = a then none else σ b
end Mine
end
noncomputable section
namespace Mine
open PySem
noncomputable def i6 (env : Env) (b : Addr) : Prop := b = env.locals ∨ ∃ n, env.cells.lookup n = some b
structure FrameRel (C : Cx) (env : Env) (m : aT) (σ : ai) (h : Heap) : Prop where
 ns : ∃ mm, h.Ns env.locals mm ∧ ∀ x v, m x = some v → env.kindOf (Str.ofString x) = some .local → ∃ w, mm (Str.ofString x) = some w ∧ VRel C.aS h v w
 cel : ∀ x v, m x = some v → env.kindOf (Str.ofString x) = some .local ∨
  ((env.kindOf (Str.ofString x) = some .cell ∨ env.kindOf (Str.ofString x) = some .free) ∧ ∃ c w, env.cells.lookup (Str.ofString x) = some c ∧ h.IsCell c (some w) ∧ VRel C.aS h v w)
 cells : ∀ n c, env.cells.lookup n = some c → ∃ v, h.IsCell c v
 sepL : σ env.locals = none
 baseL : C.hB.get? env.locals = none
 baseC : ∀ n c, env.cells.lookup n = some c → C.hB.get? c = none
 dist : env.cells.Pairwise fun x y => x.2 ≠ y.2
 has : ∀ n, env.kindOf n = some .cell ∨ env.kindOf n = some .free → ∃ c, env.cells.lookup n = some c
theorem FrameRel.step {C : Cx} {env : Env} {m : aT} {σ σ' : ai} {s : Shared} {h' : Heap} (F : FrameRel C env m σ s.heap) (R : RelG C σ s) (S : Step no σ σ' s.heap h') : FrameRel C env m σ' h' := by
 have kt := S.tupsN R
 have kc : ∀ c v, s.heap.IsCell c v → h'.IsCell c v := fun c v ⟨o, ho, hd⟩ => ⟨o, S.keep c o ho (by
  cases z : σ c with
  | none => rfl
  | some o' => obtain ⟨ob, h1, _, h3⟩ := (R.view c o' z).shape; rw [ho] at h1; cases h1; exact absurd hd (h3 v)) (fun z => z) (fun es ep z => by rw [hd] at z; cases z), hd⟩
 obtain ⟨mm, hn, hv⟩ := F.ns
 have hl : ∃ o, s.heap.get? env.locals = some o := let ⟨o, _, _, ho, _⟩ := hn; ⟨o, ho⟩
 refine ⟨⟨mm, Like.ns hn fun o e => S.keepL _ o e F.sepL (fun z => z), fun x v e k => ?_⟩, fun x v e => ?_, fun n c e => ?_, ?_, F.baseL, F.baseC, F.dist, F.has⟩
 ·obtain ⟨w, h1, h2⟩ := hv x v e k; exact ⟨w, h1, h2.keep kt⟩
 ·rcases F.cel x v e with q | ⟨q, c, w, h1, h2, h3⟩
  ·exact .inl q
  ·exact .inr ⟨q, c, w, h1, kc _ _ h2, h3.keep kt⟩
 ·obtain ⟨v, hv⟩ := F.cells n c e; exact ⟨v, kc _ _ hv⟩
 ·cases z : σ' env.locals with
  | none => rfl
  | some o => obtain ⟨ol, hol⟩ := hl; have := S.new env.locals F.sepL (by rw [z]; simp); exact absurd (Heap.lt_size hol) (Nat.not_lt.mpr this)
structure AOk (C : Cx) (A : Around) (k : Nat) : Prop where
 handled : A.handled = C.held.map Value.ref
 depth : A.depth + 3 * k + 3 < recursionLimit
 units : A.units + 10 * k + 20 < cLine
theorem AOk.le {C : Cx} {A : Around} {k j : Nat} (x : AOk C A k) (h : j ≤ k) : AOk C A j := ⟨x.handled, Nat.lt_of_le_of_lt (Nat.add_le_add_right (Nat.add_le_add_left (Nat.mul_le_mul_left 3 h) _) _) x.depth, Nat.lt_of_le_of_lt (Nat.add_le_add_right (Nat.add_le_add_left (Nat.mul_le_mul_left 10 h) _) _) x.units⟩
theorem AOk.none {C : Cx} {A : Around} {k : Nat} (x : AOk C A k) (hp : C.held = none) : A.handled = none := by rw [x.handled, hp]; rfl
structure EnvOk (env : Env) (sc : Scope) : Prop where
 scope : env.scope = sc
 kind : sc.kind = .function
 globals : env.globals = mainGlobals
 builtins : env.builtins = builtinsNs
theorem EnvOk.k {env : Env} {sc : Scope} (e : EnvOk env sc) : env.scope.kind = .function := by rw [e.scope]; exact e.kind
theorem EnvOk.of {env : Env} {sc : Scope} (e : EnvOk env sc) {x : Str} {n : Option NameKind} (h : sc.names.lookup x = n) : env.kindOf x = n := by unfold Env.kindOf; rw [e.scope]; exact h
abbrev ET := aT → ai → (V → ai → Prop) → Prop
abbrev BT := aT → ai → (Bool → ai → Prop) → Prop
abbrev LT := aT → ai → (List V → ai → Prop) → Prop
structure HE (C : Cx) (sc : Scope) (k : Nat) (e : Expr) (T : ET) : Prop where
 run : ∀ (env : Env) (A : Around) (s : Shared) (m : aT) (σ : ai) (Q : V → ai → Prop) (P : Value → Shared → Prop) (E : Value → Shared → Prop),
  EnvOk env sc → AOk C A k → RelG C σ s → FrameRel C env m σ s.heap → T m σ Q →
  (∀ v w σ' s', VRel C.aS s'.heap v w → RelG C σ' s' → Step no σ σ' s.heap s'.heap → Q v σ' → P w s') →
  wpAny (model C.prog C.w) A (eval e env) P E s
structure HB (C : Cx) (sc : Scope) (k : Nat) (e : Expr) (T : BT) : Prop where
 run : ∀ (env : Env) (A : Around) (s : Shared) (m : aT) (σ : ai) (Q : Bool → ai → Prop) (P : Bool → Shared → Prop) (E : Value → Shared → Prop),
  EnvOk env sc → AOk C A k → RelG C σ s → FrameRel C env m σ s.heap → T m σ Q →
  (∀ b σ' s', RelG C σ' s' → Step no σ σ' s.heap s'.heap → Q b σ' → P b s') →
  wpAny (model C.prog C.w) A (isTrue e env (eval e env)) P E s
structure HL (C : Cx) (sc : Scope) (k : Nat) (es : List Expr) (T : LT) : Prop where
 run : ∀ (env : Env) (A : Around) (s : Shared) (m : aT) (σ : ai) (pos : Pos) (Q : List V → ai → Prop) (P : List Value → Shared → Prop) (E : Value → Shared → Prop),
  EnvOk env sc → AOk C A k → RelG C σ s → FrameRel C env m σ s.heap → T m σ Q →
  (∀ vs ws σ' s', VRels C.aS s'.heap vs ws → RelG C σ' s' → Step no σ σ' s.heap s'.heap → Q vs σ' → P ws s') →
  wpAny (model C.prog C.w) A (spliced (backTo pos (starEach es env))) P E s
section
variable {C : Cx} {sc : Scope} {k : Nat}
noncomputable def atK {α : Type} (o : Option α) (F : α → Prop) : Prop := match o with | some v => F v | none => False
theorem atK.elim {α : Type} {o : Option α} {F : α → Prop} (h : atK o F) : ∃ v, o = some v ∧ F v := by
 cases o with
 | none => exact False.elim h
 | some v => exact ⟨v, rfl, h⟩
theorem atK.of {α : Type} {o : Option α} {F : α → Prop} {v : α} (h : o = some v) (q : F v) : atK o F := by rw [h]; exact q
noncomputable def isB (v : V) (F : Bool → Prop) : Prop := match v with | .bool b => F b | _ => False
theorem isB.elim {v : V} {F : Bool → Prop} (h : isB v F) : ∃ b, v = .bool b ∧ F b := by
 cases v <;> first | exact False.elim h | exact ⟨_, rfl, h⟩
noncomputable def on1 (vs : List V) (F : V → Prop) : Prop := match vs with | [a] => F a | _ => False
theorem on1.elim {vs : List V} {F : V → Prop} (h : on1 vs F) : ∃ a, vs = [a] ∧ F a := by
 rcases vs with _ | ⟨a, _ | ⟨b, r⟩⟩
 ·exact False.elim h
 ·exact ⟨a, rfl, h⟩
 ·exact False.elim h
noncomputable def on2 (vs : List V) (F : V → V → Prop) : Prop := match vs with | a :: r => on1 r (F a) | _ => False
theorem on2.elim {vs : List V} {F : V → V → Prop} (h : on2 vs F) : ∃ a b, vs = [a, b] ∧ F a b := by
 rcases vs with _ | ⟨a, r⟩
 ·exact False.elim h
 ·obtain ⟨b, rfl, h⟩ := on1.elim h; exact ⟨a, b, rfl, h⟩
noncomputable def isS (v : V) (F : Str → Prop) : Prop := match v with | .str x => F x | _ => False
theorem isS.elim {v : V} {F : Str → Prop} (h : isS v F) : ∃ x, v = .str x ∧ F x := by
 cases v <;> first | exact False.elim h | exact ⟨_, rfl, h⟩
noncomputable def isI (v : V) (F : Int → Prop) : Prop := match v with | .int x => F x | _ => False
theorem isI.elim {v : V} {F : Int → Prop} (h : isI v F) : ∃ x, v = .int x ∧ F x := by
 cases v <;> first | exact False.elim h | exact ⟨_, rfl, h⟩
noncomputable def isR (v : V) (F : Addr → Prop) : Prop := match v with | .ref x => F x | _ => False
theorem isR.elim {v : V} {F : Addr → Prop} (h : isR v F) : ∃ x, v = .ref x ∧ F x := by
 cases v <;> first | exact False.elim h | exact ⟨_, rfl, h⟩
noncomputable def isT (v : V) (F : String → Prop) : Prop := match v with | .ty x => F x | _ => False
theorem isT.elim {v : V} {F : String → Prop} (h : isT v F) : ∃ x, v = .ty x ∧ F x := by
 cases v <;> first | exact False.elim h | exact ⟨_, rfl, h⟩
noncomputable def onR (vs : List V) (F : Addr → Prop) : Prop := on1 vs fun a => isR a fun x => F x
theorem onR.elim {vs : List V} {F : Addr → Prop} (h : onR vs F) : ∃ x, vs = [.ref x] ∧ F x := by
 obtain ⟨a, rfl, h⟩ := on1.elim h
 obtain ⟨x, rfl, h⟩ := isR.elim h
 exact ⟨x, rfl, h⟩
noncomputable def onI (vs : List V) (F : Int → Prop) : Prop := on1 vs fun a => isI a fun x => F x
theorem onI.elim {vs : List V} {F : Int → Prop} (h : onI vs F) : ∃ x, vs = [.int x] ∧ F x := by
 obtain ⟨a, rfl, h⟩ := on1.elim h
 obtain ⟨x, rfl, h⟩ := isI.elim h
 exact ⟨x, rfl, h⟩
noncomputable def onB (vs : List V) (F : Bool → Prop) : Prop := on1 vs fun a => isB a fun x => F x
theorem onB.elim {vs : List V} {F : Bool → Prop} (h : onB vs F) : ∃ x, vs = [.bool x] ∧ F x := by
 obtain ⟨a, rfl, h⟩ := on1.elim h
 obtain ⟨x, rfl, h⟩ := isB.elim h
 exact ⟨x, rfl, h⟩
noncomputable def onRS (vs : List V) (F : Addr → Str → Prop) : Prop := on2 vs fun a b => isR a fun x => isS b fun y => F x y
theorem onRS.elim {vs : List V} {F : Addr → Str → Prop} (h : onRS vs F) : ∃ x y, vs = [.ref x, .str y] ∧ F x y := by
 obtain ⟨a, b, rfl, h⟩ := on2.elim h
 obtain ⟨x, rfl, h⟩ := isR.elim h
 obtain ⟨y, rfl, h⟩ := isS.elim h
 exact ⟨x, y, rfl, h⟩
noncomputable def onSS (vs : List V) (F : Str → Str → Prop) : Prop := on2 vs fun a b => isS a fun x => isS b fun y => F x y
theorem onSS.elim {vs : List V} {F : Str → Str → Prop} (h : onSS vs F) : ∃ x y, vs = [.str x, .str y] ∧ F x y := by
 obtain ⟨a, b, rfl, h⟩ := on2.elim h
 obtain ⟨x, rfl, h⟩ := isS.elim h
 obtain ⟨y, rfl, h⟩ := isS.elim h
 exact ⟨x, y, rfl, h⟩
noncomputable def onSR (vs : List V) (F : Str → Addr → Prop) : Prop := on2 vs fun a b => isS a fun x => isR b fun y => F x y
theorem onSR.elim {vs : List V} {F : Str → Addr → Prop} (h : onSR vs F) : ∃ x y, vs = [.str x, .ref y] ∧ F x y := by
 obtain ⟨a, b, rfl, h⟩ := on2.elim h
 obtain ⟨x, rfl, h⟩ := isS.elim h
 obtain ⟨y, rfl, h⟩ := isR.elim h
 exact ⟨x, y, rfl, h⟩
noncomputable def onRV (vs : List V) (F : Addr → V → Prop) : Prop := on2 vs fun a b => isR a fun x => F x b
theorem onRV.elim {vs : List V} {F : Addr → V → Prop} (h : onRV vs F) : ∃ x y, vs = [.ref x, y] ∧ F x y := by
 obtain ⟨a, b, rfl, h⟩ := on2.elim h
 obtain ⟨x, rfl, h⟩ := isR.elim h
 exact ⟨x, b, rfl, h⟩
noncomputable def onVT (vs : List V) (F : V → String → Prop) : Prop := on2 vs fun a b => isT b fun y => F a y
theorem onVT.elim {vs : List V} {F : V → String → Prop} (h : onVT vs F) : ∃ x y, vs = [x, .ty y] ∧ F x y := by
 obtain ⟨a, b, rfl, h⟩ := on2.elim h
 obtain ⟨y, rfl, h⟩ := isT.elim h
 exact ⟨a, y, rfl, h⟩
noncomputable def af (x : String) : ET := fun m σ Q => atK (m x) fun v => Q v σ
theorem ae {x : String} {pos : Pos} (h : sc.names.lookup (Str.ofString x) = some .local) (hd : (Str.ofString x == ("__debug__" : Str)) = false) : HE C sc k (.Name (Str.ofString x) pos) (af x) := by
 refine ⟨?_⟩; intro env A s m σ Q P E en ao R F q₀ hP
 obtain ⟨v, hv, q⟩ := q₀.elim
 obtain ⟨mm, hn, hm⟩ := F.ns
 obtain ⟨w, hw, hr⟩ := hm x v hv (en.of h)
 exact wpAny_Name (wpAny_loadName_local en.k (en.of h) hn hw (hP v w σ s hr R Step.refl q)) hd
theorem aP {x : String} {pos : Pos} (h : sc.names.lookup (Str.ofString x) = some .cell) (hd : (Str.ofString x == ("__debug__" : Str)) = false) : HE C sc k (.Name (Str.ofString x) pos) (af x) := by
 refine ⟨?_⟩; intro env A s m σ Q P E en ao R F q₀ hP
 obtain ⟨v, hv, q⟩ := q₀.elim
 have kk := en.of h
 rcases F.cel x v hv with z | ⟨_, c, w, h1, h2, h3⟩
 ·rw [kk] at z; cases z
 ·exact wpAny_Name (wpAny_loadName_cell en.k kk h1 h2 (hP v w σ s h3 R Step.refl q)) hd
noncomputable def ak (v : V) : ET := fun _ σ Q => Q v σ
theorem tS (O : C.Ok) {x : String} {pos : Pos} {v : V} {w : Value} (h : sc.names.lookup (Str.ofString x) = some .globalImplicit) (hg : C.mg (Str.ofString x) = some w) (hv : ∀ h, VRel C.aS h v w) (hd : (Str.ofString x == ("__debug__" : Str)) = false) :
  HE C sc k (.Name (Str.ofString x) pos) (ak v) := by
 refine ⟨?_⟩; intro env A s m σ Q P E en ao R F q hP
 exact Calls.Name_function_global en.k (en.of h) (Calls.loadGlobal_global (mg := C.mg) (by rw [en.globals]; exact O.g.keeps R.base) hg (hP v w σ s (hv _) R Step.refl q)) hd
theorem ar {i : Int} {n : Nat} {pos : Pos} : HE C sc k (.Constant (.int i) n pos) (ak (.int i)) := by
 refine ⟨?_⟩; intro env A s m σ Q P E en ao R F q hP
 exact wpAny_Constant_int (hP _ _ σ _ (.int i _) (R.tok _) (Step.refl) q)
theorem aL {x : Str} {n : Nat} {pos : Pos} : HE C sc k (.Constant (.str x) n pos) (ak (.str x)) := by
 refine ⟨?_⟩; intro env A s m σ Q P E en ao R F q hP
 exact Calls.Constant_str (hP _ _ σ _ (.str x _) (R.tok _) (Step.refl) q)
theorem cu {b : Bool} {n : Nat} {pos : Pos} : HE C sc k (.Constant (.bool b) n pos) (ak (.bool b)) := by
 refine ⟨?_⟩; intro env A s m σ Q P E en ao R F q hP
 exact wpAny_Constant_bool (hP _ _ σ _ (.bool b) R (Step.refl) q)
theorem dK {n : Nat} {pos : Pos} : HE C sc k (.Constant .none n pos) (ak .none) := by
 refine ⟨?_⟩; intro env A s m σ Q P E en ao R F q hP
 exact wpAny_Constant_none (hP _ _ σ _ .none R (Step.refl) q)
theorem sE (O : C.Ok) {x n : String} {pos : Pos} (h : sc.names.lookup (Str.ofString x) = some .globalImplicit) (hg : C.mg (Str.ofString x) = Option.none) (hb : C.mb (Str.ofString x) = some (.type n)) (hd : (Str.ofString x == ("__debug__" : Str)) = false) :
  HE C sc k (.Name (Str.ofString x) pos) (ak (.ty n)) := by
 refine ⟨?_⟩; intro env A s m σ Q P E en ao R F q hP
 exact Calls.Name_function_global en.k (en.of h) (Calls.loadGlobal_builtin (mg := C.mg) (mb := C.mb) (by rw [en.globals]; exact O.g.keeps R.base) hg (by rw [en.builtins]; exact O.b.keeps R.base) hb (hP _ _ σ s (.ty n) R Step.refl q)) hd
noncomputable def az : LT := fun _ σ Q => Q [] σ
noncomputable def ah (T : ET) (L : LT) : LT := fun m σ Q => T m σ fun v σ₁ => L m σ₁ fun vs σ₂ => Q (v :: vs) σ₂
theorem am : HL C sc k [] az := by
 refine ⟨?_⟩; intro env A s m σ pos Q P E en ao R F q hP
 exact Calls.spliced_nil (hP [] [] σ s .nil R Step.refl q)
noncomputable def gP : Expr → Bool
 | .Starred .. => false
 | _ => true
theorem bT {e : Expr} {rest : List Expr} {env : Env} (h : gP e = true) : starEach (e :: rest) env = (false, eval e env) :: starEach rest env := by
 cases e <;> first | rfl | cases h
theorem ag {e : Expr} {es : List Expr} {T : ET} {L : LT} (he : HE C sc k e T) (hl : HL C sc k es L) (hs : gP e = true) : HL C sc k (e :: es) (ah T L) := by
 refine ⟨?_⟩; intro env A s m σ pos Q P E en ao R F q hP
 rw [bT hs]
 show wpAny _ A (spliced ((false, eval e env) :: backTo pos (starEach es env))) P E s
 refine Calls.spliced_cons (he.run env A s m σ _ _ E en ao R F q fun v w σ₁ s₁ hv R₁ S₁ q₁ => ?_)
 exact hl.run env A s₁ m σ₁ pos _ _ E en ao R₁ (F.step R S₁) q₁ fun vs ws σ₂ s₂ hvs R₂ S₂ q₂ => hP _ _ σ₂ s₂ (.cons (hv.keep (S₂.tupsN R₁)) hvs) R₂ (S₁.trans S₂) q₂
noncomputable def cQ (L : LT) : ET := fun m σ Q => L m σ fun vs σ₁ => vs.length ≤ 1000 ∧ Q (.tup vs) σ₁
theorem bg {h : Heap} {o : Obj} : ∀ b o', h.get? b = some o' → (h.push o).get? b = some o' := fun _ _ e => Heap.get?_push_of_some _ e
theorem ci {es : List Expr} {L : LT} {n : Nat} {pos : Pos} (hl : HL C sc k es L) : HE C sc k (.Tuple es n pos) (cQ L) := by
 refine ⟨?_⟩; intro env A s m σ Q P E en ao R F q hP
 show wpAny _ A (do standAt pos; newTuple (← spliced (backTo pos (starEach es env)))) P E s
 refine wpAny_bind (wpAny_standAt (wpAny_bind (hl.run env A s m σ pos _ _ E en ao R F q fun vs ws σ₁ s₁ hv R₁ S₁ q₁ => ?_)))
 have hlen := hv.length
 refine wpAny_newTuple (hP _ _ σ₁ _ (.tup (ws := ws) ⟨_, Heap.get?_push_size _ rfl, rfl, _, rfl⟩ (hv.keep fun _ _ e _ => bg _ _ e)) (R₁.grow bg) (S₁.trans .push) q₁.2) (by rw [← hlen, sizeLine_eq]; exact Nat.le_trans q₁.1 (by decide))
noncomputable def dF (xs : List V) (σ : ai) (Q : V → ai → Prop) : Prop := ∀ a, σ a = none → Q (.ref a) (a8 σ a (.list xs))
noncomputable def bC (L : LT) : ET := fun m σ Q => L m σ fun vs σ₁ => vs.length ≤ 1000 ∧ dF vs σ₁ Q
theorem bv {es : List Expr} {L : LT} {pos : Pos} (hl : HL C sc k es L) : HE C sc k (.List es pos) (bC L) := by
 refine ⟨?_⟩; intro env A s m σ Q P E en ao R F q hP
 show wpAny _ A (do standAt pos; newList (← spliced (backTo pos (starEach es env)))) P E s
 refine wpAny_bind (wpAny_standAt (wpAny_bind (hl.run env A s m σ pos _ _ E en ao R F q fun vs ws σ₁ s₁ hv R₁ S₁ q₁ => ?_)))
 have hlen := hv.length
 have hn := bQ s₁.heap
 refine wpAny_newList (hP _ _ (a8 σ₁ s₁.heap.objs.size (.list vs)) _ (.ref _) (R₁.add (tk := s₁.toks) bg hn ⟨Nat.le_trans q₁.1 (by decide), ws, ⟨_, Heap.get?_push_size _ rfl⟩, hv.keep fun _ _ e _ => bg _ _ e⟩) (S₁.trans .addPush) (q₁.2 _ (R₁.freshNone hn))) (by rw [← hlen, sizeLine_eq]; exact Nat.le_trans q₁.1 (by decide))
end
end Mine
end
noncomputable section
namespace Mine
open PySem
abbrev O2 := V → V → ai → (V → ai → Prop) → Prop
abbrev O1 := V → ai → (V → ai → Prop) → Prop
abbrev ub (C : Cx) (σ : ai) (s : Shared) (Q : V → ai → Prop) (P : Value → Shared → Prop) : Prop :=
 ∀ v w σ' s', VRel C.aS s'.heap v w → RelG C σ' s' → Step no σ σ' s.heap s'.heap → Q v σ' → P w s'
noncomputable def jH (C : Cx) (k : Nat) (t : Value → Value → Sem Value) (op : O2) : Prop :=
 ∀ (A : Around) (s : Shared) (σ : ai) (a b : V) (wa wb : Value) (Q : V → ai → Prop) (P E : Value → Shared → Prop), AOk C A k → RelG C σ s → VRel C.aS s.heap a wa → VRel C.aS s.heap b wb → op a b σ Q → ub C σ s Q P →
  wpAny (model C.prog C.w) A (t wa wb) P E s
noncomputable def an (op : O2) (T U : ET) : ET := fun m σ Q => T m σ fun a σ₁ => U m σ₁ fun b σ₂ => op a b σ₂ Q
section
variable {C : Cx} {sc : Scope} {k : Nat}
theorem tW {op : O2} {t : Value → Value → Sem Value} {T U : ET} {e f : Expr} (hop : jH C k t op) (he : HE C sc k e T) (hf : HE C sc k f U) {env : Env} {A : Around} {s : Shared} {m : aT} {σ : ai} {Q : V → ai → Prop} {P E : Value → Shared → Prop}
  (en : EnvOk env sc) (ao : AOk C A k) (R : RelG C σ s) (F : FrameRel C env m σ s.heap) (q : an op T U m σ Q) (hP : ub C σ s Q P) :
  wpAny (model C.prog C.w) A (eval e env) (fun a s₁ => wpAny (model C.prog C.w) A (eval f env) (fun b s₂ => wpAny (model C.prog C.w) A (t a b) P E s₂) E s₁) E s :=
 he.run env A s m σ _ _ E en ao R F q fun a wa σ₁ s₁ va R₁ S₁ q₁ =>
  hf.run env A s₁ m σ₁ _ _ E en ao R₁ (F.step R S₁) q₁ fun b wb σ₂ s₂ vb R₂ S₂ q₂ =>
   hop A s₂ σ₂ a b wa wb Q P E ao R₂ (va.keep (S₂.tupsN R₁)) vb q₂ fun v w σ' s' hv R' S' q' => hP v w σ' s' hv R' ((S₁.trans S₂).trans S') q'
theorem aB {op : O2} {o : Operator} {l r : Expr} {pos : Pos} {T U : ET} (hop : jH C k (binaryOp o) op) (hl : HE C sc k l T) (hr : HE C sc k r U) : HE C sc k (.BinOp l o r pos) (an op T U) := by
 refine ⟨?_⟩; intro env A s m σ Q P E en ao R F q hP
 exact wpAny_BinOp (tW hop hl hr en ao R F q hP)
theorem fI {op : O2} {o : CmpOp} {l r : Expr} {pos : Pos} {T U : ET} (hop : jH C k (compareOp o) op) (hl : HE C sc k l T) (hr : HE C sc k r U) (hm : behindInMarks o r = false) : HE C sc k (.Compare l [o] [r] pos) (an op T U) := by
 refine ⟨?_⟩; intro env A s m σ Q P E en ao R F q hP
 exact wpAny_Compare1 (tW hop hl hr en ao R F q hP) hm
noncomputable def aE (T : ET) : BT := fun m σ Q => T m σ fun v σ' => isB v fun b => Q b σ'
theorem aO {op : O2} {o : CmpOp} {l r : Expr} {pos : Pos} {T U : ET} (hop : jH C k (compareOp o) op) (hl : HE C sc k l T) (hr : HE C sc k r U) (hm : behindInMarks o r = false) : HB C sc k (.Compare l [o] [r] pos) (aE (an op T U)) := by
 refine ⟨?_⟩; intro env A s m σ Q P E en ao R F q hP
 refine wpAny_isTrue_Compare1 (tW (P := fun c s₃ => wpAny _ A (truthy c) P E s₃) hop hl hr en ao R F q fun v w σ' s' hv R' S' q' => ?_) hm
 replace q' := q'.elim
 obtain ⟨b, rfl, q'⟩ := q'
 cases hv
 exact wpAny_truthy_bool (hP b σ' s' R' S' q')
noncomputable def rc (o1 o2 : O2) (T U W : ET) : BT := fun m σ Q => T m σ fun a σ₁ => U m σ₁ fun b σ₂ => o1 a b σ₂ fun v σ₃ => isB v fun x => if x then W m σ₃ fun c σ₄ => o2 b c σ₄ fun u σ₅ => isB u fun y => Q y σ₅ else Q false σ₃
theorem tV {p1 p2 : O2} {o1 o2 : CmpOp} {l r z : Expr} {pos : Pos} {T U W : ET} (h1 : jH C k (compareOp o1) p1) (h2 : jH C k (compareOp o2) p2) (hl : HE C sc k l T) (hr : HE C sc k r U) (hz : HE C sc k z W) (hm : behindInMarks o2 z = false) :
  HB C sc k (.Compare l [o1, o2] [r, z] pos) (rc p1 p2 T U W) := by
 refine ⟨?_⟩; intro env A s m σ Q P E en ao R F q hP
 show wpAny _ A (do testChain pos (← eval l env) [o1, o2] [eval r env, markedBehindIn o2 z (eval z env)]) P E s
 rw [markedBehindIn_of_false hm]
 refine wpAny_bind (hl.run env A s m σ _ _ E en ao R F q fun a wa σ₁ s₁ va R₁ S₁ q₁ => ?_)
 show wpAny _ A (do
  let rv ← holding [wa] (eval r env)
  standAt pos
  let c ← holding [wa, rv] (compareOp o1 wa rv)
  release [wa, rv] [c]
  if ← holding [c, rv] (truthy c) then testChain pos rv [o2] [eval z env] else pure false) P E s₁
 refine wpAny_bind (wpAny_holding (hr.run env A s₁ m σ₁ _ _ E en ao R₁ (F.step R S₁) q₁ fun b wb σ₂ s₂ vb R₂ S₂ q₂ => ?_))
 refine wpAny_bind (wpAny_standAt (wpAny_bind (wpAny_holding ?_)))
 refine h1 A s₂ σ₂ a b wa wb _ _ E ao R₂ (va.keep (S₂.tupsN R₁)) vb q₂ fun v w σ₃ s₃ hv R₃ S₃ q₃ => ?_
 replace q₃ := q₃.elim
 obtain ⟨x, rfl, q₃⟩ := q₃
 cases hv
 refine wpAny_bind ?_
 intro Γ p hΓ
 rw [Sem.wp_release]
 refine wpAny_bind (wpAny_holding (wpAny_truthy_bool ?_))
 have S₁₃ := (S₁.trans S₂).trans S₃
 cases x with
 | false => exact wpAny_pure (hP false σ₃ s₃ R₃ S₁₃ (by simpa using q₃))
 | true =>
  simp only [if_true] at q₃ ⊢
  show wpAny _ A (do
   let rv ← holding [wb] (eval z env)
   standAt pos
   let c ← operate [wb, rv] (compareOp o2 wb rv)
   holding [c] (truthy c)) P E s₃
  refine wpAny_bind (wpAny_holding (hz.run env A s₃ m σ₃ _ _ E en ao R₃ (F.step R S₁₃) q₃ fun c wc σ₄ s₄ vc R₄ S₄ q₄ => ?_))
  refine wpAny_bind (wpAny_standAt (wpAny_bind (wpAny_operating ?_)))
  refine h2 A s₄ σ₄ b c wb wc _ _ E ao R₄ ((vb.keep (S₃.tupsN R₂)).keep (S₄.tupsN R₃)) vc q₄ fun v w σ₅ s₅ hv R₅ S₅ q₅ => ?_
  replace q₅ := q₅.elim
  obtain ⟨y, rfl, q₅⟩ := q₅
  cases hv
  exact wpAny_holding (wpAny_truthy_bool (hP y σ₅ s₅ R₅ ((S₁₃.trans S₄).trans S₅) q₅))
theorem fJ {e : Expr} {T : ET} (he : HE C sc k e T) (hi : ∀ env whole, isTrue e env whole = (do let v ← whole; standAt e.pos; holding [v] (truthy v))) : HB C sc k e (aE T) := by
 refine ⟨?_⟩; intro env A s m σ Q P E en ao R F q hP
 refine wpAny_isTrue_value (he.run env A s m σ _ _ E en ao R F q fun v w σ' s' hv R' S' q' => ?_) (hi env _)
 replace q' := q'.elim
 obtain ⟨b, rfl, q'⟩ := q'
 cases hv
 exact wpAny_truthy_bool (hP b σ' s' R' S' q')
noncomputable def nf (T : BT) : BT := fun m σ Q => T m σ fun b σ' => Q (!b) σ'
theorem sG {e : Expr} {pos : Pos} {T : BT} (he : HB C sc k e T) : HB C sc k (.UnaryOp .Not e pos) (nf T) := by
 refine ⟨?_⟩; intro env A s m σ Q P E en ao R F q hP
 exact wpAny_isTrue_Not (he.run env A s m σ _ _ E en ao R F q fun b σ' s' R' S' q' => hP (!b) σ' s' R' S' q')
structure HBs (C : Cx) (sc : Scope) (k : Nat) (op : BoolOp) (es : List Expr) (T : BT) : Prop where
 run : ∀ (env : Env) (A : Around) (s : Shared) (m : aT) (σ : ai) (Q : Bool → ai → Prop) (P : Bool → Shared → Prop) (E : Value → Shared → Prop),
  EnvOk env sc → AOk C A k → RelG C σ s → FrameRel C env m σ s.heap → T m σ Q →
  (∀ b σ' s', RelG C σ' s' → Step no σ σ' s.heap s'.heap → Q b σ' → P b s') →
  wpAny (model C.prog C.w) A (allTrue op es env) P E s
noncomputable def tT : BT := fun _ σ Q => Q true σ
noncomputable def tF : BT := fun _ σ Q => Q false σ
noncomputable def dD (T U : BT) : BT := fun m σ Q => T m σ fun b σ' => if b then U m σ' Q else Q false σ'
noncomputable def i5 (T U : BT) : BT := fun m σ Q => T m σ fun b σ' => if b then Q true σ' else U m σ' Q
theorem ee : HBs C sc k .And [] tT := ⟨fun _ _ s _ σ _ _ _ _ _ R _ q hP => wpAny_allTrue_And_nil (hP true σ s R Step.refl q)⟩
theorem fi : HBs C sc k .Or [] tF := ⟨fun _ _ s _ σ _ _ _ _ _ R _ q hP => wpAny_allTrue_Or_nil (hP false σ s R Step.refl q)⟩
theorem dk {e : Expr} {es : List Expr} {T U : BT} (he : HB C sc k e T) (hs : HBs C sc k .And es U) : HBs C sc k .And (e :: es) (dD T U) := by
 refine ⟨?_⟩; intro env A s m σ Q P E en ao R F q hP
 refine wpAny_allTrue_And_cons (he.run env A s m σ _ _ E en ao R F q fun b σ' s' R' S' q' => ?_)
 cases b with
 | false => simpa using hP false σ' s' R' S' (by simpa using q')
 | true => simp only [if_true] at q' ⊢; exact hs.run env A s' m σ' Q P E en ao R' (F.step R S') q' fun b σ₂ s₂ R₂ S₂ q₂ => hP b σ₂ s₂ R₂ (S'.trans S₂) q₂
theorem eE {e : Expr} {es : List Expr} {T U : BT} (he : HB C sc k e T) (hs : HBs C sc k .Or es U) : HBs C sc k .Or (e :: es) (i5 T U) := by
 refine ⟨?_⟩; intro env A s m σ Q P E en ao R F q hP
 refine wpAny_allTrue_Or_cons (he.run env A s m σ _ _ E en ao R F q fun b σ' s' R' S' q' => ?_)
 cases b with
 | true => simpa using hP true σ' s' R' S' (by simpa using q')
 | false => simp only [Bool.false_eq_true, if_false] at q' ⊢; exact hs.run env A s' m σ' Q P E en ao R' (F.step R S') q' fun b σ₂ s₂ R₂ S₂ q₂ => hP b σ₂ s₂ R₂ (S'.trans S₂) q₂
theorem b7 {op : BoolOp} {es : List Expr} {pos : Pos} {T : BT} (h : HBs C sc k op es T) : HB C sc k (.BoolOp op es pos) T := by
 refine ⟨?_⟩; intro env A s m σ Q P E en ao R F q hP
 exact wpAny_isTrue_BoolOp (h.run env A s m σ Q P E en ao R F q hP)
structure HVs (C : Cx) (sc : Scope) (k : Nat) (op : BoolOp) (es : List Expr) (T : ET) : Prop where
 run : ∀ (env : Env) (A : Around) (s : Shared) (m : aT) (σ : ai) (pos : Pos) (Q : V → ai → Prop) (P : Value → Shared → Prop) (E : Value → Shared → Prop),
  EnvOk env sc → AOk C A k → RelG C σ s → FrameRel C env m σ s.heap → T m σ Q → ub C σ s Q P → wpAny (model C.prog C.w) A (boolOp pos op (evalEach es env)) P E s
theorem tP {op : BoolOp} {e : Expr} {T : ET} (he : HE C sc k e T) : HVs C sc k op [e] T := by
 refine ⟨?_⟩; intro env A s m σ pos Q P E en ao R F q hP
 exact he.run env A s m σ Q P E en ao R F q hP
noncomputable def tG (T U : ET) : ET := fun m σ Q => T m σ fun v σ' => isB v fun b => if b then U m σ' Q else Q (.bool false) σ'
theorem pZ {e f : Expr} {es : List Expr} {T U : ET} (he : HE C sc k e T) (hs : HVs C sc k .And (f :: es) U) : HVs C sc k .And (e :: f :: es) (tG T U) := by
 refine ⟨?_⟩; intro env A s m σ pos Q P E en ao R F q hP
 show wpAny _ A (do
  let v ← eval e env
  standAt pos
  let t ← holding [v] (truthy v)
  match BoolOp.And, t with
  | .And, false | .Or, true => pure v
  | _, _ => boolOp pos .And (evalEach (f :: es) env)) P E s
 refine wpAny_bind (he.run env A s m σ _ _ E en ao R F q fun v w σ' s' hv R' S' q' => wpAny_bind (wpAny_standAt (wpAny_bind (wpAny_holding ?_))))
 replace q' := q'.elim
 obtain ⟨b, rfl, q'⟩ := q'
 cases hv
 refine wpAny_truthy_bool ?_
 cases b with
 | false => exact wpAny_pure (hP _ _ σ' s' (.bool false) R' S' (by simpa using q'))
 | true => simp only [if_true] at q'; exact hs.run env A s' m σ' pos Q P E en ao R' (F.step R S') q' fun v w σ₂ s₂ hv R₂ S₂ q₂ => hP v w σ₂ s₂ hv R₂ (S'.trans S₂) q₂
theorem qS {op : BoolOp} {es : List Expr} {pos : Pos} {T : ET} (h : HVs C sc k op es T) : HE C sc k (.BoolOp op es pos) T := by
 refine ⟨?_⟩; intro env A s m σ Q P E en ao R F q hP
 exact h.run env A s m σ pos Q P E en ao R F q hP
theorem sC {op : O2} {value slice : Expr} {pos : Pos} {T U : ET} (hv : HE C sc k value T) (hi : HE C sc k slice U)
  (hop : jH C k (fun o i => getitemInPython o >>= fun b => subscripted slice b o i) op) : HE C sc k (.Subscript value slice pos) (an op T U) := by
 refine ⟨?_⟩; intro env A s m σ Q P E en ao R F q hP
 show wpAny _ A (do
  let o ← eval value env
  let i ← holding [o] (eval slice env)
  standAt pos
  let r ← subscripted slice (← getitemInPython o) o i
  letTemporaryGo value o r
  pure r) P E s
 refine wpAny_bind (wpAny_mono (tW (P := P) (E := E) hop hv hi en ao R F q hP) (fun o s₁ h₁ => wpAny_bind (wpAny_holding (wpAny_mono h₁ (fun i s₂ h₂ => wpAny_bind (wpAny_standAt ?_)) fun _ _ x => x))) fun _ _ x => x)
 have h₃ : wpAny (model C.prog C.w) A ((getitemInPython o >>= fun b => subscripted slice b o i) >>= fun r => letTemporaryGo value o r >>= fun _ => pure r) P E s₂ :=
  wpAny_bind (wpAny_mono h₂ (fun r s₃ hr => wpAny_bind (wpAny_letTemporaryGo (wpAny_pure hr))) fun _ _ x => x)
 rwa [bind_assoc] at h₃
end
end Mine
end
noncomputable section
namespace Mine
open PySem
noncomputable def ey (i : Int) : Prop := i.natAbs < 2 ^ 64
theorem u3 {i : Int} {n : Nat} (h : 0 < i) (h2 : i < n) : i.natAbs < n := by obtain ⟨m, rfl⟩ := Int.eq_ofNat_of_zero_le (Int.le_of_lt h); exact Int.ofNat_lt.mp h2
theorem hO {i : Int} (h : ey i) : Builtin.Int.intBits i ≤ 64 := by
 unfold Builtin.Int.intBits
 split
 ·decide
 ·rename_i hn
  have h0 : i.natAbs ≠ 0 := by
   intro e
   have : i = 0 := Int.natAbs_eq_zero.mp e
   simp [this] at hn
  have := (Nat.log2_lt h0).mpr h
  exact this
theorem gR {α : Type} [DecidableEq α] (a b : α) : (a == b) = decide (a = b) := by
 by_cases h : a = b
 ·subst h; simp
 ·simp [h]
section
variable {C : Cx} {k : Nat}
noncomputable def nw : O2
 | .int x, .int y, σ, Q => Q (.int (x - y)) σ
 | _, _, _, _ => False
theorem rG : jH C k (binaryOp .Sub) nw := by
 intro A s σ a b wa wb Q P E ao R va vb q hP
 cases a <;> first | exact q.elim | skip
 cases b <;> first | exact q.elim | skip
 cases va; cases vb
 exact _root_.PySem.P.sub_int (hP _ _ σ _ (.int _ _) (R.tok _) Step.refl q)
noncomputable def a6 : O2
 | .int x, .int y, σ, Q => 0 < y ∧ Q (.int (x % y)) σ
 | _, _, _, _ => False
theorem aZ : jH C k (binaryOp .Mod) a6 := by
 intro A s σ a b wa wb Q P E ao R va vb q hP
 cases a <;> first | exact q.elim | skip
 cases b <;> first | exact q.elim | skip
 cases va; cases vb
 rename_i x t y u
 obtain ⟨hy, q⟩ := q
 refine PyProof.Rows.mod_int' (by exact Int.ne_of_gt hy) ?_
 rw [Int.fmod_eq_emod_of_nonneg _ (by exact Int.le_of_lt hy)]
 exact hP _ _ σ _ (.int _ _) (R.tok _) Step.refl q
noncomputable def bL : O2
 | .int x, .int y, σ, Q => (0 < y ∧ y < 1073741824) ∧ Q (.int (x / y)) σ
 | _, _, _, _ => False
theorem bI : jH C k (binaryOp .FloorDiv) bL := by
 intro A s σ a b wa wb Q P E ao R va vb q hP
 cases a <;> first | exact q.elim | skip
 cases b <;> first | exact q.elim | skip
 cases va; cases vb
 obtain ⟨hy, q⟩ := q
 refine PyProof.Rows.floordiv_int (by exact Int.ne_of_gt hy.1) ?_ (.inl (PyProof.noPylong_small (u3 (n := 1073741824) hy.1 hy.2)))
 rw [Int.fdiv_eq_ediv_of_nonneg _ (by exact Int.le_of_lt hy.1)]
 exact hP _ _ σ _ (.int _ _) (R.tok _) Step.refl q
noncomputable def hJ : O2
 | .int x, .int y, σ, Q => (ey x ∨ ey y) ∧ Q (.int (x * y)) σ
 | _, _, _, _ => False
theorem gi : jH C k (binaryOp .Mult) hJ := by
 intro A s σ a b wa wb Q P E ao R va vb q hP
 cases a <;> first | exact q.elim | skip
 cases b <;> first | exact q.elim | skip
 cases va; cases vb
 refine _root_.PySem.P.mul_int (hP _ _ σ _ (.int _ _) (R.tok _) Step.refl q.2) (q.1.elim (fun h => .of_left (hO h)) fun h => ?_)
 exact .of_right (hO h)
noncomputable def rC : O2
 | .int x, .int y, σ, Q => Q (.bool (decide (x < y))) σ
 | _, _, _, _ => False
noncomputable def rD : O2
 | .int x, .int y, σ, Q => Q (.bool (decide (x > y))) σ
 | _, _, _, _ => False
theorem rI : jH C k (compareOp .Lt) rC := by
 intro A s σ a b wa wb Q P E ao R va vb q hP
 cases a <;> first | exact q.elim | skip
 cases b <;> first | exact q.elim | skip
 cases va; cases vb
 exact _root_.PySem.P.lt_int (hP _ _ σ _ (.bool _) R Step.refl q)
theorem t6 : jH C k (compareOp .Gt) rD := by
 intro A s σ a b wa wb Q P E ao R va vb q hP
 cases a <;> first | exact q.elim | skip
 cases b <;> first | exact q.elim | skip
 cases va; cases vb
 exact _root_.PySem.P.gt_int (hP _ _ σ _ (.bool _) R Step.refl q)
noncomputable def veq0 : V → V → Option Bool
 | .none, .none => some true
 | .none, .str _ => some false
 | .str _, .none => some false
 | .bool a, .bool b => some (a == b)
 | .int a, .int b => some (decide (a = b))
 | .str a, .str b => some (decide (a = b))
 | _, _ => none
theorem veq0.ind {a b : V} {r : Bool} (h : veq0 a b = some r) {P : V → V → Bool → Prop} (c1 : P .none .none true) (c2 : ∀ y, P .none (.str y) false) (c3 : ∀ x, P (.str x) .none false)
  (c4 : ∀ x y, P (.bool x) (.bool y) (x == y)) (c5 : ∀ x y, P (.int x) (.int y) (decide (x = y))) (c6 : ∀ x y, P (.str x) (.str y) (decide (x = y))) : P a b r := by
 have w : ∀ {X : Prop}, (Option.none : Option Bool) = some r → X := fun e => by cases e
 have z : ∀ {c : Bool}, some c = some r → P a b c → P a b r := fun e => Option.some.inj e ▸ id
 cases a <;> first | exact w h | skip
 all_goals (cases b <;> first | exact w h | exact z h c1 | exact z h (c2 _) | exact z h (c3 _) | exact z h (c4 _ _) | exact z h (c5 _ _) | exact z h (c6 _ _))
noncomputable def bk : O2 := fun a b σ Q => atK (veq0 a b) fun r => Q (.bool r) σ
noncomputable def cb : O2 := fun a b σ Q => atK (veq0 a b) fun r => Q (.bool (!r)) σ
theorem bz : jH C k (compareOp .Eq) bk := by
 intro A s σ a b wa wb Q P E ao R va vb q₀ hP
 obtain ⟨r, hr, q⟩ := q₀.elim
 clear q₀
 revert va vb q
 refine veq0.ind hr (P := fun a b r => VRel C.aS s.heap a wa → VRel C.aS s.heap b wb → Q (.bool r) σ → wpAny (model C.prog C.w) A (compareOp .Eq wa wb) P E s) ?_ ?_ ?_ ?_ ?_ ?_ <;> intros <;> rename_i va vb q <;> cases va <;> cases vb
 ·exact PySem.EqNone.eq_none_none (hP _ _ σ _ (.bool _) R Step.refl q)
 ·exact PySem.EqNone.eq_none_str (hP _ _ σ _ (.bool _) R Step.refl q)
 ·exact PySem.EqNone.eq_str_none (hP _ _ σ _ (.bool _) R Step.refl q)
 ·exact PyProof.Rows.eq_bool (hP _ _ σ _ (.bool _) R Step.refl q)
 ·exact _root_.PySem.P.eq_int (by rw [gR]; exact hP _ _ σ _ (.bool _) R Step.refl q)
 ·exact PyProof.Rows.eq_str (hP _ _ σ _ (.bool _) R Step.refl (by rw [gR]; exact q))
theorem ii : jH C k (compareOp .NotEq) cb := by
 intro A s σ a b wa wb Q P E ao R va vb q₀ hP
 obtain ⟨r, hr, q⟩ := q₀.elim
 clear q₀
 revert va vb q
 refine veq0.ind hr (P := fun a b r => VRel C.aS s.heap a wa → VRel C.aS s.heap b wb → Q (.bool !r) σ → wpAny (model C.prog C.w) A (compareOp .NotEq wa wb) P E s) ?_ ?_ ?_ ?_ ?_ ?_ <;> intros <;> rename_i va vb q <;> cases va <;> cases vb
 ·exact PySem.EqNone.ne_none_none (hP _ _ σ _ (.bool _) R Step.refl q)
 ·exact PySem.EqNone.ne_none_str (hP _ _ σ _ (.bool _) R Step.refl q)
 ·exact PySem.EqNone.ne_str_none (hP _ _ σ _ (.bool _) R Step.refl q)
 ·exact PyProof.Rows.ne_bool (hP _ _ σ _ (.bool _) R Step.refl q)
 ·exact _root_.PySem.P.ne_int (hP _ _ σ _ (.bool _) R Step.refl (by rw [bne, gR]; exact q))
 ·exact PyProof.Rows.ne_str (hP _ _ σ _ (.bool _) R Step.refl (by rw [bne, gR]; exact q))
end
end Mine
end
noncomputable section
namespace Mine
open PySem
theorem cF {a b : String} (h : Str.ofString a = Str.ofString b) : a = b := by
 rw [Str.ofString_eq_toList, Str.ofString_eq_toList] at h
 have h1 : (a.toList.map Char.toNat) = (b.toList.map Char.toNat) := by
  have := congrArg (fun x : Str => x.cps.toList) h
  simpa using this
 have h2 : a.toList = b.toList := by
  refine (List.map_inj_right ?_).mp h1
  intro x y e
  exact Char.toNat_inj.mp e
 exact String.toList_inj.mp h2
inductive Fl where
 | next | brk | cont
 | ret (v : V)
abbrev ST := aT → ai → (Fl → aT → ai → Prop) → Prop
inductive FlRel (aS : Addr) (h : Heap) : Fl → Flow → Prop
 | next : FlRel aS h .next .next
 | brk : FlRel aS h .brk .brk
 | cont : FlRel aS h .cont .cont
 | ret {v : V} {w : Value} : VRel aS h v w → FlRel aS h (.ret v) (.ret w)
abbrev sI (C : Cx) (env : Env) (σ : ai) (s : Shared) (Q : Fl → aT → ai → Prop) (P : Flow → Shared → Prop) : Prop :=
 ∀ f g m' σ' s', FlRel C.aS s'.heap f g → RelG C σ' s' → FrameRel C env m' σ' s'.heap → Step (i6 env) σ σ' s.heap s'.heap → Q f m' σ' → P g s'
structure HS (C : Cx) (sc : Scope) (k : Nat) (b : List Stmt) (T : ST) : Prop where
 run : ∀ (env : Env) (A : Around) (s : Shared) (m : aT) (σ : ai) (Q : Fl → aT → ai → Prop) (P : Flow → Shared → Prop) (E : Value → Shared → Prop),
  EnvOk env sc → AOk C A k → RelG C σ s → FrameRel C env m σ s.heap → T m σ Q → sI C env σ s Q P → wpAny (model C.prog C.w) A (execs b env) P E s
structure HS1 (C : Cx) (sc : Scope) (k : Nat) (b : Stmt) (T : ST) : Prop where
 run : ∀ (env : Env) (A : Around) (s : Shared) (m : aT) (σ : ai) (Q : Fl → aT → ai → Prop) (P : Flow → Shared → Prop) (E : Value → Shared → Prop),
  EnvOk env sc → AOk C A k → RelG C σ s → FrameRel C env m σ s.heap → T m σ Q → sI C env σ s Q P → wpAny (model C.prog C.w) A (exec b env) P E s
section
variable {C : Cx} {sc : Scope} {k : Nat}
theorem FrameRel.ownT {env : Env} {m : aT} {σ : ai} {h : Heap} (F : FrameRel C env m σ h) : ∀ b o, i6 env b → h.get? b = some o → ¬ ld o := by
 rintro b o (rfl | ⟨n, hn⟩) ho ⟨_, it, n', hd⟩
 ·obtain ⟨mm, ⟨o', es, ep, ho', hd', _⟩, _⟩ := F.ns
  rw [ho] at ho'; cases ho'; rw [hd] at hd'; cases hd'
 ·obtain ⟨v, o', ho', hd'⟩ := F.cells n b hn
  rw [ho] at ho'; cases ho'; rw [hd] at hd'; cases hd'
theorem Step.tupsO {env : Env} {m : aT} {σ σ' : ai} {s : Shared} {h' : Heap} (F : FrameRel C env m σ s.heap) (R : RelG C σ s) (S : Step (i6 env) σ σ' s.heap h') : bb s.heap h' := S.tups R F.ownT
theorem Step.own {env : Env} {σ σ' : ai} {h h' : Heap} (S : Step no σ σ' h h') : Step (i6 env) σ σ' h h' := S.mono fun _ _ _ z => z.elim
noncomputable def aA : ST := fun m σ Q => Q .next m σ
noncomputable def au (T U : ST) : ST := fun m σ Q => T m σ fun f m₁ σ₁ => match f with
 | .next => U m₁ σ₁ Q
 | f => Q f m₁ σ₁
theorem av : HS C sc k [] aA := ⟨fun _ _ s m σ _ _ _ _ _ R F q hP => wpAny_execs_nil (hP .next .next m σ s .next R F Step.refl q)⟩
theorem aj {st : Stmt} {b : List Stmt} {T U : ST} (h1 : HS1 C sc k st T) (h2 : HS C sc k b U) : HS C sc k (st :: b) (au T U) := by
 refine ⟨?_⟩; intro env A s m σ Q P E en ao R F q hP
 refine wpAny_execs_cons (h1.run env A s m σ _ _ E en ao R F q fun f g m₁ σ₁ s₁ hf R₁ F₁ S₁ q₁ => ?_)
 cases hf with
 | next => exact h2.run env A s₁ m₁ σ₁ Q P E en ao R₁ F₁ q₁ fun f g m₂ σ₂ s₂ hf R₂ F₂ S₂ q₂ => hP f g m₂ σ₂ s₂ hf R₂ F₂ (S₁.trans S₂) q₂
 | brk => exact hP _ _ m₁ σ₁ s₁ .brk R₁ F₁ S₁ q₁
 | cont => exact hP _ _ m₁ σ₁ s₁ .cont R₁ F₁ S₁ q₁
 | ret hv => exact hP _ _ m₁ σ₁ s₁ (.ret hv) R₁ F₁ S₁ q₁
theorem cy {env : Env} {A : Around} {s : Shared} {m : aT} {σ : ai} {x : String} {v : V} {w : Value} {P : Unit → Shared → Prop} {E : Value → Shared → Prop} (en : EnvOk env sc) (R : RelG C σ s) (F : FrameRel C env m σ s.heap)
  (hl : sc.names.lookup (Str.ofString x) = some .local) (hv : VRel C.aS s.heap v w)
  (h : ∀ s', RelG C σ s' → FrameRel C env (put m x v) σ s'.heap → Step (fun b => b = env.locals) σ σ s.heap s'.heap → P () s') : wpAny (model C.prog C.w) A (storeName env (Str.ofString x) w) P E s := by
 obtain ⟨mm, hn, hm⟩ := F.ns
 have kl := en.of hl
 refine wpAny_storeName_local kl hn (fun h' hn' hs' => ?_) (by rw [en.k]; rfl)
 obtain ⟨oL, esL, epL, hoL, hdL, _⟩ := id hn
 have kt : bb s.heap h' := fun b o e ht => (hs'.2 b (by rintro rfl; rw [hoL] at e; cases e; obtain ⟨_, _, _, hd⟩ := ht; rw [hdL] at hd; cases hd)).trans e
 have kc : ∀ c v, s.heap.IsCell c v → h'.IsCell c v := fun c v ⟨o, ho, hd⟩ => ⟨o, (hs'.2 c (by rintro rfl; rw [hoL] at ho; cases ho; rw [hdL] at hd; cases hd)).trans ho, hd⟩
 refine h _ ?_ ?_ ?_
 ·refine ⟨let ⟨_, _, d, e⟩ := R.rest; ⟨h', s.toks + 1, d, by rw [e]⟩, fun b o e => ?_, fun a o e => ?_, R.apart⟩
  ·exact (hs'.2 b (by rintro rfl; rw [F.baseL] at e; cases e)).trans (R.base b o e)
  ·exact (R.view a o e).keep kt fun o' e' => (hs'.2 a (by rintro rfl; rw [F.sepL] at e; cases e)).trans e'
 ·refine ⟨⟨_, hn', fun y u e ky => ?_⟩, fun y u e => ?_, fun n c e => ?_, F.sepL, F.baseL, F.baseC, F.dist, F.has⟩
  ·by_cases hy : y = x
   ·subst hy; rw [j5] at e; cases e; exact ⟨w, by simp, hv.keep kt⟩
   ·rw [fp hy] at e
    obtain ⟨w', h1, h2⟩ := hm y u e ky
    exact ⟨w', by simp [show ¬ Str.ofString y = Str.ofString x from fun z => hy (cF z), h1], h2.keep kt⟩
  ·by_cases hy : y = x
   ·subst hy; exact .inl kl
   ·rw [fp hy] at e
    rcases F.cel y u e with z | ⟨z, c, w', h1, h2, h3⟩
    ·exact .inl z
    ·exact .inr ⟨z, c, w', h1, kc _ _ h2, h3.keep kt⟩
  ·obtain ⟨v, hv⟩ := F.cells n c e; exact ⟨v, kc _ _ hv⟩
 ·exact .of (fun b o e n q => (hs'.2 b q).trans e) (Nat.le_of_eq hs'.1.symm) fun _ a b => absurd a b
theorem oJ {env : Env} {A : Around} {s : Shared} {m : aT} {σ : ai} {x : String} {v : V} {w : Value} {P : Unit → Shared → Prop} {E : Value → Shared → Prop} (en : EnvOk env sc) (R : RelG C σ s) (F : FrameRel C env m σ s.heap)
  (hl : sc.names.lookup (Str.ofString x) = some .cell) (hv : VRel C.aS s.heap v w)
  (h : ∀ s', RelG C σ s' → FrameRel C env (put m x v) σ s'.heap → Step (i6 env) σ σ s.heap s'.heap → P () s') : wpAny (model C.prog C.w) A (storeName env (Str.ofString x) w) P E s := by
 have kl := en.of hl
 obtain ⟨c₀, hc₀⟩ := F.has _ (.inl kl)
 obtain ⟨v₀, hv₀⟩ := F.cells _ _ hc₀
 refine wpAny_storeName_cell en.k kl hc₀ hv₀ fun h' hc' hs' => ?_
 obtain ⟨oc, hoc, hdc⟩ := id hv₀
 have kt : bb s.heap h' := fun b o e ht => (hs'.2 b (by rintro rfl; rw [hoc] at e; cases e; obtain ⟨_, _, _, hd⟩ := ht; rw [hdc] at hd; cases hd)).trans e
 have kc : ∀ c v, c ≠ c₀ → s.heap.IsCell c v → h'.IsCell c v := fun c v hne ⟨o, ho, hd⟩ => ⟨o, (hs'.2 c hne).trans ho, hd⟩
 obtain ⟨mm, hn, hm⟩ := F.ns
 have hL : env.locals ≠ c₀ := by
  rintro e
  obtain ⟨oL, _, _, hoL, hdL, _⟩ := hn
  rw [e, hoc] at hoL; cases hoL; rw [hdc] at hdL; cases hdL
 have hσ : σ c₀ = Option.none := by
  cases z : σ c₀ with
  | none => rfl
  | some o' => obtain ⟨ob, h1, _, h3⟩ := (R.view c₀ o' z).shape; rw [hoc] at h1; cases h1; exact absurd hdc (h3 _)
 refine h _ ?_ ?_ ?_
 ·refine ⟨let ⟨_, _, d, e⟩ := R.rest; ⟨h', s.toks, d, by rw [e]⟩, fun b o e => ?_, fun a o e => ?_, R.apart⟩
  ·exact (hs'.2 b (by rintro rfl; rw [F.baseC _ _ hc₀] at e; cases e)).trans (R.base b o e)
  ·exact (R.view a o e).keep kt fun o' e' => (hs'.2 a (by rintro rfl; rw [hσ] at e; cases e)).trans e'
 ·refine ⟨⟨mm, hn.sameBut hs' hL, fun y u e ky => ?_⟩, fun y u e => ?_, fun n c e => ?_, F.sepL, F.baseL, F.baseC, F.dist, F.has⟩
  ·have hy : y ≠ x := by rintro rfl; rw [kl] at ky; cases ky
   rw [fp hy] at e
   obtain ⟨w', h1, h2⟩ := hm y u e ky
   exact ⟨w', h1, h2.keep kt⟩
  ·by_cases hy : y = x
   ·subst hy; rw [j5] at e; cases e; exact .inr ⟨.inl kl, c₀, w, hc₀, hc', hv.keep kt⟩
   ·rw [fp hy] at e
    rcases F.cel y u e with z | ⟨z, c, w', h1, h2, h3⟩
    ·exact .inl z
    ·exact .inr ⟨z, c, w', h1, kc _ _ (by rintro rfl; exact hy (cF (name_of_addr F.dist (mem_of_lookup h1) (mem_of_lookup hc₀)))) h2, h3.keep kt⟩
  ·by_cases hc : c = c₀
   ·subst hc; exact ⟨_, hc'⟩
   ·obtain ⟨v, hv⟩ := F.cells n c e; exact ⟨v, kc _ _ hc hv⟩
 ·exact .of (fun b o e n q => (hs'.2 b fun z => q (.inr ⟨_, z ▸ hc₀⟩)).trans e) (Nat.le_of_eq hs'.1.symm) fun _ a b => absurd a b
noncomputable def xT (sc : Scope) (x : String) : Prop := sc.names.lookup (Str.ofString x) = some .local ∨ sc.names.lookup (Str.ofString x) = some .cell
theorem tX {env : Env} {A : Around} {s : Shared} {m : aT} {σ : ai} {x : String} {v : V} {w : Value} {P : Unit → Shared → Prop} {E : Value → Shared → Prop} (en : EnvOk env sc) (R : RelG C σ s) (F : FrameRel C env m σ s.heap)
  (hl : xT sc x) (hv : VRel C.aS s.heap v w)
  (h : ∀ s', RelG C σ s' → FrameRel C env (put m x v) σ s'.heap → Step (i6 env) σ σ s.heap s'.heap → P () s') : wpAny (model C.prog C.w) A (storeName env (Str.ofString x) w) P E s :=
 hl.elim (fun z => cy en R F z hv fun s' R' F' S' => h s' R' F' (S'.mono fun _ _ _ q => .inl q)) fun z => oJ en R F z hv h
noncomputable def a7 (x : String) (T : ET) : ST := fun m σ Q => T m σ fun v σ' => Q .next (put m x v) σ'
theorem aF {x : String} {p pos : Pos} {value : Expr} {T : ET} (hx : xT sc x) (he : HE C sc k value T) (hs : ∀ env, EnvOk env sc → swapsWith value (some (.Name (Str.ofString x) p)) pos.line env = pure false) : HS1 C sc k (.Assign [.Name (Str.ofString x) p] value pos) (a7 x T) := by
 refine ⟨?_⟩; intro env A s m σ Q P E en ao R F q hP
 refine wpAny_Assign_Name (he.run env A s m σ _ _ E en ao R F q fun v w σ₁ s₁ hv R₁ S₁ q₁ => ?_) (hs env en)
 exact tX en R₁ (F.step R S₁) hx hv fun s₂ R₂ F₂ S₂ => hP .next .next _ σ₁ s₂ .next R₂ F₂ ((S₁.own).trans S₂) q₁
noncomputable def ge (T : ET) : ST := fun m σ Q => T m σ fun _ σ' => Q .next m σ'
theorem dX {pos : Pos} {value : Expr} {T : ET} (he : HE C sc k value T) (hs : ∀ env, EnvOk env sc → swapsWith value Option.none pos.line env = pure false) : HS1 C sc k (.Expr value pos) (ge T) := by
 refine ⟨?_⟩; intro env A s m σ Q P E en ao R F q hP
 have hi : interactive env = false := by unfold interactive; rw [en.k]; rfl
 rw [exec_Expr env value pos hi (hs env en)]
 refine wpAny_bind (wpAny_standAt (wpAny_bind (he.run env A s m σ _ _ E en ao R F q fun v w σ₁ s₁ hv R₁ S₁ q₁ => ?_)))
 exact wpAny_dropValue (hP .next .next m σ₁ s₁ .next R₁ (F.step R S₁) S₁.own q₁)
noncomputable def b8 (B : BT) (T U : ST) : ST := fun m σ Q => B m σ fun b σ' => if b then T m σ' Q else U m σ' Q
theorem aK {pos : Pos} {test : Expr} {a b : List Stmt} {B : BT} {T U : ST} (hb : HB C sc k test B) (h1 : HS C sc k a T) (h2 : HS C sc k b U) : HS1 C sc k (.If test a b pos) (b8 B T U) := by
 refine ⟨?_⟩; intro env A s m σ Q P E en ao R F q hP
 refine wpAny_If (hb.run env A s m σ _ _ E en ao R F q fun b σ₁ s₁ R₁ S₁ q₁ => ?_)
 cases b with
 | true => simp only [if_true] at q₁ ⊢; exact h1.run env A s₁ m σ₁ Q P E en ao R₁ (F.step R S₁) q₁ fun f g m₂ σ₂ s₂ hf R₂ F₂ S₂ q₂ => hP f g m₂ σ₂ s₂ hf R₂ F₂ (S₁.own.trans S₂) q₂
 | false => simp only [Bool.false_eq_true, if_false] at q₁ ⊢; exact h2.run env A s₁ m σ₁ Q P E en ao R₁ (F.step R S₁) q₁ fun f g m₂ σ₂ s₂ hf R₂ F₂ S₂ q₂ => hP f g m₂ σ₂ s₂ hf R₂ F₂ (S₁.own.trans S₂) q₂
noncomputable def bH (T : ET) : ST := fun m σ Q => T m σ fun v σ' => Q (.ret v) m σ'
theorem aV {pos : Pos} {value : Expr} {T : ET} (he : HE C sc k value T) : HS1 C sc k (.Return (some value) pos) (bH T) := by
 refine ⟨?_⟩; intro env A s m σ Q P E en ao R F q hP
 exact wpAny_Return_some (he.run env A s m σ _ _ E en ao R F q fun v w σ₁ s₁ hv R₁ S₁ q₁ => hP (.ret v) (.ret w) m σ₁ s₁ (.ret hv) R₁ (F.step R S₁) S₁.own q₁)
end
end Mine
end
noncomputable section
namespace Mine
open PySem
abbrev cR := List V → ai → (V → ai → Prop) → Prop
noncomputable def FnSound (C : Cx) (j : Nat) (f : Addr) (spec : cR) : Prop :=
 ∀ (A : Around) (s : Shared) (σ : ai) (vs : List V) (ws : List Value) (Q : V → ai → Prop) (P : Value → Shared → Prop) (E : Value → Shared → Prop),
  AOk C A (j + 1) → RelG C σ s → VRels C.aS s.heap vs ws → spec vs σ Q → ub C σ s Q P → codeAny (model C.prog C.w) A (.call (.ref f) ⟨ws, []⟩) (fun r s' => match r with | .ok (.ret v) => P v s' | .ok _ => False | .error e => E e s') s
noncomputable def aW : aT := fun _ => Option.none
noncomputable def aM : List String → List V → aT → aT
 | x :: xs, v :: vs, m => aM xs vs (put m x v)
 | _, _, m => m
theorem b6 {x : Str} : ∀ (names : List (Str × NameKind)) (n : Nat) (acc : List (Str × Addr)), (names.lookup x = some .cell ∨ ∃ c, acc.lookup x = some c) → ∃ c, (cellsFrom n names acc).lookup x = some c
 | [], _, _, h => h.elim (fun e => by cases e) id
 | (y, q) :: r, n, acc, h => by
  unfold cellsFrom
  by_cases hq : q = .cell
  ·rw [if_pos (by simp [hq])]
   refine b6 r _ _ ?_
   by_cases hy : x = y
   ·exact .inr ⟨n, by simp [hy]⟩
   ·have hb : (x == y) = false := by simp [hy]
    refine h.imp (fun e => ?_) fun ⟨c, e⟩ => ⟨c, ?_⟩
    ·rw [List.lookup_cons, hb] at e; exact e
    ·rw [List.lookup_cons, hb]; exact e
  ·rw [if_neg (by simpa using hq)]
   refine b6 r _ _ ?_
   by_cases hy : x = y
   ·refine .inr (h.elim (fun e => ?_) id)
    rw [List.lookup_cons, show (x == y) = true by simp [hy]] at e
    exact absurd (Option.some.inj e) hq
   ·have hb : (x == y) = false := by simp [hy]
    refine h.imp (fun e => ?_) id
    rw [List.lookup_cons, hb] at e; exact e
section
variable {C : Cx}
theorem io {h : Heap} (kindOf : Str → Option NameKind) : ∀ (xs : List String) (vs : List V) (ws : List Value) (m : aT) (mL mC : Str → Option Value),
  (∀ x ∈ xs, kindOf (Str.ofString x) = some .local ∨ kindOf (Str.ofString x) = some .cell) → VRels C.aS h vs ws →
  (∀ x v, m x = some v → (kindOf (Str.ofString x) = some .local ∧ ∃ w, mL (Str.ofString x) = some w ∧ VRel C.aS h v w) ∨ (kindOf (Str.ofString x) = some .cell ∧ ∃ w, mC (Str.ofString x) = some w ∧ VRel C.aS h v w)) →
  ∀ x v, aM xs vs m x = some v → (kindOf (Str.ofString x) = some .local ∧ ∃ w, bindL kindOf ((xs.map Str.ofString).zip ws) mL (Str.ofString x) = some w ∧ VRel C.aS h v w) ∨
   (kindOf (Str.ofString x) = some .cell ∧ ∃ w, bindC kindOf ((xs.map Str.ofString).zip ws) mC (Str.ofString x) = some w ∧ VRel C.aS h v w)
 | [], _, _, _, _, _, _, _, hm => by simpa [aM, bindL, bindC] using hm
 | x :: xs, [], _, _, _, _, _, .nil, hm => by simpa [aM, bindL, bindC] using hm
 | x :: xs, v :: vs, w :: ws, m, mL, mC, hk, .cons hv hvs, hm => by
  simp only [aM, List.map_cons, List.zip_cons_cons, bindL, bindC]
  refine io kindOf xs vs ws _ _ _ (fun y hy => hk y (.tail _ hy)) hvs fun y u e => ?_
  by_cases hy : y = x
  ·subst hy
   rw [j5] at e; cases e
   rcases hk y (.head _) with z | z
   ·exact .inl ⟨z, w, by simp [z], hv⟩
   ·exact .inr ⟨z, w, by simp [z], hv⟩
  ·rw [fp hy] at e
   have hne : ¬ Str.ofString y = Str.ofString x := fun z => hy (cF z)
   rcases hm y u e with ⟨z, w', h1, h2⟩ | ⟨z, w', h1, h2⟩
   ·refine .inl ⟨z, w', ?_, h2⟩
    split <;> simp [hne, h1]
   ·refine .inr ⟨z, w', ?_, h2⟩
    split <;> simp [hne, h1]
theorem FnSound.mk (O : C.Ok) {f : Addr} {o : Obj} {fd : FuncData} {body : List Stmt} {xs : List String} {sc : Scope} {j : Nat} {spec : cR} {T : ST}
  (ho : C.hB.get? f = some o) (hd : o.data = .func fd) (hcd : C.hB.CodeRec fd.code fd.qualname) (hb : fd.body = .stmts body) (hsc : fd.scope = sc) (hcl : fd.closure = []) (hg : fd.globals = mainGlobals) (hbi : fd.builtins = builtinsNs)
  (hk : sc.kind = .function) (hfr : ∀ p ∈ sc.names, p.2 ≠ .free) (hco : sc.isCoroutine = false) (hgen : sc.isGenerator = false)
  (hbind : ∀ ws : List Value, ws.length = xs.length → bindArgs fd ⟨ws, []⟩ = pure ((xs.map Str.ofString).zip ws))
  (hloc : ∀ x ∈ xs, sc.names.lookup (Str.ofString x) = some .local ∨ sc.names.lookup (Str.ofString x) = some .cell)
  (hT : HS C sc j body T)
  (hspec : ∀ vs σ Q, spec vs σ Q → vs.length = xs.length ∧ T (aM xs vs aW) σ fun f _ σ' => match f with | .ret v => Q v σ' | .next => Q .none σ' | _ => False) : FnSound C j f spec := by
 intro A s σ vs ws Q P E ao R hvs hs hP
 subst hsc
 obtain ⟨hlen, q⟩ := hspec vs σ Q hs
 have hlw : ws.length = xs.length := by rw [← hvs.length]; exact hlen
 refine (codeAny_call_cells (fd := fd) (body := body) (binds := (xs.map Str.ofString).zip ws) (Nat.lt_of_le_of_lt (Nat.le_trans (Nat.le_add_right _ _) (Nat.le_add_right _ _)) ao.depth) (R.base _ _ ho) hd (O.nolimit.keeps R.base) (hcd.keeps R.base) hb (hbind ws hlw) hcl ?_ ?_ hco hgen hk)
 ·intro x hx
  have : x.1 ∈ xs.map Str.ofString := (List.of_mem_zip (a := x.1) (b := x.2) hx).1
  obtain ⟨y, hy, e⟩ := List.mem_map.mp this
  rw [← e]
  refine (hloc y hy).imp id fun z => ⟨z, ?_⟩
  obtain ⟨c, hc⟩ := b6 (x := Str.ofString y) fd.scope.names (s.heap.objs.size + 1) [] (.inl z)
  rw [hc]; rfl
 ·intro s₁ x
  generalize henv : callEnvC fd s.heap.objs.size f = env at x ⊢
  have eS : env.scope = fd.scope := by rw [← henv]; rfl
  have eL : env.locals = s.heap.objs.size := by rw [← henv]; rfl
  have eC : env.cells = cellsFrom (s.heap.objs.size + 1) fd.scope.names [] := by rw [← henv]; rfl
  have en : EnvOk env fd.scope := ⟨eS, hk, by rw [← henv]; exact hg, by rw [← henv]; exact hbi⟩
  obtain ⟨h₁, tk₁, e₁⟩ := x.toInCall.same
  have keep := x.toInCall.keep
  have R₁ : RelG C σ s₁ := by
   rw [e₁]
   exact R.grow (fun b o e => by have := keep b o e; rw [e₁] at this; exact this)
  have hz : s.heap.objs.size ≤ s₁.heap.objs.size := Nat.le_of_lt (by have := x.toInCall.ns.lt; rw [eL] at this; exact this)
  have kt : bb s.heap s₁.heap := fun b o e _ => keep b o e
  have vars := io (C := C) (h := s₁.heap) env.kindOf xs vs ws aW (fun _ => Option.none) (fun _ => Option.none)
   (fun y hy => by unfold Env.kindOf; rw [eS]; exact hloc y hy) (hvs.keep kt) (fun _ _ e => by cases e)
  have lookupC : ∀ n, env.kindOf n = some .cell → ∃ c, env.cells.lookup n = some c := fun n hn => by
   rw [eC]; exact b6 _ _ _ (.inl (by unfold Env.kindOf at hn; rw [eS] at hn; exact hn))
  have lookupF : ∀ n, env.kindOf n = some .cell ∨ env.kindOf n = some .free → ∃ c, env.cells.lookup n = some c := fun n hn => hn.elim (lookupC n) fun z => by
   unfold Env.kindOf at z; rw [eS] at z; exact absurd rfl (hfr _ (mem_of_lookup z))
  have fresh : ∀ c, s.heap.objs.size ≤ c → C.hB.get? c = Option.none := fun c hc => R.baseNone (aI hc)
  have F₁ : FrameRel C env (aM xs vs aW) σ s₁.heap := by
   refine ⟨⟨_, x.toInCall.ns, fun y v e ky => ?_⟩, fun y v e => ?_, fun n c hc => ?_, R.freshNone (aI (Nat.le_of_eq eL.symm)), fresh _ (Nat.le_of_eq eL.symm), fun n c hc => ?_, x.apart, lookupF⟩
   ·rcases vars y v e with ⟨_, w, h1, h2⟩ | ⟨z, _⟩
    ·exact ⟨w, h1, h2⟩
    ·rw [z] at ky; cases ky
   ·rcases vars y v e with ⟨z, _⟩ | ⟨z, w, h1, h2⟩
    ·exact .inl z
    ·obtain ⟨c, hc⟩ := lookupC _ z
     exact .inr ⟨.inl z, c, w, hc, h1 ▸ x.cell _ c hc, h2⟩
   ·exact ⟨_, x.cell n c hc⟩
   ·exact fresh c (Nat.le_of_lt (by have := x.above n c (mem_of_lookup hc); rw [eL] at this; exact this))
  refine hT.run env _ s₁ _ σ _ _ _ en ⟨by show A.handled = _; exact ao.handled, by show A.depth + 1 + 3 * j + 3 < _; exact xV ao.depth (by decide), by show A.units + 3 + 10 * j + 20 < _; exact xV ao.units (by decide)⟩ R₁ F₁ q fun fl g m' σ' s' hf R' F' S' q' => ?_
  have S₀ : Step no σ σ' s.heap s'.heap :=
   ⟨fun b o e n _ => S'.keepL b o (keep b o e) n (fun z => by
     have hlt := Heap.lt_size e
     rcases z with z | ⟨n', z⟩
     ·rw [z, eL] at hlt; exact Nat.lt_irrefl _ hlt
     ·have := x.above n' b (mem_of_lookup z); rw [eL] at this; exact Nat.lt_irrefl _ (Nat.lt_trans hlt this)),
    Nat.le_trans hz S'.size, fun b n m => Nat.le_trans hz (S'.new b n m)⟩
  cases hf with
  | next => exact hP .none .none σ' s' .none R' S₀ q'
  | ret hv => exact hP _ _ σ' s' hv R' S₀ q'
  | brk => exact q'.elim
  | cont => exact q'.elim
end
end Mine
end
noncomputable section
namespace Mine
open PySem
section
variable {C : Cx} {sc : Scope} {k : Nat}
noncomputable def aQ (es : List Expr) : Bool := es.all gP
theorem bR {es : List Expr} {env : Env} {pos : Pos} (h : aQ es = true) : (backTo pos (starEach es env)).any (·.1) = false := by
 induction es with
 | nil => rfl
 | cons e r ih =>
  simp only [aQ, List.all_cons, Bool.and_eq_true] at h
  rw [bT h.1]
  show ((false, _) :: backTo pos (starEach r env)).any (·.1) = false
  rw [List.any_cons, ih h.2]; rfl
theorem bJ {f : Value} {es : List Expr} {env : Env} {pos : Pos} {M : Model} {A : Around} {s : Shared} {Q : Args → Shared → Prop} {E : Value → Shared → Prop} (h : aQ es = true)
  (hs : wpAny M A (spliced (backTo pos (starEach es env))) (fun vs s' => Q ⟨vs, []⟩ s') E s) : wpAny M A (evalArgs f true (backTo pos (starEach es env)) []) Q E s := by
 cases es with
 | nil =>
  unfold evalArgs
  show wpAny M A (spliced [] >>= _) Q E s
  refine wpAny_bind (wpAny_mono hs (fun vs s' h' => ?_) fun _ _ x => x)
  refine wpAny_holding ?_
  exact wpAny_bind (wpAny_pure (wpAny_bind (wpAny_pure (wpAny_pure h'))))
 | cons e r =>
  simp only [aQ, List.all_cons, Bool.and_eq_true] at h
  rw [bT h.1] at hs ⊢
  exact Calls.evalArgs_plain hs
noncomputable def aC (spec : cR) (L : LT) : ET := fun m σ Q => L m σ fun vs σ' => spec vs σ' Q
theorem tU (O : C.Ok) {f : String} {a : Addr} {o : Obj} {fd : FuncData} {np pos : Pos} {es : List Expr} {L : LT} {spec : cR} {j : Nat} (hf : FnSound C j a spec) (hj : j < k)
  (hn : sc.names.lookup (Str.ofString f) = some .globalImplicit) (hg : C.mg (Str.ofString f) = some (.ref a)) (ho : C.hB.get? a = some o) (hd : o.data = .func fd) (hdb : (Str.ofString f == ("__debug__" : Str)) = false)
  (hl : HL C sc k es L) (hp : aQ es = true) : HE C sc k (.Call (.Name (Str.ofString f) np) es [] pos) (aC spec L) := by
 refine ⟨?_⟩; intro env A s m σ Q P E en ao R F q hP
 refine wpAny_Call_NameR (Calls.Name_function_global en.k (en.of hn) (Calls.loadGlobal_global (mg := C.mg) (by rw [en.globals]; exact O.g.keeps R.base) hg ?_) hdb)
 refine Calls.callWith_function (o := o) (fd := fd) (bJ hp (hl.run env A s m σ pos _ _ E en ao R F q fun vs ws σ₁ s₁ hv R₁ S₁ q₁ => ⟨⟨R₁.base _ _ ho, hd⟩, ?_⟩))
 exact wpAny_call (hf A s₁ σ₁ vs ws Q P E (ao.le hj) R₁ hv q₁ fun v w σ' s' hv' R' S' q' => hP v w σ' s' hv' R' (S₁.trans S') q')
noncomputable def lX (C : Cx) (k : Nat) (t : List Value → Sem Value) (op : cR) : Prop :=
 ∀ (A : Around) (s : Shared) (σ : ai) (vs : List V) (ws : List Value) (Q : V → ai → Prop) (P E : Value → Shared → Prop), AOk C A k → RelG C σ s → VRels C.aS s.heap vs ws → op vs σ Q → ub C σ s Q P →
  wpAny (model C.prog C.w) A (t ws) P E s
theorem d0 (O : C.Ok) {f : String} {id : String} {np pos : Pos} {es : List Expr} {L : LT} {op : cR} (hop : lX C k (fun ws => PySem.call (.builtin id) ws) op)
  (hn : sc.names.lookup (Str.ofString f) = some .globalImplicit) (hg : C.mg (Str.ofString f) = Option.none) (hb : C.mb (Str.ofString f) = some (.builtin id)) (hdb : (Str.ofString f == ("__debug__" : Str)) = false)
  (hl : HL C sc k es L) (hp : aQ es = true) : HE C sc k (.Call (.Name (Str.ofString f) np) es [] pos) (aC op L) := by
 refine ⟨?_⟩; intro env A s m σ Q P E en ao R F q hP
 refine wpAny_Call_NameR (Calls.Name_function_global en.k (en.of hn) (Calls.loadGlobal_builtin (mg := C.mg) (mb := C.mb) (by rw [en.globals]; exact O.g.keeps R.base) hg (by rw [en.builtins]; exact O.b.keeps R.base) hb ?_) hdb)
 refine Calls.callWith_builtin (bR hp) (bJ hp (hl.run env A s m σ pos _ _ E en ao R F q fun vs ws σ₁ s₁ hv R₁ S₁ q₁ => ?_))
 exact hop A s₁ σ₁ vs ws Q P E ao R₁ hv q₁ fun v w σ' s' hv' R' S' q' => hP v w σ' s' hv' R' (S₁.trans S') q'
theorem i4 (O : C.Ok) {f : String} {id : String} {np pos : Pos} {es : List Expr} {L : LT} {op : cR} (hop : lX C k (fun ws => PySem.call (.type id) ws) op)
  (hn : sc.names.lookup (Str.ofString f) = some .globalImplicit) (hg : C.mg (Str.ofString f) = Option.none) (hb : C.mb (Str.ofString f) = some (.type id)) (hdb : (Str.ofString f == ("__debug__" : Str)) = false)
  (hl : HL C sc k es L) (hp : aQ es = true) : HE C sc k (.Call (.Name (Str.ofString f) np) es [] pos) (aC op L) := by
 refine ⟨?_⟩; intro env A s m σ Q P E en ao R F q hP
 refine wpAny_Call_NameR (Calls.Name_function_global en.k (en.of hn) (Calls.loadGlobal_builtin (mg := C.mg) (mb := C.mb) (by rw [en.globals]; exact O.g.keeps R.base) hg (by rw [en.builtins]; exact O.b.keeps R.base) hb ?_) hdb)
 refine callWith_type (bR hp) (bJ hp (hl.run env A s m σ pos _ _ E en ao R F q fun vs ws σ₁ s₁ hv R₁ S₁ q₁ => ?_))
 exact hop A s₁ σ₁ vs ws Q P E ao R₁ hv q₁ fun v w σ' s' hv' R' S' q' => hP v w σ' s' hv' R' (S₁.trans S') q'
structure It (C : Cx) (k : Nat) (I : Addr) (items : List V) (inv : ai → Prop) (St : Nat → Heap → Prop) : Prop where
 frame : ∀ i h h', St i h → (∀ o, h.get? I = some o → h'.get? I = some o) → bb h h' → St i h'
 live : ∀ i h, St i h → ∃ o, h.get? I = some o ∧ ¬ ld o ∧ ∀ v, o.data ≠ .cell v
 flds : ∀ i h, St i h → ∀ o, h.get? I = some o → ∀ es ep, o.data ≠ .dict es ep
 next : ∀ (A : Around) (σ : ai) (s : Shared) (i : Nat) (v : V) (Q : Option Value → Shared → Prop) (E : Value → Shared → Prop), AOk C A k → RelG C σ s → inv σ → St i s.heap → items[i]? = some v →
  (∀ w h' tk, VRel C.aS h' v w → St (i + 1) h' → Heap.ExtBut I s.heap h' → Q (some w) { s with heap := h', toks := tk }) → wpAny (model C.prog C.w) A (pyNext (.ref I)) Q E s
 done : ∀ (A : Around) (σ : ai) (s : Shared) (Q : Option Value → Shared → Prop) (E : Value → Shared → Prop), AOk C A k → RelG C σ s → inv σ → St items.length s.heap →
  (∀ h' tk, Heap.ExtBut I s.heap h' → Q Option.none { s with heap := h', toks := tk }) → wpAny (model C.prog C.w) A (pyNext (.ref I)) Q E s
 self : ∀ (A : Around) (s : Shared) (i : Nat) (Q : Value → Shared → Prop) (E : Value → Shared → Prop), St i s.heap → Q (.ref I) s → wpAny (model C.prog C.w) A (pyIter (.ref I)) Q E s
 own : ∀ (A : Around) (s : Shared) (i : Nat) (t : Expr) (w : Value) (Q : Unit → Shared → Prop) (E : Value → Shared → Prop), St i s.heap → Q () s → wpAny (model C.prog C.w) A (letOwnedTupleGo t (.ref I) w) Q E s
abbrev IT := aT → ai → (List V → (ai → Prop) → ai → Prop) → Prop
structure HI (C : Cx) (sc : Scope) (k : Nat) (e : Expr) (T : IT) : Prop where
 run : ∀ (env : Env) (A : Around) (s : Shared) (m : aT) (σ : ai) (Q : List V → (ai → Prop) → ai → Prop) (P : Value → Shared → Prop) (E : Value → Shared → Prop),
  EnvOk env sc → AOk C A k → RelG C σ s → FrameRel C env m σ s.heap → T m σ Q →
  (∀ items inv I St σ' s', It C k I items inv St → St 0 s'.heap → s.heap.objs.size ≤ I → σ' I = Option.none → RelG C σ' s' → Step no σ σ' s.heap s'.heap → Q items inv σ' → P (.ref I) s') →
  wpAny (model C.prog C.w) A (eval e env) (fun x s₁ => wpAny (model C.prog C.w) A (pyIter x) P E s₁) E s
theorem cG {σ : ai} {s : Shared} {h' : Heap} {tk : Nat} {I : Addr} (R : RelG C σ s) (hx : Heap.ExtBut I s.heap h') (hσ : σ I = Option.none) (hb : C.hB.get? I = Option.none) (hI : ∃ o, s.heap.get? I = some o ∧ ¬ ld o ∧ ∀ v, o.data ≠ .cell v) :
  RelG C σ { s with heap := h', toks := tk } := by
 obtain ⟨oI, hoI, hT, _⟩ := hI
 have kt : bb s.heap h' := fun b o e ht => hx b o (by rintro rfl; rw [hoI] at e; cases e; exact hT ht) e
 exact ⟨let ⟨_, _, d, e⟩ := R.rest; ⟨h', tk, d, by rw [e]⟩, fun b o e => hx b o (by rintro rfl; rw [hb] at e; cases e) (R.base b o e),
  fun a o e => (R.view a o e).keep kt fun o' e' => hx a o' (by rintro rfl; rw [hσ] at e; cases e) e', R.apart⟩
theorem cg {env : Env} {m : aT} {σ : ai} {s : Shared} {h' : Heap} {I : Addr} (F : FrameRel C env m σ s.heap) (hx : Heap.ExtBut I s.heap h') (hI : ∃ o, s.heap.get? I = some o ∧ ¬ ld o ∧ ∀ v, o.data ≠ .cell v) (hL : I ≠ env.locals) : FrameRel C env m σ h' := by
 obtain ⟨oI, hoI, hT, hC⟩ := hI
 have kt : bb s.heap h' := fun b o e ht => hx b o (by rintro rfl; rw [hoI] at e; cases e; exact hT ht) e
 have kc : ∀ c v, s.heap.IsCell c v → h'.IsCell c v := fun c v ⟨o, ho, hd⟩ => ⟨o, hx c o (by rintro rfl; rw [hoI] at ho; cases ho; exact hC _ hd) ho, hd⟩
 obtain ⟨mm, hn, hm⟩ := F.ns
 refine ⟨⟨mm, hn.extBut hx (Ne.symm hL), fun y u e ky => ?_⟩, fun y u e => ?_, fun n c e => ?_, F.sepL, F.baseL, F.baseC, F.dist, F.has⟩
 ·obtain ⟨w, h1, h2⟩ := hm y u e ky; exact ⟨w, h1, h2.keep kt⟩
 ·rcases F.cel y u e with z | ⟨z, c, w', h1, h2, h3⟩
  ·exact .inl z
  ·exact .inr ⟨z, c, w', h1, kc _ _ h2, h3.keep kt⟩
 ·obtain ⟨v, hv⟩ := F.cells n c e; exact ⟨v, kc _ _ hv⟩
inductive Tgt where
 | name (x : String)
 | tup (xs : List String)
noncomputable def dB : Tgt → V → aT → Option aT
 | .name x, v, m => some (put m x v)
 | .tup xs, .tup vs, m => if xs.length = vs.length then some (aM xs vs m) else Option.none
 | .tup _, _, _ => Option.none
noncomputable def xU (loc : Bool) (env : Env) (b : Addr) : Prop := b = env.locals ∨ (loc = false ∧ ∃ n, env.cells.lookup n = some b)
structure HT (C : Cx) (sc : Scope) (k : Nat) (loc : Bool) (t : Expr) (g : Tgt) : Prop where
 run : ∀ (env : Env) (A : Around) (s : Shared) (m m' : aT) (σ : ai) (v : V) (w : Value) (P : Unit → Shared → Prop) (E : Value → Shared → Prop),
  EnvOk env sc → AOk C A k → RelG C σ s → FrameRel C env m σ s.heap → VRel C.aS s.heap v w → dB g v m = some m' →
  (∀ s', RelG C σ s' → FrameRel C env m' σ s'.heap → Step (xU loc env) σ σ s.heap s'.heap → P () s') → wpAny (model C.prog C.w) A (assign t env w) P E s
theorem aY {x : String} {pos : Pos} (hx : sc.names.lookup (Str.ofString x) = some .local) : HT C sc k true (.Name (Str.ofString x) pos) (.name x) := by
 refine ⟨?_⟩; intro env A s m m' σ v w P E en ao R F hv hb hP
 cases hb
 exact wpAny_assign_Name (cy en R F hx hv fun s' R' F' S' => hP s' R' F' (S'.mono fun _ _ _ z => .inl z))
noncomputable def fC (g : Tgt) (inv : ai → Prop) (T : ST) : List V → ST
 | [] => fun m σ Q => inv σ ∧ Q .next m σ
 | v :: r => fun m σ Q => inv σ ∧ ∃ m', dB g v m = some m' ∧ T m' σ fun f m₁ σ₁ => match f with
  | .next => fC g inv T r m₁ σ₁ Q
  | .cont => fC g inv T r m₁ σ₁ Q
  | .brk => Q .next m₁ σ₁
  | .ret u => Q (.ret u) m₁ σ₁
noncomputable def dp (g : Tgt) (I : IT) (T : ST) : ST := fun m σ Q => I m σ fun items inv σ' => fC g inv T items m σ' Q
inductive ForInv (C : Cx) (env : Env) (σ : ai) (h : Heap) (I : Addr) (items : List V) (St : Nat → Heap → Prop) (L : List V → aT → ai → Prop) (n : Nat) (s' : Shared) : Prop
 | mk (i : Nat) (m' : aT) (σ' : ai) (rest : List V) (e1 : items.drop i = rest) (e2 : i ≤ items.length) (e3 : n = rest.length + 1) (st : St i s'.heap) (hσ : σ' I = Option.none) (R : RelG C σ' s') (F : FrameRel C env m' σ' s'.heap)
   (S : Step (fun b => i6 env b ∨ b = I) σ σ' h s'.heap) (q : L rest m' σ') : ForInv C env σ h I items St L n s'
theorem bu {target iter : Expr} {body : List Stmt} {pos : Pos} {g : Tgt} {I : IT} {T : ST} {loc : Bool} (ht : HT C sc k loc target g) (hi : HI C sc k iter I) (hb : HS C sc k body T)
  (hf : ∀ env x, foldedSetIterable iter env x = pure x) : HS1 C sc k (.For target iter body [] pos) (dp g I T) := by
 refine ⟨?_⟩; intro env A s m σ Q P E en ao R F q hP
 rw [exec_For]
 refine wpAny_bind (wpAny_standAt ?_)
 have start : wpAny (model C.prog C.w) A (eval iter env) (fun x s₁ => wpAny (model C.prog C.w) A (pyIter x) (fun it s₂ => codeAny (model C.prog C.w) A (.forLoop target it body [] env) (fun r s' => match r with | .ok f => P f s' | .error e => cameBackBy (model C.prog C.w) A env E e s') s₂) E s₁) E s := by
  refine hi.run env A s m σ _ _ E en ao R F q fun items inv I St σ₀ s₀ hit st₀ hI hσ₀ R₀ S₀ q₀ => ?_
  have F₀ := F.step R S₀
  obtain ⟨mm, hn, _⟩ := F.ns
  have hIL : I ≠ env.locals := fun e => absurd hn.lt (Nat.not_lt.mpr (e ▸ hI))
  have hIb : C.hB.get? I = Option.none := R.baseNone (aI hI)
  have back : ∀ {σ' : ai} {h' : Heap}, Step (fun b => i6 env b ∨ b = I) σ σ' s.heap h' → Step (i6 env) σ σ' s.heap h' := fun S =>
   S.mono fun b o e z => z.elim id fun z => absurd (Heap.lt_size e) (Nat.not_lt.mpr (z ▸ hI))
  refine codeAny_forLoop_any
   (ForInv C env σ s.heap I items St fun rest m' σ' => fC g inv T rest m' σ' Q) ?_ _
   ⟨0, m, σ₀, items, by simp, by simp, rfl, st₀, hσ₀, R₀, F₀, S₀.mono fun _ _ _ z => z.elim, q₀⟩
  rintro n s' ⟨i, m', σ', rest, e1, e2, rfl, st, hσ', R', F', S', q'⟩
  have drew : ∀ {h' : Heap}, Heap.ExtBut I s'.heap h' → s'.heap.objs.size ≤ h'.objs.size → Step (fun b => i6 env b ∨ b = I) σ' σ' s'.heap h' := fun hx hsz =>
   .of (fun b o e _ q => hx b o (fun z => q (.inr z)) e) hsz fun _ a b => absurd a b
  cases rest with
  | nil =>
   have hil : i = items.length := iH e1 e2
   subst hil
   refine br (hit.done A σ' s' _ _ ao R' q'.1 st fun h' tk hx hsz => ?_)
   exact wpAny_execs_nil (hP .next .next m' σ' _ .next (cG (tk := tk) R' hx hσ' hIb (hit.live _ _ st)) (cg F' hx (hit.live _ _ st) hIL) (back (S'.trans (drew hx hsz))) q'.2)
  | cons v r =>
   obtain ⟨hinv, m₁, hm₁, q'⟩ := q'
   have hiv : items[i]? = some v := by
    have : (items.drop i)[0]? = some v := by rw [e1]; rfl
    simpa using this
   have hilt : i < items.length := jM e1
   refine br (hit.next A σ' s' i v _ _ ao R' hinv st hiv fun w h₁ tk₁ hv st₁ hx hsz => ?_)
   have R₁ := cG (tk := tk₁) R' hx hσ' hIb (hit.live _ _ st)
   have F₁ := cg F' hx (hit.live _ _ st) hIL
   have S₁ := S'.trans (drew hx hsz)
   refine hit.own A _ (i + 1) target w _ _ st₁ ?_
   refine ht.run env A _ m' m₁ σ' v w _ _ en ao R₁ F₁ hv hm₁ fun s₂ R₂ F₂ S₂L => ?_
   have S₂ : Step (i6 env) σ' σ' h₁ s₂.heap := S₂L.mono fun _ _ _ z => z.imp id fun z => z.2
   have S₂' : Step (fun b => i6 env b ∨ b = I) σ' σ' h₁ s₂.heap := S₂.mono fun _ _ _ z => .inl z
   have st₂ : St (i + 1) s₂.heap := hit.frame _ _ _ st₁ (fun o e => S₂.keep I o e hσ' (fun z => by
    rcases z with z | ⟨n, z⟩
    ·exact hIL z
    ·obtain ⟨u, ou, hou, hdu⟩ := F₁.cells n I z
     obtain ⟨o', ho', _, hc'⟩ := hit.live _ _ st₁
     have : ou = o' := Option.some.inj (hou.symm.trans ho')
     exact hc' u (this ▸ hdu)) (hit.flds _ _ st₁ o e)) (S₂.tupsO F₁ R₁)
   refine hb.run env A s₂ m₁ σ' _ _ _ en ao R₂ F₂ q' fun f fl m₃ σ₃ s₃ hf R₃ F₃ S₃ q₃ => ?_
   have S₃' : Step (fun b => i6 env b ∨ b = I) σ' σ₃ s₂.heap s₃.heap := S₃.mono fun _ _ _ z => .inl z
   have SS := (S₁.trans S₂').trans S₃'
   have go : fC g inv T r m₃ σ₃ Q → ∃ k', k' < (v :: r).length + 1 ∧ ForInv C env σ s.heap I items St (fun rest m' σ' => fC g inv T rest m' σ' Q) k' s₃ := fun q₃ => by
    refine ⟨r.length + 1, Nat.lt_succ_self _, i + 1, m₃, σ₃, r, ?_, hilt, rfl, ?_, ?_, R₃, F₃, SS, q₃⟩
    ·rw [← List.tail_drop, e1]; rfl
    ·refine hit.frame _ _ _ st₂ (fun o e => S₃.keep I o e hσ' (fun z => ?_) (hit.flds _ _ st₂ o e)) (S₃.tupsO F₂ R₂)
     rcases z with z | ⟨n, z⟩
     ·exact hIL z
     ·obtain ⟨u, ou, hou, hdu⟩ := F₂.cells n I z
      obtain ⟨o', ho', _, hc'⟩ := hit.live _ _ st₂
      have : ou = o' := Option.some.inj (hou.symm.trans ho')
      exact hc' u (this ▸ hdu)
    ·cases z : σ₃ I with
     | none => rfl
     | some o =>
      obtain ⟨o', ho', _⟩ := hit.live _ _ st₂
      exact absurd (Heap.lt_size ho') (Nat.not_lt.mpr (S₃.new I hσ' (by rw [z]; simp)))
   cases hf with
   | next => exact go q₃
   | cont => exact go q₃
   | brk => exact hP .next .next m₃ σ₃ s₃ .next R₃ F₃ (back SS) q₃
   | ret hv => exact hP _ _ m₃ σ₃ s₃ (.ret hv) R₃ F₃ (back SS) q₃
 refine wpAny_bind (wpAny_mono start (fun x s₁ h₁ => wpAny_bind (wpAny_of_eq (hf env x) (wpAny_bind (wpAny_standAt (wpAny_bind (wpAny_holding (wpAny_mono h₁ (fun it s₂ h₂ => wpAny_runOwn h₂) fun _ _ h' => h'))))))) fun _ _ h' => h')
end
end Mine
end
noncomputable section
namespace Mine
open PySem
noncomputable def Hd (A : Around) (h : Heap) : Prop := A.handled = none ∨ ∃ e o vs, A.handled = some (.ref e) ∧ h.get? e = some o ∧ o.data = .fields vs ∧ vs[2]? = some .none
section
variable {prog : Program} {w : World} {A : Around} {E : Value → Shared → Prop} {s : Shared}
theorem lp : entryFor table "proto.unchain" = some Builtin.«proto.unchain» := entryFor_of_fast (by kernel_rfl)
theorem lj : plainId "proto.unchain" = true := by decide +kernel
theorem mZ {e : Addr} {x : Value} {o : Obj} {vs : Array Value} {Q : Value → Shared → Prop} (ho : s.heap.get? e = some o) (hd : o.data = .fields vs) (h2 : vs[2]? = some .none) (h : Q .none s) :
  wpAny (model prog w) A (runValue (.builtin "proto.unchain" ⟨[x, .ref e, .ref e, .bool false], []⟩)) Q E s := by
 refine wpAny_runValue (codeAny_builtin lp ?_)
 rw [Around.under_plainId lj _]
 unfold Builtin.«proto.unchain»
 dsimp only
 refine wpAny_bind (wpAny_field ho hd h2 ?_)
 rw [if_pos (by decide)]
 exact wpAny_pure h
theorem tY {Q : Option Value → Shared → Prop} {P : Fin → Shared → Prop} (hh : Hd A s.heap) (h : ∀ h', (∀ b o, s.heap.get? b = some o → h'.get? b = some o) → Q none { s with heap := h' }) :
  wpAny (model prog w) A.in1 (do
    let e ← newExc (Value.type "StopIteration") []
    raiseNew e) P (fun e s' => wpAny (model prog w) A (do
     let b ← isInstance e (Value.type "StopIteration")
     if b = true then pure none else throw e) Q E s') s := by
 refine wpAny_bind ?_
 simp only [newExc, newTuple]
 refine wpAny_bind (wpAny_newObj_type ?_ (by size_fits))
 refine wpAny_bind (m := firstArgMember _ _) (wpAny_of_eq (a := Value.none) (by first | rfl | (simp only [firstArgMember]; rfl)) ?_)
 refine wpAny_newObj_type ?_ (by size_fits)
 simp only [raiseNew]
 refine wpAny_bind (wpAny_handled ?_)
 rcases hh with hh | ⟨e, o, vs, hh, ho, hd, h2⟩
 ·rw [show A.in1.handled = none from hh]
  refine wpAny_bind (wpAny_pure (wpAny_throw ?_))
  refine wpAny_bind (wpAny_isInstance (T := "StopIteration") (b := true) ⟨_, Heap.get?_push_size _ rfl, rfl⟩ isSubtype_stop ?_)
  exact wpAny_pure (h _ fun b o e => Heap.get?_push_of_some _ (Heap.get?_push_of_some _ e))
 ·rw [show A.in1.handled = some (.ref e) from hh]
  dsimp only
  have hlt := Heap.lt_size ho
  have hne : e ≠ s.heap.objs.size + 1 := Nat.ne_of_lt (Nat.lt_succ_of_lt hlt)
  rw [Heap.size_push]
  rw [if_pos (by simp [hne])]
  have ho2 := Heap.get?_push_of_some (h := s.heap.push { cls := .type "tuple", dict := none, data := .seq ([] : List Value).toArray }) { cls := .type "StopIteration", dict := none, data := .fields (#[.ref s.heap.objs.size, .none, .none, .none, .bool false, .none] ++ ownMembersOf (.type "StopIteration") []) } (Heap.get?_push_of_some _ ho)
  refine wpAny_bind (wpAny_holding (mZ ho2 hd h2 ?_))
  have hn := Heap.get?_push_size (s.heap.push { cls := .type "tuple", dict := none, data := .seq ([] : List Value).toArray }) (o := { cls := .type "StopIteration", dict := none, data := .fields (#[.ref s.heap.objs.size, .none, .none, .none, .bool false, .none] ++ ownMembersOf (.type "StopIteration") []) }) rfl
  rw [Heap.size_push] at hn
  refine wpAny_bind (show wpAny _ _ (setField (.ref (s.heap.objs.size + 1)) 2 (.ref e)) _ _ _ from wpAny_setField hn rfl (by rw [Array.size_append]; show 2 < 6 + _; exact Nat.le_add_left _ _) (wpAny_throw ?_))
  have hd3 := Obj.data_mapFields (o := { cls := .type "StopIteration", dict := none, data := .fields (#[.ref s.heap.objs.size, .none, .none, .none, .bool false, .none] ++ ownMembersOf (.type "StopIteration") []) }) rfl (·.setIfInBounds 2 (Value.ref e))
  have hn3 := Heap.get?_update_self (Obj.mapFields (·.setIfInBounds 2 (Value.ref e))) hn (Obj.isFreed_of_fields hd3)
  refine wpAny_bind (wpAny_isInstance (T := "StopIteration") (b := true) ⟨_, hn3, Obj.cls_mapFields _ _⟩ isSubtype_stop ?_)
  refine wpAny_pure (h _ fun b o e => ?_)
  rw [Heap.get?_update_other _ _ (Ne.symm (Nat.ne_of_lt (Nat.lt_succ_of_lt (Heap.lt_size e))))]
  exact Heap.get?_push_of_some _ (Heap.get?_push_of_some _ e)
theorem lD {it l : Addr} {i : Nat} {items : Array Value} {Q : Option Value → Shared → Prop} (hh : Hd A s.heap)
  (hit : s.heap.IsListIter it l i) (hl : s.heap.IsList l items) (hx : items[i]? = none) (hie : ∀ e, A.handled = some (.ref e) → e ≠ it)
  (hQ : ∀ h', Heap.ExtBut it s.heap h' → Q none { s with heap := h' }) : wpAny (model prog w) A (pyNext (.ref it)) Q E s := by
 obtain ⟨o, ho, hc, hd⟩ := id hit
 obtain ⟨ol, hol, _, nl, hdl⟩ := hl
 unfold pyNext
 refine wpAny_bind (wpAny_attempt (wpAny_callSpecial?_slot (name := Str.ofString "__next__") hit.typeIs slot_listiter_next
  (wpAny_call_entry slot_listiter_next hit.typeIs entry_listiter_next ?_ (args_listiter_next _))))
 show wpAny _ _ (field (.ref it) 0 >>= _) _ _ s
 refine wpAny_bind (wpAny_field ho hd (x := .ref l) rfl ?_)
 show wpAny _ _ (if (Value.ref l == Value.none) = true then _ else _) _ _ s
 rw [if_neg (show ¬ ((Value.ref l == Value.none) = true) from Bool.false_ne_true)]
 show wpAny _ _ (field (.ref it) 1 >>= _) _ _ s
 refine wpAny_bind (wpAny_field ho hd (x := .int i 0) rfl ?_)
 show wpAny _ _ (seqItems? (.ref l) >>= _) _ _ s
 refine wpAny_bind (wpAny_seqItems hol hdl ?_)
 simp only [Int.toNat_natCast, hx]
 refine wpAny_bind (wpAny_rule (wpAny_bind (wpAny_setField ho hd (by simp) ?_)))
 refine tY ?_ fun h' hk => hQ h' fun b o' hb e => hk b o' ((Heap.SameBut.update s.heap it _).extBut b o' hb e)
 rcases hh with hh | ⟨e, o', vs, hh, ho', hd', h2⟩
 ·exact .inl hh
 ·exact .inr ⟨e, o', vs, hh, (Heap.get?_update_other _ _ (Ne.symm (hie e hh))).trans ho', hd', h2⟩
theorem jZ {it t : Addr} {i : Nat} {items : Array Value} {Q : Option Value → Shared → Prop} (hh : Hd A s.heap)
  (hit : s.heap.IsTupleIter it t i) (ht : s.heap.IsTuple t items) (hx : items[i]? = none) (hie : ∀ e, A.handled = some (.ref e) → e ≠ it)
  (hQ : ∀ h', Heap.ExtBut it s.heap h' → Q none { s with heap := h' }) : wpAny (model prog w) A (pyNext (.ref it)) Q E s := by
 obtain ⟨o, ho, hc, hd⟩ := id hit
 obtain ⟨ol, hol, _, nl, hdl⟩ := ht
 unfold pyNext
 refine wpAny_bind (wpAny_attempt (wpAny_callSpecial?_slot (name := Str.ofString "__next__") hit.typeIs F.slot_tuple_iterator_next
  (wpAny_call_entry F.slot_tuple_iterator_next hit.typeIs F.entry_tuple_iterator_next ?_ (F.args_tuple_iterator_next_1 _))))
 show wpAny _ _ (field (.ref it) 0 >>= _) _ _ s
 refine wpAny_bind (wpAny_field ho hd (x := .ref t) rfl ?_)
 show wpAny _ _ (if (Value.ref t == Value.none) = true then _ else _) _ _ s
 rw [if_neg (show ¬ ((Value.ref t == Value.none) = true) from Bool.false_ne_true)]
 show wpAny _ _ (field (.ref it) 1 >>= _) _ _ s
 refine wpAny_bind (wpAny_field ho hd (x := .int i 0) rfl ?_)
 show wpAny _ _ (seqItems? (.ref t) >>= _) _ _ s
 refine wpAny_bind (wpAny_seqItems hol hdl ?_)
 simp only [Int.toNat_natCast, hx]
 refine wpAny_bind (wpAny_rule (wpAny_bind (wpAny_setField ho hd (by simp) ?_)))
 refine tY ?_ fun h' hk => hQ h' fun b o' hb e => hk b o' ((Heap.SameBut.update s.heap it _).extBut b o' hb e)
 rcases hh with hh | ⟨e, o', vs, hh, ho', hd', h2⟩
 ·exact .inl hh
 ·exact .inr ⟨e, o', vs, hh, (Heap.get?_update_other _ _ (Ne.symm (hie e hh))).trans ho', hd', h2⟩
theorem tN {env : Env} {elts : List Expr} {x1 : Nat} {pos : Pos} {t : Addr} {items : Array Value} {Q : Unit → Shared → Prop} (hh : Hd A s.heap) (ht : s.heap.IsTuple t items)
  (hn : (assignEach elts env).length = items.size) (hstar : (assignEach elts env).findIdx? (·.1) = none)
  (h : ∀ h', Heap.ExtBut s.heap.objs.size s.heap h' → wpAny (model prog w) A (assignInOrder ((assignEach elts env).map (·.2)) items.toList) Q E { s with heap := h' }) :
  wpAny (model prog w) A (assign (.Tuple elts x1 pos) env (.ref t)) Q E s := by
 rw [arm_assign_Tuple]
 refine wpAny_bind (wpAny_standAt ?_)
 unfold unpack
 rw [hn, hstar]
 refine wpAny_bind (wpAny_holding ?_)
 have hlt : t ≠ s.heap.objs.size := by obtain ⟨o, ho, _⟩ := ht; exact Nat.ne_of_lt (Heap.lt_size ho)
 unfold unpackItems
 refine wpAny_bind ?_
 unfold notIterableAtAll
 refine wpAny_bind (wpAny_specialOf ht.typeIs F.slot_tuple_iter.lookup ?_)
 refine wpAny_pure ?_
 simp only [Bool.false_eq_true, if_false]
 refine wpAny_bind (wpAny_holding (wpAny_pyIter_tuple ht ?_))
 refine wpAny_bind (wpAny_holding (wpAny_draw_tuple hlt items.size 0 _ _ ⟨_, Heap.get?_push_size _ rfl, rfl, rfl⟩ (ht.push _) (by exact dE fun hg => lN [(items.size)] 0x100101061 rfl hg) fun h₁ hit₁ hs₁ => ?_))
 have hall : List.take items.size (List.drop 0 items.toList) = items.toList := by
  rw [List.drop_zero]; exact List.take_of_length_le (by simp)
 rw [hall]
 rw [if_neg (by simp)]
 have ht₁ : h₁.IsTuple t items := (ht.push _).extBut hs₁.extBut hlt
 have hd₁ : Hd A h₁ := by
  rcases hh with hh | ⟨e, o', vs, hh, ho', hd', h2⟩
  ·exact .inl hh
  ·exact .inr ⟨e, o', vs, hh, hs₁.extBut e o' (Nat.ne_of_lt (Heap.lt_size ho')) (Heap.get?_push_of_some _ ho'), hd', h2⟩
 refine wpAny_bind (wpAny_holding (jZ hd₁ hit₁ ht₁ (by simp) (fun e he => ?_) fun h₂ he₂ => ?_))
 ·rcases hh with hh | ⟨e', o', vs, hh, ho', hd', h2⟩
  ·rw [hh] at he; cases he
  ·rw [hh] at he; cases he; exact Nat.ne_of_lt (Heap.lt_size ho')
 simp only [Option.isSome_none, Bool.false_eq_true, if_false]
 exact wpAny_pure (h h₂ fun b o hb e => he₂ b o hb (hs₁.extBut b o hb (Heap.get?_push_of_some _ e)))
end
end Mine
end
noncomputable section
namespace Mine
open PySem
section
variable {C : Cx} {sc : Scope} {k : Nat}
theorem cV {I : Addr} {o : Obj} {n : String} {A : Around} {s : Shared} {t : Expr} {w : Value} {Q : Unit → Shared → Prop} {E : Value → Shared → Prop} (ho : s.heap.get? I = some o) (hc : o.cls = .type n)
  (hn : ["enumerate", "zip", "dict_itemiterator", "dict_reverseitemiterator", "odict_iterator", "itertools.zip_longest", "itertools.pairwise"].contains n = false) (q : Q () s) : wpAny (model C.prog C.w) A (letOwnedTupleGo t (.ref I) w) Q E s := by
 have fin : ∀ vs a, wpAny (model C.prog C.w) A (if (["enumerate", "zip", "dict_itemiterator", "dict_reverseitemiterator", "odict_iterator", "itertools.zip_longest", "itertools.pairwise"].contains n && (vs : Array Value)[0]? == some (rawInt a)) = true then (do rule "for.unpacks-the-owned-tuple"; updateField I 0 .none) else pure ()) Q E s := fun vs a => by
  rw [hn, Bool.false_and, if_neg Bool.false_ne_true]; exact wpAny_pure q
 cases t <;> first | exact wpAny_pure q | skip
 all_goals
  cases w <;> first | exact wpAny_pure q | skip
  refine wpAny_bind (wpAny_load ho ?_)
  rw [hc]
  cases hd : o.data <;> first | exact wpAny_pure q | exact fin _ _
theorem AOk.hd {A : Around} {σ : ai} {s : Shared} (ao : AOk C A k) (O : C.Ok) (R : RelG C σ s) : Hd A s.heap := by
 cases z : C.held with
 | none => exact .inl (ao.none z)
 | some e =>
  obtain ⟨o, vs, h1, h2, h3⟩ := O.heldOk e z
  exact .inr ⟨e, o, vs, by rw [ao.handled, z]; rfl, R.base _ _ h1, h2, h3⟩
theorem AOk.ne {A : Around} {σ : ai} {s : Shared} {I : Addr} {oI : Obj} {a b : Value} (ao : AOk C A k) (O : C.Ok) (R : RelG C σ s) (hI : s.heap.get? I = some oI) (hd : oI.data = .fields #[a, b]) : ∀ e, A.handled = some (.ref e) → e ≠ I := by
 rintro e he rfl
 rw [ao.handled] at he
 cases z : C.held with
 | none => rw [z] at he; cases he
 | some e' =>
  rw [z] at he; cases he
  obtain ⟨o, vs, h1, h2, h3⟩ := O.heldOk _ z
  have := R.base _ _ h1
  rw [hI] at this; cases this
  rw [hd] at h2; cases h2; cases h3
theorem pH (O : C.Ok) (I a : Addr) (xs : List V) : It C k I xs (fun σ => σ a = some (.list xs)) (fun i h => h.IsListIter I a i) where
 frame := fun i h h' st kI _ => st.at kI
 live := fun i h ⟨o, ho, hc, hd⟩ => ⟨o, ho, (fun ⟨_, _, _, h2⟩ => by rw [hd] at h2; cases h2), (fun v h2 => by rw [hd] at h2; cases h2)⟩
 flds := fun i h ⟨o, ho, hc, hd⟩ o' ho' es ep z => by rw [ho] at ho'; cases ho'; rw [hd] at z; cases z
 next := fun A σ s i v Q E ao R inv st hv hQ => by
  obtain ⟨_, ws, h1, h2⟩ := R.view a _ inv
  obtain ⟨w, hw, hr⟩ := h2.get hv
  refine wpAny_pyNext_list_item st h1.isList (x := w) (by simpa using hw) fun h' st' hs' => hQ w h' s.toks (hr.keep ?_) st' hs'.extBut
  obtain ⟨o, ho, hc, hd⟩ := st
  exact fun b ob e ht => hs'.extBut b ob (by rintro rfl; rw [ho] at e; cases e; obtain ⟨_, _, _, h2⟩ := ht; rw [hd] at h2; cases h2) e
 done := fun A σ s Q E ao R inv st hQ => by
  obtain ⟨_, ws, h1, h2⟩ := R.view a _ inv
  obtain ⟨oI, hoI, _, hdI⟩ := id st
  exact lD (ao.hd O R) st h1.isList (by have := h2.length; simp [this]) (ao.ne O R hoI hdI) fun h' hx => hQ h' s.toks hx
 self := fun A s i Q E st q => wpAny_pyIter_listiter st q
 own := fun A s i t w Q E ⟨o, ho, hc, hd⟩ q => cV ho hc (by decide) q
theorem qF (O : C.Ok) (I : Addr) : It C k I (C.ns.map .int) (fun _ => True) (fun i h => h.IsListIter I C.aS i) where
 frame := fun i h h' st kI _ => st.at kI
 live := fun i h ⟨o, ho, hc, hd⟩ => ⟨o, ho, (fun ⟨_, _, _, h2⟩ => by rw [hd] at h2; cases h2), (fun v h2 => by rw [hd] at h2; cases h2)⟩
 flds := fun i h ⟨o, ho, hc, hd⟩ o' ho' es ep z => by rw [ho] at ho'; cases ho'; rw [hd] at z; cases z
 next := fun A σ s i v Q E ao R inv st hv hQ => by
  obtain ⟨ws, h1, h2, h3⟩ := O.script
  rw [List.getElem?_map] at hv
  obtain ⟨n, hn, rfl⟩ := Option.map_eq_some_iff.mp hv
  obtain ⟨t, ht⟩ := h3 i n hn
  refine wpAny_pyNext_list_item st (h1.at fun o e => R.base _ _ e) (x := .int n t) (by simpa using ht) fun h' st' hs' => hQ _ h' s.toks (.int n t) st' hs'.extBut
 done := fun A σ s Q E ao R inv st hQ => by
  obtain ⟨ws, h1, h2, h3⟩ := O.script
  obtain ⟨oI, hoI, _, hdI⟩ := id st
  exact lD (ao.hd O R) st (h1.at fun o e => R.base _ _ e) (by simp at h2; simp [h2]) (ao.ne O R hoI hdI) fun h' hx => hQ h' s.toks hx
 self := fun A s i Q E st q => wpAny_pyIter_listiter st q
 own := fun A s i t w Q E ⟨o, ho, hc, hd⟩ q => cV ho hc (by decide) q
theorem uL (O : C.Ok) (I a : Addr) (vs : List V) (ws : List Value) : It C k I vs (fun _ => True) (fun i h => h.IsTupleIter I a i ∧ h.IsTuple a ws.toArray ∧ VRels C.aS h vs ws) where
 frame := fun i h h' st kI kt => ⟨st.1.at kI, let ⟨o, ho, hc, n, r⟩ := st.2.1; ⟨o, kt a o ho ⟨hc, _, n, r⟩, hc, n, r⟩, st.2.2.keep kt⟩
 live := fun i h ⟨⟨o, ho, hc, hd⟩, _⟩ => ⟨o, ho, (fun ⟨_, _, _, h2⟩ => by rw [hd] at h2; cases h2), (fun v h2 => by rw [hd] at h2; cases h2)⟩
 flds := fun i h ⟨⟨o, ho, hc, hd⟩, _⟩ o' ho' es ep z => by rw [ho] at ho'; cases ho'; rw [hd] at z; cases z
 next := fun A σ s i v Q E ao R inv st hv hQ => by
  obtain ⟨w, hw, hr⟩ := st.2.2.get hv
  obtain ⟨o, ho, hc, hd⟩ := id st.1
  have kt : ∀ h', Heap.SameBut I s.heap h' → bb s.heap h' := fun h' hs' b ob e ht => hs'.extBut b ob (by rintro rfl; rw [ho] at e; cases e; obtain ⟨_, _, _, h2⟩ := ht; rw [hd] at h2; cases h2) e
  refine wpAny_pyNext_tuple_item st.1 st.2.1 (x := w) (by simpa using hw) fun h' st' hs' => hQ w h' s.toks (hr.keep (kt h' hs')) ⟨st', ?_, st.2.2.keep (kt h' hs')⟩ hs'.extBut
  obtain ⟨o, ho, hc, n, r⟩ := st.2.1
  exact ⟨o, kt h' hs' a o ho ⟨hc, _, n, r⟩, hc, n, r⟩
 done := fun A σ s Q E ao R inv st hQ => jZ (ao.hd O R) st.1 st.2.1 (by have := st.2.2.length; simp [this]) (let ⟨_, hoI, _, hdI⟩ := st.1; ao.ne O R hoI hdI) fun h' hx => hQ h' s.toks hx
 self := fun A s i Q E st q => wpAny_pyIter_tupleiter st.1 q
 own := fun A s i t w Q E ⟨⟨o, ho, hc, hd⟩, _⟩ q => cV ho hc (by decide) q
noncomputable def lA (x : Str) : List V := x.cps.toList.map fun c => .str ⟨#[c]⟩
theorem rZ (hz : C.held = none) (I : Addr) (cls : String) (x : Str) (t : Tok) (hcls : cls = "str_ascii_iterator" ∨ cls = "str_iterator") : It C k I (lA x) (fun _ => True) (fun i h => h.IsStrIter I cls x t i) where
 frame := fun i h h' ⟨o, ho, r⟩ kI _ => ⟨o, kI o ho, r⟩
 live := fun i h ⟨o, ho, hc, hd⟩ => ⟨o, ho, (fun ⟨_, _, _, h2⟩ => by rw [hd] at h2; cases h2), (fun v h2 => by rw [hd] at h2; cases h2)⟩
 flds := fun i h ⟨o, ho, hc, hd⟩ o' ho' es ep z => by rw [ho] at ho'; cases ho'; rw [hd] at z; cases z
 next := fun A σ s i v Q E ao R inv st hv hQ => by
  unfold lA at hv
  rw [List.getElem?_map] at hv
  obtain ⟨c, hc, rfl⟩ := Option.map_eq_some_iff.mp hv
  rcases hcls with rfl | rfl
  ·exact wpAny_pyNext_ascii_item st (c := c) (by simpa using hc) fun h' st' hs' => hQ _ h' _ (.str _ _) st' hs'.extBut
  ·exact wpAny_pyNext_wide_item st (c := c) (by simpa using hc) fun h' st' hs' => hQ _ h' _ (.str _ _) st' hs'.extBut
 done := fun A σ s Q E ao R inv st hQ => by
  rcases hcls with rfl | rfl
  ·exact wpAny_pyNext_ascii_end (ao.none hz) st (by simp [lA]) fun h' hx => hQ h' s.toks hx
  ·exact wpAny_pyNext_wide_end (ao.none hz) st (by simp [lA]) fun h' hx => hQ h' s.toks hx
 self := fun A s i Q E st q => by
  rcases hcls with rfl | rfl
  ·exact wpAny_pyIter_striter_ascii st q
  ·exact wpAny_pyIter_striter_wide st q
 own := fun A s i t w Q E ⟨o, ho, hc, hd⟩ q => by
  rcases hcls with rfl | rfl
  ·exact cV ho hc (by decide) q
  ·exact cV ho hc (by decide) q
theorem tz (hz : C.held = none) (I d : Addr) (kvs : List (Str × V)) (ep : Nat) : It C k I (kvs.map fun p => .str p.1) (fun σ => σ d = some (.dict kvs ep)) (fun i h => h.IsKeyIter I d i kvs.length ep) where
 frame := fun i h h' st kI _ => st.at kI
 live := fun i h ⟨o, ho, hc, hd⟩ => ⟨o, ho, (fun ⟨_, _, _, h2⟩ => by rw [hd] at h2; cases h2), (fun v h2 => by rw [hd] at h2; cases h2)⟩
 flds := fun i h ⟨o, ho, hc, hd⟩ o' ho' es ep z => by rw [ho] at ho'; cases ho'; rw [hd] at z; cases z
 next := fun A σ s i v Q E ao R inv st hv hQ => by
  obtain ⟨_, kws, h1, h2⟩ := R.view d _ inv
  rw [List.getElem?_map] at hv
  obtain ⟨⟨key, u⟩, hku, rfl⟩ := Option.map_eq_some_iff.mp hv
  obtain ⟨w, hw, _⟩ := PRel.get h2 hku
  have st' : s.heap.IsKeyIter I d i kws.length ep := by rw [← h2.length]; exact st
  refine wpAny_pyNext_dict_item st' h1 hw fun kv h' hkey hit' hs' => hQ kv h' s.toks ?_ (by rw [h2.length]; exact hit') hs'.extBut
  cases kv with
  | str y t =>
   have : y = key := by simpa [strKind, Value.isStrOf] using hkey
   subst this; exact .str _ _
  | _ => simp [strKind, Value.isStrOf] at hkey
 done := fun A σ s Q E ao R inv st hQ => by
  obtain ⟨_, kws, h1, h2⟩ := R.view d _ inv
  have e : (kvs.map fun p : Str × V => V.str p.1).length = kws.length := by rw [List.length_map, h2.length]
  have st' : s.heap.IsKeyIter I d kws.length kws.length ep := by rw [← e]; simpa using st
  exact wpAny_pyNext_dict_end (ao.none hz) st' h1 (by simp) fun h' hx => hQ h' s.toks hx
 self := fun A s i Q E st q => wpAny_pyIter_keyiter st q
 own := fun A s i t w Q E ⟨o, ho, hc, hd⟩ q => cV ho hc (by decide) q
noncomputable def ca (a : Int) (n : Nat) : List V := (List.range n).map fun (i : Nat) => .int (a + i)
theorem r0 (hz : C.held = none) (I : Addr) (a : Int) (n : Nat) : It C k I (ca a n) (fun _ => True) (fun i h => IsRangeIter h I (a + (i : Nat) * 1) ((n : Int) - (i : Nat)) 1) where
 frame := fun i h h' st kI _ => kI _ st
 live := fun i h st => ⟨_, st, fun ⟨_, _, _, h2⟩ => by simp at h2, fun v h2 => by simp at h2⟩
 flds := fun i h st o' ho' es ep z => by rw [st] at ho'; cases ho'; cases z
 next := fun A σ s i v Q E ao R inv st hv hQ => by
  unfold ca at hv
  rw [List.getElem?_map] at hv
  obtain ⟨j, hj, rfl⟩ := Option.map_eq_some_iff.mp hv
  have hjn := List.getElem?_eq_some_iff.mp hj
  obtain ⟨hlt, hji⟩ := hjn
  simp at hji hlt
  subst hji
  refine wpAny_pyNext_range_item st (Int.sub_pos_of_lt (Int.ofNat_lt.mpr hlt)) fun h' hit' hs' => ?_
  have e1 : a + ((i + 1 : Nat) : Int) * 1 = a + (i : Int) * 1 + 1 := by rw [Int.mul_one, Int.mul_one, Int.add_assoc]; rfl
  have e2 : (n : Int) - ((i + 1 : Nat) : Int) = (n : Int) - (i : Int) - 1 := by rw [Int.sub_sub]; rfl
  refine hQ _ h' _ ?_ (by rw [e1, e2]; exact hit') hs'.extBut
  rw [Int.mul_one]; exact .int _ _
 done := fun A σ s Q E ao R inv st hQ => wpAny_pyNext_range_end (ao.none hz) st (by simp [ca]) fun h' hx => hQ h' s.toks hx
 self := fun A s i Q E st q => wpAny_pyIter_rangeiter st q
 own := fun A s i t w Q E st q => cV st rfl (by decide) q
noncomputable def jK (a : Addr) (σ : ai) (Q : List V → (ai → Prop) → ai → Prop) (o : Option AObj) : Prop := match o with
 | some (.list xs) => Q xs (fun σ => σ a = some (.list xs)) σ
 | some (.dict kvs ep) => Q (kvs.map fun p => .str p.1) (fun σ => σ a = some (.dict kvs ep)) σ
 | _ => False
noncomputable def km (ns : List Int) : V → ai → (List V → (ai → Prop) → ai → Prop) → Prop
 | .str x, σ, Q => Q (lA x) (fun _ => True) σ
 | .tup vs, σ, Q => Q vs (fun _ => True) σ
 | .script, σ, Q => Q (ns.map .int) (fun _ => True) σ
 | .ref a, σ, Q => jK a σ Q (σ a)
 | _, _, _ => False
noncomputable def jx (ns : List Int) (T : ET) : IT := fun m σ Q => T m σ fun v σ' => km ns v σ' Q
theorem ch (O : C.Ok) (hz : C.held = none) {e : Expr} {T : ET} (he : HE C sc k e T) : HI C sc k e (jx C.ns T) := by
 refine ⟨?_⟩; intro env A s m σ Q P E en ao R F q hP
 refine he.run env A s m σ _ _ E en ao R F q fun v w σ₁ s₁ hv R₁ S₁ q₁ => ?_
 have fr : s.heap.objs.size ≤ s₁.heap.objs.size := S₁.size
 have hn := R₁.freshNone (bQ s₁.heap)
 have Rp : ∀ o, RelG C σ₁ { s₁ with heap := s₁.heap.push o } := fun o => R₁.grow (tk := s₁.toks) bg
 have Sp : ∀ o, Step no σ σ₁ s.heap (s₁.heap.push o) := fun o => S₁.trans .push
 cases hv with
 | none => exact q₁.elim
 | bool => exact q₁.elim
 | int => exact q₁.elim
 | ty => exact q₁.elim
 | str x t =>
  cases ha : x.cps.all (· < 128)
  ·exact wpAny_pyIter_wide ha (hP _ _ _ _ σ₁ _ (rZ hz _ "str_iterator" x t (.inr rfl)) ⟨_, Heap.get?_push_size _ rfl, rfl, rfl⟩ fr hn (Rp _) (Sp _) q₁)
  ·exact wpAny_pyIter_ascii ha (hP _ _ _ _ σ₁ _ (rZ hz _ "str_ascii_iterator" x t (.inl rfl)) ⟨_, Heap.get?_push_size _ rfl, rfl, rfl⟩ fr hn (Rp _) (Sp _) q₁)
 | script =>
  obtain ⟨ws, h1, h2, h3⟩ := O.script
  exact wpAny_pyIter_list (h1.at fun o e => R₁.base _ _ e) (hP _ _ _ _ σ₁ _ (qF O _) ⟨_, Heap.get?_push_size _ rfl, rfl, rfl⟩ fr hn (Rp _) (Sp _) q₁)
 | tup ht hvs =>
  exact wpAny_pyIter_tuple ht (hP _ _ _ _ σ₁ _ (uL O _ _ _ _) ⟨⟨_, Heap.get?_push_size _ rfl, rfl, rfl⟩, ht.push _, hvs.keep fun _ _ e _ => bg _ _ e⟩ fr hn (Rp _) (Sp _) q₁)
 | ref a =>
  replace q₁ : jK a σ₁ Q (σ₁ a) := q₁
  cases hx : σ₁ a with
  | none => rw [hx] at q₁; exact False.elim q₁
  | some o =>
  rw [hx] at q₁
  cases o <;> first | exact False.elim q₁ | skip
  ·rename_i xs
   obtain ⟨_, ws, h1, h2⟩ := R₁.view a _ hx
   exact wpAny_pyIter_list h1.isList (hP _ _ _ _ σ₁ _ (pH O _ a xs) ⟨_, Heap.get?_push_size _ rfl, rfl, rfl⟩ fr hn (Rp _) (Sp _) q₁)
  ·rename_i kvs ep
   obtain ⟨_, kws, h1, h2⟩ := R₁.view a _ hx
   refine wpAny_pyIter_dict (O.noMods (R₁.apart a (by rw [hx]; simp))) h1 (hP _ _ _ _ σ₁ _ (tz hz _ a kvs ep) ⟨_, Heap.get?_push_size _ rfl, rfl, by rw [← h2.length]; rfl⟩ fr hn (Rp _) (Sp _) q₁)
noncomputable def pK (T : ET) : IT := fun m σ Q => T m σ fun v σ' => ∃ a xs, v = .ref a ∧ σ' a = some (.list xs) ∧ Q xs (fun σ => σ a = some (.list xs)) σ'
theorem tQ (O : C.Ok) {e : Expr} {T : ET} (he : HE C sc k e T) : HI C sc k e (pK T) := by
 refine ⟨?_⟩; intro env A s m σ Q P E en ao R F q hP
 refine he.run env A s m σ _ _ E en ao R F q fun v w σ₁ s₁ hv R₁ S₁ q₁ => ?_
 have fr : s.heap.objs.size ≤ s₁.heap.objs.size := S₁.size
 have hn := R₁.freshNone (bQ s₁.heap)
 obtain ⟨a, xs, rfl, hx, q₁⟩ := q₁
 cases hv
 obtain ⟨_, ws, h1, h2⟩ := R₁.view a _ hx
 exact wpAny_pyIter_list h1.isList (hP _ _ _ _ σ₁ _ (pH O _ a xs) ⟨_, Heap.get?_push_size _ rfl, rfl, rfl⟩ fr hn (R₁.grow (tk := s₁.toks) bg) (S₁.trans .push) q₁)
noncomputable def iw : List V → ai → (List V → (ai → Prop) → ai → Prop) → Prop
 | v :: r, σ, Q => isI v fun a => match r with
  | [] => (-(2 ^ 62) ≤ a ∧ a < 2 ^ 62) ∧ Q (ca 0 a.toNat) (fun _ => True) σ
  | u :: r => on1 (u :: r) fun u => isI u fun b => (-(2 ^ 62) ≤ a ∧ a < 2 ^ 62 ∧ -(2 ^ 62) ≤ b ∧ b < 2 ^ 62) ∧ Q (ca a (b - a).toNat) (fun _ => True) σ
 | _, _, _ => False
noncomputable def ce (L : LT) : IT := fun m σ Q => L m σ fun vs σ' => iw vs σ' Q
theorem sB (O : C.Ok) (hz : C.held = none) {np pos : Pos} {es : List Expr} {L : LT} (hl : HL C sc k es L) (hp : aQ es = true)
  (hn : sc.names.lookup (Str.ofString "range") = some .globalImplicit) (hg : C.mg (Str.ofString "range") = Option.none) (hb : C.mb (Str.ofString "range") = some (.type "range")) :
  HI C sc k (.Call (.Name (Str.ofString "range") np) es [] pos) (ce L) := by
 refine ⟨?_⟩; intro env A s m σ Q P E en ao R F q hP
 refine wpAny_Call_NameR (Calls.Name_function_global en.k (en.of hn) (Calls.loadGlobal_builtin (mg := C.mg) (mb := C.mb) (by rw [en.globals]; exact O.g.keeps R.base) hg (by rw [en.builtins]; exact O.b.keeps R.base) hb ?_) (by decide))
 refine callWith_type (bR hp) (bJ hp (hl.run env A s m σ pos _ _ E en ao R F q fun vs ws σ₁ s₁ hv R₁ S₁ q₁ => ?_))
 have fr : s.heap.objs.size ≤ s₁.heap.objs.size + 1 := Nat.le_succ_of_le S₁.size
 have hσ : σ₁ (s₁.heap.objs.size + 1) = Option.none := R₁.freshNone (aI (Nat.le_succ _))
 have go : ∀ (a b : Int) (o : Obj) (tk : Nat) (t u v : Tok), -(2 ^ 62) ≤ a → a < 2 ^ 62 → -(2 ^ 62) ≤ b → b < 2 ^ 62 → o = { cls := .type "range", data := .fields #[.int a t, .int b u, .int 1 v] } → Q (ca a (b - a).toNat) (fun _ => True) σ₁ →
   wpAny (model C.prog C.w) A (pyIter (.ref s₁.heap.objs.size)) P E { s₁ with heap := s₁.heap.push o, toks := tk } := by
  rintro a b o tk t u v h1 h2 h3 h4 rfl q₁
  refine wpAny_pyIter_range (IsRange.new ..) (small_one h1 h2 h3 h4) ?_
  have hsz : Builtin.Range.rangeSize a b 1 = ((b - a).toNat : Int) := by rw [rangeSize_one]; split <;> omega
  have hit := r0 (C := C) (k := k) hz (s₁.heap.objs.size + 1) a (b - a).toNat
  have R₂ : RelG C σ₁ { s₁ with heap := (s₁.heap.push { cls := .type "range", data := .fields #[.int a t, .int b u, .int 1 v] }).push { cls := .type "range_iterator", data := .fields #[rawInt a, rawInt (Builtin.Range.rangeSize a b 1), rawInt 1] }, toks := tk } :=
   R₁.grow fun _ _ e => bg _ _ (bg _ _ e)
  have e := Heap.get?_push_size (s₁.heap.push { cls := .type "range", data := .fields #[.int a t, .int b u, .int 1 v] }) (o := { cls := .type "range_iterator", data := .fields #[rawInt a, rawInt (Builtin.Range.rangeSize a b 1), rawInt 1] }) rfl
  rw [Heap.size_push] at e
  have this := hP _ _ _ _ σ₁ _ hit (by
    show IsRangeIter ((s₁.heap.push { cls := .type "range", data := .fields #[.int a t, .int b u, .int 1 v] }).push { cls := .type "range_iterator", data := .fields #[rawInt a, rawInt (Builtin.Range.rangeSize a b 1), rawInt 1] }) _ _ _ _
    unfold IsRangeIter
    rw [e, hsz]; simp) fr hσ R₂ ((S₁.trans .push).trans .push) q₁
  rw [Heap.size_push]
  exact this
 show wpAny _ A (PySem.call (.type "range") ([] ++ ws)) _ _ _
 rw [List.nil_append]
 cases hv with
 | nil => exact False.elim q₁
 | cons h1 r =>
  obtain ⟨n, rfl, q₂⟩ := isI.elim q₁
  clear q₁
  cases h1 with | int _ t =>
  cases r with
  | nil =>
   have q₁ := q₂
   refine call_range_1 (go 0 _ _ _ _ _ _ (by decide) (by decide) q₁.1.1 q₁.1.2 rfl ?_)
   rw [Int.sub_zero]; exact q₁.2
  | cons h2 r =>
   obtain ⟨u, e, q₃⟩ := on1.elim q₂
   cases e
   obtain ⟨b, rfl, q₁⟩ := isI.elim q₃
   cases r with | nil => cases h2 with | int _ u =>
   exact call_range_2 (go _ _ _ _ _ _ _ q₁.1.1 q₁.1.2.1 q₁.1.2.2.1 q₁.1.2.2.2 rfl q₁.2)
end
end Mine
end
noncomputable section
namespace Mine
open PySem
noncomputable def li (cells : List (Str × Addr)) : List (Str × NameKind) → List (Str × Addr) → List (Str × Addr)
 | [], acc => acc
 | (n, q) :: r, acc => if q == .free then li cells r ((n, (cells.lookup n).getD 0) :: acc) else li cells r acc
theorem kF {env : Env} {scope : Scope} (h : ∀ p ∈ scope.names, p.2 = .free → ∃ c, env.cells.lookup p.1 = some c) : closureFor scope env = pure (li env.cells scope.names []) := by
 unfold closureFor
 have key : ∀ (l : List (Str × NameKind)) (acc : List (Str × Addr)), (∀ p ∈ l, p.2 = .free → ∃ c, env.cells.lookup p.1 = some c) →
   (forIn l acc fun p r => (if (p.2 == NameKind.free) = true then do let c ← cellOf env p.1; pure (ForInStep.yield ((p.1, c) :: r)) else pure (ForInStep.yield r) : Sem (ForInStep (List (Str × Addr))))) = pure (li env.cells l acc) := by
  intro l
  induction l with
  | nil => intro acc _; rfl
  | cons p r ih =>
   intro acc hp
   rw [List.forIn_cons]
   obtain ⟨n, q⟩ := p
   unfold li
   cases hq : (q == NameKind.free) with
   | true =>
    obtain ⟨c, hc⟩ := hp (n, q) (.head _) (by simpa using hq)
    simp only [cellOf, hc, if_true, pure_bind, Option.getD_some]
    exact ih _ fun p hp' => hp p (.tail _ hp')
   | false =>
    simp only [Bool.false_eq_true, if_false, pure_bind]
    exact ih _ fun p hp' => hp p (.tail _ hp')
 have := key scope.names [] h
 simpa using congrArg (fun t => t >>= fun cs => (pure cs : Sem _)) this
theorem kG {cells : List (Str × Addr)} : ∀ (l : List (Str × NameKind)) (acc : List (Str × Addr)), (∀ p ∈ l, p.2 = .free → ∃ c, cells.lookup p.1 = some c) → ∀ n,
  ((li cells l acc).lookup n = if (n, NameKind.free) ∈ l then cells.lookup n else acc.lookup n)
 | [], acc, _, n => by simp [li]
 | (y, q) :: r, acc, h, n => by
  unfold li
  have ih := fun acc => kG r acc (fun p hp => h p (.tail _ hp)) n
  cases hq : (q == NameKind.free) with
  | true =>
   have hq' : q = .free := by simpa using hq
   obtain ⟨c, hc⟩ := h (y, q) (.head _) hq'
   rw [if_pos rfl, ih]
   subst hq'
   by_cases hr : (n, NameKind.free) ∈ r
   ·simp [hr]
   ·rw [if_neg hr]
    by_cases hy : n = y
    ·subst hy; simp [hc]
    ·have : (n == y) = false := by simp [hy]
     simp [hr, hy, List.lookup_cons, this]
  | false =>
   have hq' : q ≠ .free := by simpa using hq
   rw [if_neg Bool.false_ne_true, ih]
   have : ((n, NameKind.free) ∈ (y, q) :: r) ↔ (n, NameKind.free) ∈ r := by simp [Ne.symm hq']
   simp [this]
theorem kH {cells : List (Str × Addr)} (hd : cells.Pairwise fun x y => x.2 ≠ y.2) : ∀ (l : List (Str × NameKind)) (acc : List (Str × Addr)), (∀ p ∈ l, p.2 = .free → ∃ c, cells.lookup p.1 = some c) → (l.map (·.1)).Nodup →
  (∀ p ∈ acc, cells.lookup p.1 = some p.2 ∧ p.1 ∉ l.map (·.1)) → acc.Pairwise (fun x y => x.2 ≠ y.2) → (li cells l acc).Pairwise fun x y => x.2 ≠ y.2
 | [], acc, _, _, _, h => by simpa [li] using h
 | (y, q) :: r, acc, h, hn, ha, hp => by
  unfold li
  rw [List.map_cons, List.nodup_cons] at hn
  cases hq : (q == NameKind.free) with
  | true =>
   obtain ⟨c, hc⟩ := h (y, q) (.head _) (by simpa using hq)
   rw [if_pos rfl]
   refine kH hd r _ (fun p hp => h p (.tail _ hp)) hn.2 ?_ ?_
   ·intro p hp'
    rcases List.mem_cons.mp hp' with rfl | hp'
    ·exact ⟨by simp [hc], hn.1⟩
    ·exact ⟨(ha p hp').1, fun z => (ha p hp').2 (.tail _ z)⟩
   ·refine List.pairwise_cons.mpr ⟨fun p hp' e => ?_, hp⟩
    rw [hc] at e
    simp only [Option.getD_some] at e
    have := name_of_addr hd (mem_of_lookup hc) (mem_of_lookup (e ▸ (ha p hp').1))
    exact (ha p hp').2 (by rw [← this]; exact .head _)
  | false =>
   rw [if_neg Bool.false_ne_true]
   exact kH hd r acc (fun p hp => h p (.tail _ hp)) hn.2 (fun p hp' => ⟨(ha p hp').1, fun z => (ha p hp').2 (.tail _ z)⟩) hp
noncomputable def gf (sc : Scope) (n : Str) (q : NameKind) : NameKind := if (q == .free && sc.kind == .function && sc.names.lookup n == some .cell) then .cell else q
noncomputable def gh (sc scope : Scope) : Scope := { scope with names := scope.names.map fun p => (p.1, gf sc p.1 p.2) }
theorem oQ {cs : Scope} {env : Env} : relabel cs env = gh env.scope cs := by
 unfold relabel gh Env.kindOf gf
 congr 1
 refine List.map_congr_left fun p _ => ?_
 obtain ⟨n, q⟩ := p
 dsimp only
 split <;> rfl
theorem ft {sc : Scope} : ∀ (l : List (Str × NameKind)) (n : Str), (l.map fun p => (p.1, gf sc p.1 p.2)).lookup n = (l.lookup n).map (gf sc n)
 | [], n => rfl
 | (y, q) :: r, n => by
  rw [List.map_cons, List.lookup_cons, List.lookup_cons]
  by_cases hy : n = y
  ·subst hy; simp
  ·have hb : (n == y) = false := by simp [hy]
   simp only [hb]
   exact ft r n
theorem ql {sc : Scope} {l : List (Str × NameKind)} {n : Str} (h : l.lookup n = some .free) : (l.map fun p => (p.1, gf sc p.1 p.2)).lookup n = some .cell ∨ (l.map fun p => (p.1, gf sc p.1 p.2)).lookup n = some .free := by
 rw [ft, h, Option.map_some]
 unfold gf
 split
 ·exact .inl rfl
 ·exact .inr rfl
theorem qm {sc : Scope} {l : List (Str × NameKind)} {n : Str} (h : (l.map fun p => (p.1, gf sc p.1 p.2)).lookup n = some .cell) : (n, NameKind.free) ∈ l ∨ (n, NameKind.cell) ∈ l := by
 rw [ft] at h
 obtain ⟨q, hq, e⟩ := Option.map_eq_some_iff.mp h
 unfold gf at e
 split at e
 ·rename_i hc
  have : q = .free := by simp at hc; exact hc.1.1
  subst this
  exact .inl (mem_of_lookup hq)
 ·subst e; exact .inr (mem_of_lookup hq)
theorem mn {sc : Scope} {l : List (Str × NameKind)} {n : Str} (h : (l.map fun p => (p.1, gf sc p.1 p.2)).lookup n = some .free) : (n, NameKind.free) ∈ l := by
 rw [ft] at h
 obtain ⟨q, hq, e⟩ := Option.map_eq_some_iff.mp h
 unfold gf at e
 split at e
 ·cases e
 ·subst e; exact mem_of_lookup hq
section
variable {C : Cx} {sc : Scope} {k : Nat}
structure HTs (C : Cx) (sc : Scope) (k : Nat) (ifs : List Expr) (B : BT) : Prop where
 run : ∀ (env : Env) (A : Around) (s : Shared) (m : aT) (σ : ai) (Q : Bool → ai → Prop) (P : Bool → Shared → Prop) (E : Value → Shared → Prop),
  EnvOk env sc → AOk C A k → RelG C σ s → FrameRel C env m σ s.heap → B m σ Q →
  (∀ b σ' s', RelG C σ' s' → Step no σ σ' s.heap s'.heap → Q b σ' → P b s') →
  wpAny (model C.prog C.w) A (forIn ifs true fun c r => if r = true then do let ok ← isTrue c env (eval c env); pure (ForInStep.yield ok) else pure (ForInStep.yield r)) P E s
theorem gV : HTs C sc k [] tT := ⟨fun _ _ s _ σ _ _ _ _ _ R _ q hP => wpAny_tests_nil (hP true σ s R Step.refl q)⟩
theorem jT {c : Expr} {B : BT} (h : HB C sc k c B) : HTs C sc k [c] B := ⟨fun env A s m σ Q P E en ao R F q hP => wpAny_tests_one (h.run env A s m σ Q P E en ao R F q hP)⟩
noncomputable def only (fv : List String) (m : aT) : aT := fun x => if x ∈ fv then m x else Option.none
noncomputable def cq (g : Tgt) (inv : ai → Prop) (B : BT) (T : ET) (m : aT) : List V → List V → ai → (List V → ai → Prop) → Prop
 | [], acc, σ, Q => inv σ ∧ Q acc σ
 | v :: r, acc, σ, Q => inv σ ∧ ∃ m', dB g v m = some m' ∧ B m' σ fun b σ₁ => if b then T m' σ₁ fun y σ₂ => acc.length < 1048576 ∧ cq g inv B T m r (acc ++ [y]) σ₂ Q else cq g inv B T m r acc σ₁ Q
noncomputable def eo (fv : List String) (g : Tgt) (I : IT) (B : BT) (T : ET) : ET := fun m σ Q => I m σ fun items inv σ' => cq g inv B T (only fv m) items [] σ' fun ys σ'' => dF ys σ'' Q
noncomputable def Tgt.names : Tgt → List String
 | .name x => [x]
 | .tup xs => xs
theorem jz : ∀ (xs : List String) (vs : List V) (m : aT) (y : String), y ∉ xs → aM xs vs m y = m y
 | [], _, _, _, _ => by simp [aM]
 | x :: xs, [], _, _, _ => by simp [aM]
 | x :: xs, v :: vs, m, y, h => by
  simp only [aM]
  rw [jz xs vs _ y (fun z => h (.tail _ z))]
  exact fp (fun z => h (by rw [z]; exact .head _))
theorem oi {g : Tgt} {v : V} {m m' : aT} (h : dB g v m = some m') {y : String} (hy : y ∉ g.names) : m' y = m y := by
 cases g with
 | name x => cases h; exact fp (fun z => hy (by simp [Tgt.names, z]))
 | tup xs =>
  cases v <;> simp [dB] at h
  obtain ⟨_, rfl⟩ := h
  exact jz _ _ _ _ hy
theorem FrameRel.weaken {env : Env} {m m' : aT} {σ : ai} {h : Heap} (F : FrameRel C env m' σ h) (hw : ∀ x v, m x = some v → m' x = some v) : FrameRel C env m σ h :=
 ⟨let ⟨mm, h1, h2⟩ := F.ns; ⟨mm, h1, fun x v e q => h2 x v (hw x v e) q⟩, fun x v e => F.cel x v (hw x v e), F.cells, F.sepL, F.baseL, F.baseC, F.dist, F.has⟩
theorem mI {A : Around} {R : Result → Shared → Prop} {s : Shared} {elt target iter : Expr} {ifs : List Expr} {scope : Scope} {pos : Pos} {it acc : Value} {env : Env} (I : Nat → Shared → Prop)
  (turn : ∀ n s, I n s → wpAny (model C.prog C.w) A (pyNext it) (fun r s₁ => match r with
   | Option.none => R (.ok .next) s₁
   | some v => wpAny (model C.prog C.w) A (letOwnedTupleGo target it v) (fun _ s₁' => wpAny (model C.prog C.w) A (assign target env v) (fun _ s₂ =>
     wpAny (model C.prog C.w) A (forIn ifs true fun c r => if r = true then do let ok ← isTrue c env (eval c env); pure (ForInStep.yield ok) else pure (ForInStep.yield r)) (fun ok s₃ =>
      if ok = true then wpAny (model C.prog C.w) A (eval elt env) (fun x s₄ =>
       wpAny (model C.prog C.w) A (call (.builtin "list.append") [acc, x]) (fun _ s₅ => ∃ m, m < n ∧ I m s₅) (notedBy (model C.prog C.w) A env fun e s' => R (.error e) s') s₄) (notedBy (model C.prog C.w) A env fun e s' => R (.error e) s') s₃
      else ∃ m, m < n ∧ I m s₃) (notedBy (model C.prog C.w) A env fun e s' => R (.error e) s') s₂) (notedBy (model C.prog C.w) A env fun e s' => R (.error e) s') s₁') (notedBy (model C.prog C.w) A env fun e s' => R (.error e) s') s₁) (notedBy (model C.prog C.w) A env fun e s' => R (.error e) s') s)
  (n : Nat) (h : I n s) : codeAny (model C.prog C.w) A (.compLoop (.ListComp elt [⟨target, iter, ifs, 0⟩] scope pos) 0 it acc env) R s := by
 refine codeAny_loop rfl I (fun n s hI => ?_) n h
 show wpAny _ A ((compTurn (.ListComp elt [⟨target, iter, ifs, 0⟩] scope pos) 0 it acc env).onRaise (fun x => do noteFrame x env; theTreesLotGoes x)) _ _ s
 refine wpAny_noted ?_
 rw [compTurn_list]
 refine wpAny_bind (wpAny_standAt (wpAny_bind (wpAny_mono (turn n s hI) (fun r s₁ h₁ => ?_) fun _ _ h' => h')))
 cases r with
 | none => exact wpAny_pure h₁
 | some v =>
  refine wpAny_bind (wpAny_mono h₁ (fun _ s₁' h₁' => ?_) fun _ _ h' => h')
  refine wpAny_bind (wpAny_mono h₁' (fun _ s₂ h₂ => wpAny_bind (wpAny_mono h₂ (fun ok s₃ h₃ => ?_) fun _ _ h' => h')) fun _ _ h' => h')
  cases ok with
  | false => exact wpAny_pure ⟨rfl, h₃⟩
  | true => exact wpAny_bind (wpAny_bind (wpAny_mono h₃ (fun x s₄ h₄ => wpAny_bind (wpAny_mono h₄ (fun _ s₅ h₅ => wpAny_pure (wpAny_pure ⟨rfl, h₅⟩)) fun _ _ h' => h')) fun _ _ h' => h'))
structure CompOk (sc cs : Scope) (fv : List String) (g : Tgt) : Prop where
 kind : cs.kind = .function
 nocell : ∀ y ∈ cs.names, y.2 ≠ .cell
 names : ∀ y ∈ cs.names, y.2 = .local → cs.names.lookup y.1 = some .local
 nodup : (cs.names.map (·.1)).Nodup
 frees : ∀ p ∈ cs.names, p.2 = .free → ∃ x ∈ fv, Str.ofString x = p.1
 frs : ∀ x ∈ fv, (Str.ofString x, NameKind.free) ∈ cs.names ∧ (sc.names.lookup (Str.ofString x) = some .cell ∨ sc.names.lookup (Str.ofString x) = some .free)
 tgt : ∀ x ∈ g.names, x ∉ fv
noncomputable def ov (env : Env) (x : String) : Prop := ∃ c, env.cells.lookup (Str.ofString x) = some c
theorem eM {α : Type} : ∀ {l : List (Str × α)} {n : Str} {c : α}, (l.map (·.1)).Nodup → (n, c) ∈ l → l.lookup n = some c
 | p :: r, n, c, hn, hm => by
  rw [List.map_cons, List.nodup_cons] at hn
  rcases List.mem_cons.mp hm with e | hm
  ·subst e; simp
  ·have : n ≠ p.1 := fun e => hn.1 (e ▸ List.mem_map_of_mem hm)
   rw [List.lookup_cons, show (n == p.1) = false by simp [this]]
   exact eM hn.2 hm
theorem j7 {h : Heap} {a : Addr} {xs : Array Value} (hp : h.PlainList a xs) (o : Obj) (e : h.get? a = some o) : ∀ es ep, o.data ≠ .dict es ep := by
 obtain ⟨n, hn⟩ := hp
 rw [hn] at e; cases e
 intro es ep z; cases z
inductive CompInv (C : Cx) (cenv : Env) (σ₂ : ai) (h : Heap) (I H : Addr) (m : aT) (items : List V) (St : Nat → Heap → Prop) (L : List V → List V → ai → Prop) (n : Nat) (s' : Shared) : Prop
 | mk (i : Nat) (ys : List V) (ws : List Value) (σ' : ai) (rest : List V) (e1 : items.drop i = rest) (e2 : i ≤ items.length) (e3 : n = rest.length + 1) (st : St i s'.heap) (hI : σ' I = Option.none) (hD : σ' h.objs.size = Option.none) (R : RelG C σ' s')
   (F : FrameRel C cenv m σ' s'.heap) (hp : s'.heap.PlainList h.objs.size (List.toArray ws)) (hv : VRels C.aS s'.heap ys ws) (hl : ys.length ≤ 1048576) (S : Step (fun b => b = I ∨ b = h.objs.size ∨ b = H) σ₂ σ' h s'.heap) (q : L rest ys σ') : CompInv C cenv σ₂ h I H m items St L n s'
theorem lP {env : Env} {A : Around} {s₀ s₂ : Shared} {m : aT} {σ₀ σ₂ : ai} {elt iter target : Expr} {ifs : List Expr} {cs : Scope} {pos : Pos} {fv : List String} {g : Tgt} {B : BT} {T : ET} {I : Addr} {items : List V} {inv : ai → Prop} {St : Nat → Heap → Prop}
  {Q : List V → ai → Prop} {RR : Value → Addr → Result → Shared → Prop} {E : Value → Shared → Prop}
  (ok : CompOk sc cs fv g) (hhas : ∀ x ∈ fv, ov env x) (ht : HT C (gh sc cs) k true target g) (hB : HTs C (gh sc cs) k ifs B) (hT : HE C (gh sc cs) k elt T)
  (en : EnvOk env sc) (ao : AOk C A k) (R₀ : RelG C σ₀ s₀) (S : Step no σ₀ σ₂ s₀.heap s₂.heap) (R₂ : RelG C σ₂ s₂) (F : FrameRel C env m σ₂ s₂.heap) (hit : It C k I items inv St) (st : St 0 s₂.heap) (hI : s₀.heap.objs.size ≤ I) (hσI : σ₂ I = Option.none)
  (q : cq g inv B T (only fv m) items [] σ₂ Q)
  (hRR : ∀ D C' ys ws mm σ' s', Heap.Ns s'.heap C' mm → s₂.heap.objs.size ≤ C' → s₂.heap.objs.size ≤ D → D ≠ C' → σ' D = Option.none → σ' C' = Option.none → s'.heap.PlainList D (List.toArray ws) → VRels C.aS s'.heap ys ws → RelG C σ' s' →
   ys.length ≤ 1048576 → Step no σ₀ σ' s₀.heap s'.heap → Step (fun b => b = I) σ₂ σ' s₂.heap s'.heap → Q ys σ' → RR (.ref D) C' (.ok .next) s') :
  wpAny (model C.prog C.w) A (newList []) (fun acc s₃ => wpAny (model C.prog C.w) A (newFunctionEnv cs env.globals (li env.cells cs.names []) [] env.qual Option.none .none (some env)) (fun cenv s₄ =>
   codeAny (model C.prog C.w) A (.compStart (.ListComp elt [⟨target, iter, ifs, 0⟩] cs pos) 0 (.ref I) acc { cenv with scope := relabel cs env }) (RR acc cenv.locals) s₄) E s₃) E s₂ := by
 have hfree : ∀ p ∈ cs.names, p.2 = .free → ∃ c, env.cells.lookup p.1 = some c := fun p hp hq => by
  obtain ⟨x, hx, e⟩ := ok.frees p hp hq
  rw [← e]; exact hhas x hx
 refine wpAny_newObj_type (wpAny_newFunctionEnv ok.nocell (by intro y hy; simp at hy) (fun h₁ hns₁ hsb₁ => ?_) ok.kind)
 dsimp only at hns₁ hsb₁ ⊢
 generalize hH2 : s₂.heap.push { cls := .type "list", dict := Option.none, data := .seq ([] : List Value).toArray } = H2 at hns₁ hsb₁ ⊢
 have hC : H2.objs.size = s₂.heap.objs.size + 1 := by rw [← hH2, Heap.size_push]
 have hDC : s₂.heap.objs.size ≠ H2.objs.size := by rw [hC]; exact Nat.ne_of_lt (Nat.lt_succ_self _)
 have old : ∀ b o, s₂.heap.get? b = some o → h₁.get? b = some o := fun b o e => hsb₁.extBut b o (by rw [hC]; exact Nat.ne_of_lt (Nat.lt_succ_of_lt (Heap.lt_size e))) (Heap.get?_push_of_some _ (hH2 ▸ Heap.get?_push_of_some _ e))
 have hacc : h₁.PlainList s₂.heap.objs.size (List.toArray []) := ⟨_, hsb₁.extBut _ _ hDC (Heap.get?_push_of_some _ (hH2 ▸ Heap.get?_push_size _ rfl))⟩
 have hsz₁ : h₁.objs.size = s₂.heap.objs.size + 2 := by rw [hsb₁.1, Heap.size_push, hC]
 have R₁ : RelG C σ₂ { s₂ with heap := h₁, toks := s₂.toks + ([] : List (Str × Value)).length } := R₂.grow old
 have cl := kG (cells := env.cells) cs.names [] hfree
 have kindF : ∀ x ∈ fv, (gh sc cs).names.lookup (Str.ofString x) = some .cell ∨ (gh sc cs).names.lookup (Str.ofString x) = some .free := fun x hx =>
  ql (eM ok.nodup (ok.frs x hx).1)
 have hLC : (compEnvC cs (li env.cells cs.names []) H2.objs.size env).locals = H2.objs.size := rfl
 have eS : (compEnvC cs (li env.cells cs.names []) H2.objs.size env).scope = gh sc cs := by show relabel cs env = _; rw [oQ, en.scope]
 have eCl : (compEnvC cs (li env.cells cs.names []) H2.objs.size env).cells = li env.cells cs.names [] := rfl
 have enC : EnvOk (compEnvC cs (li env.cells cs.names []) H2.objs.size env) (gh sc cs) := ⟨eS, ok.kind, en.globals, en.builtins⟩
 have memF : ∀ n c, (li env.cells cs.names []).lookup n = some c → (n, NameKind.free) ∈ cs.names ∧ env.cells.lookup n = some c := fun n c e => by
  rw [cl n] at e
  split at e
  ·exact ⟨by assumption, e⟩
  ·simp at e
 have kc : ∀ c v, s₂.heap.IsCell c v → h₁.IsCell c v := fun c v ⟨o, ho, hd⟩ => ⟨o, old c o ho, hd⟩
 have F₁ : FrameRel C (compEnvC cs (li env.cells cs.names []) H2.objs.size env) (only fv m) σ₂ h₁ := by
  refine ⟨⟨_, hns₁, fun x v e kx => ?_⟩, fun x v e => ?_, fun n c e => ?_, R₂.freshNone (aI (by rw [hLC, hC]; exact Nat.le_succ _)), R₂.baseNone (aI (by rw [hLC, hC]; exact Nat.le_succ _)), fun n c e => ?_, ?_, fun n e => ?_⟩
  ·unfold only at e
   split at e
   ·rename_i hx
    rcases kindF x hx with z | z <;> (rw [enC.of z] at kx; cases kx)
   ·cases e
  ·unfold only at e
   split at e
   ·rename_i hx
    rcases F.cel x v e with z | ⟨z, c, w, h1, h2, h3⟩
    ·exfalso
     rcases (ok.frs x hx).2 with y | y <;> (rw [en.of y] at z; cases z)
    ·refine .inr ⟨?_, c, w, ?_, kc _ _ h2, h3.keep fun b o e _ => old b o e⟩
     ·exact (kindF x hx).imp (fun z => enC.of z) fun z => enC.of z
     ·rw [eCl, cl, if_pos (ok.frs x hx).1]; exact h1
   ·cases e
  ·obtain ⟨v, hv⟩ := F.cells n c (memF n c e).2
   exact ⟨v, kc _ _ hv⟩
  ·exact F.baseC n c (memF n c e).2
  ·exact kH F.dist cs.names [] hfree ok.nodup (fun p hp => by cases hp) List.Pairwise.nil
  ·have go : (n, NameKind.free) ∈ cs.names → ∃ c, (li env.cells cs.names []).lookup n = some c := fun z => by
    obtain ⟨c, hc⟩ := hfree _ z rfl
    exact ⟨c, by rw [cl, if_pos z]; exact hc⟩
   rcases e with e | e
   ·have e' : (gh sc cs).names.lookup n = some .cell := by unfold Env.kindOf at e; rw [eS] at e; exact e
    rcases qm e' with z | z
    ·exact go z
    ·exact absurd rfl (ok.nocell _ z)
   ·have e' : (gh sc cs).names.lookup n = some .free := by unfold Env.kindOf at e; rw [eS] at e; exact e
    exact go (mn e')
 have hI2 : I < s₂.heap.objs.size := by obtain ⟨o, ho, _⟩ := hit.live _ _ st; exact Heap.lt_size ho
 have st₁ : St 0 h₁ := hit.frame _ _ _ st (fun o e => old I o e) (fun b o e _ => old b o e)
 have S₁ : Step (fun b => b = I ∨ b = s₂.heap.objs.size ∨ b = H2.objs.size) σ₂ σ₂ s₂.heap h₁ := .grow old (by rw [hsz₁]; exact Nat.le_add_right _ _)
 have hσD : σ₂ s₂.heap.objs.size = Option.none := R₂.freshNone (bQ _)
 have hIb : C.hB.get? I = Option.none := R₀.baseNone (aI hI)
 have hIL : I ≠ H2.objs.size := by rw [hC]; exact Nat.ne_of_lt (Nat.lt_succ_of_lt hI2)
 have wk : ∀ {v m'}, dB g v (only fv m) = some m' → ∀ x u, only fv m x = some u → m' x = some u := fun hb x u e => by
  rw [oi hb]; exact e
  intro hx
  unfold only at e
  rw [if_neg (ok.tgt x hx)] at e; cases e
 have loop : ∀ s₃ : Shared, s₃ = { s₂ with heap := h₁, toks := s₂.toks + ([] : List (Str × Value)).length } →
   codeAny (model C.prog C.w) A (.compLoop (.ListComp elt [⟨target, iter, ifs, 0⟩] cs pos) 0 (.ref I) (.ref s₂.heap.objs.size) (compEnvC cs (li env.cells cs.names []) H2.objs.size env)) (RR (.ref s₂.heap.objs.size) H2.objs.size) s₃ := by
  rintro s₃ rfl
  generalize compEnvC cs (li env.cells cs.names []) H2.objs.size env = cenv at hLC eS eCl enC F₁ ⊢
  refine mI
   (CompInv C cenv σ₂ s₂.heap I H2.objs.size (only fv m) items St fun rest ys σ' => cq g inv B T (only fv m) rest ys σ' Q) ?_ _
   ⟨0, [], [], σ₂, items, by simp, by simp, rfl, st₁, hσI, hσD, R₁, F₁, hacc, .nil, by simp, S₁, q⟩
  rintro n s' ⟨i, ys, ws, σ', rest, e1, e2, rfl, st', hσ', hσD', R', F', hp', hv', hl', S', q'⟩
  have nT : ∀ o, s'.heap.get? s₂.heap.objs.size = some o → ¬ ld o ∧ ∀ v, o.data ≠ .cell v := fun o ho => by
   obtain ⟨n, hn⟩ := hp'; rw [hn] at ho; cases ho; exact ⟨by simp [ld], by simp⟩
  have drew : ∀ {h' : Heap}, Heap.ExtBut I s'.heap h' → s'.heap.objs.size ≤ h'.objs.size → Step (fun b => b = I ∨ b = s₂.heap.objs.size ∨ b = H2.objs.size) σ' σ' s'.heap h' := fun hx hsz =>
   .of (fun b o e _ q => hx b o (fun z => q (.inl z)) e) hsz fun _ a b => absurd a b
  have ktI : ∀ {h' : Heap}, Heap.ExtBut I s'.heap h' → bb s'.heap h' := fun hx b o e ht => hx b o (by
   rintro rfl; obtain ⟨oI, hoI, hT, _⟩ := hit.live _ _ st'; rw [hoI] at e; cases e; exact hT ht) e
  cases rest with
  | nil =>
   have hil : i = items.length := iH e1 e2
   subst hil
   refine br (hit.done A σ' s' _ _ ao R' q'.1 st' fun h' tk hx hsz => ?_)
   have R₃ := cG (tk := tk) R' hx hσ' hIb (hit.live _ _ st')
   have F₃ := cg F' hx (hit.live _ _ st') (by rw [hLC]; exact hIL)
   have S₃ := S'.trans (drew hx hsz)
   obtain ⟨mm, hmm, _⟩ := F₃.ns
   rw [hLC] at hmm
   have sep := F₃.sepL
   rw [hLC] at sep
   refine hRR _ _ ys ws mm σ' _ hmm (by rw [hC]; exact Nat.le_succ _) (Nat.le_refl _) hDC hσD' sep (hp'.extBut hx (Nat.ne_of_gt hI2)) (hv'.keep (ktI hx)) R₃ hl' (((S.mono fun _ _ _ z => z.elim).trans S₃).mono fun b o e z => ?_) (S₃.mono fun b o e z => ?_) q'.2
   ·have := Heap.lt_size e
    have hh := S.size
    rcases z with z | z | z
    ·exact absurd this (by rw [z]; exact Nat.not_lt.mpr hI)
    ·exact absurd this (by rw [z]; exact Nat.not_lt.mpr hh)
    ·exact absurd this (by rw [z, hC]; exact Nat.not_lt.mpr (Nat.le_succ_of_le hh))
   ·have := Heap.lt_size e
    rcases z with z | z | z
    ·exact z
    ·exact absurd this (by rw [z]; exact Nat.lt_irrefl _)
    ·exact absurd this (by rw [z, hC]; exact Nat.not_lt.mpr (Nat.le_succ _))
  | cons v r =>
   obtain ⟨hinv, m₁, hm₁, q'⟩ := q'
   have hiv : items[i]? = some v := by
    have : (items.drop i)[0]? = some v := by rw [e1]; rfl
    simpa using this
   have hilt : i < items.length := jM e1
   refine br (hit.next A σ' s' i v _ _ ao R' hinv st' hiv fun w h₂ tk₂ hv st₂ hx hsz => ?_)
   have R₃ := cG (tk := tk₂) R' hx hσ' hIb (hit.live _ _ st')
   have F₃ := cg F' hx (hit.live _ _ st') (by rw [hLC]; exact hIL)
   have S₃ := S'.trans (drew hx hsz)
   have hp₃ := hp'.extBut hx (Nat.ne_of_gt hI2)
   have hv₃ := hv'.keep (ktI hx)
   refine hit.own A _ (i + 1) target w _ _ st₂ ?_
   refine ht.run cenv A _ (only fv m) m₁ σ' v w _ _ enC ao R₃ F₃ hv hm₁ fun s₄ R₄ F₄ S₄ => ?_
   have S₄' : Step (fun b => b = H2.objs.size) σ' σ' h₂ s₄.heap := S₄.mono fun b _ _ z => z.elim (fun z => by rw [hLC] at z; exact z) fun z => by cases z.1
   have kt₄ : bb h₂ s₄.heap := S₄'.tups (s := { s' with heap := h₂, toks := tk₂ }) R₃ fun b o z e => by
    subst z; rw [← hLC] at e; exact F₃.ownT _ o (.inl rfl) e
   have st₄ : St (i + 1) s₄.heap := hit.frame _ _ _ st₂ (fun o e => S₄'.keep I o e hσ' hIL (hit.flds _ _ st₂ o e)) kt₄
   have hp₄ : s₄.heap.PlainList s₂.heap.objs.size (List.toArray ws) := hp₃.at fun o e => S₄'.keep _ o e hσD' hDC (j7 hp₃ o e)
   have hv₄ := hv₃.keep kt₄
   have S₅ : Step (fun b => b = I ∨ b = s₂.heap.objs.size ∨ b = H2.objs.size) σ₂ σ' s₂.heap s₄.heap := S₃.trans (S₄'.mono fun _ _ _ z => .inr (.inr z))
   refine hB.run cenv A s₄ m₁ σ' _ _ _ enC ao R₄ F₄ q' fun b σ₅ s₅ R₅ Sb q₅ => ?_
   have sepI : ∀ {σa σb : ai} {sa : Shared} {hb : Heap}, Step no σa σb sa.heap hb → St (i + 1) sa.heap → σa I = Option.none → σb I = Option.none := fun {σa σb sa hb} Sx stx hx => by
    cases z : σb I with
    | none => rfl
    | some o =>
     obtain ⟨o', ho', _⟩ := hit.live _ _ stx
     exact absurd (Heap.lt_size ho') (Nat.not_lt.mpr (Sx.new I hx (by rw [z]; simp)))
   have sepD : ∀ {σa σb : ai} {sa : Shared} {hb : Heap}, Step no σa σb sa.heap hb → sa.heap.PlainList s₂.heap.objs.size (List.toArray ws) → σa s₂.heap.objs.size = Option.none → σb s₂.heap.objs.size = Option.none := fun {σa σb sa hb} Sx hpx hx => by
    cases z : σb s₂.heap.objs.size with
    | none => rfl
    | some o =>
     obtain ⟨n', hn'⟩ := hpx
     exact absurd (Heap.lt_size hn') (Nat.not_lt.mpr (Sx.new _ hx (by rw [z]; simp)))
   have st₅ : St (i + 1) s₅.heap := hit.frame _ _ _ st₄ (fun o e => Sb.keep I o e hσ' (fun z => z) (hit.flds _ _ st₄ o e)) (Sb.tupsN R₄)
   have hp₅ : s₅.heap.PlainList s₂.heap.objs.size (List.toArray ws) := hp₄.at fun o e => Sb.keep _ o e hσD' (fun z => z) (j7 hp₄ o e)
   have hv₅ := hv₄.keep (Sb.tupsN R₄)
   have F₅ := F₄.step R₄ Sb
   have hσ₅ := sepI Sb st₄ hσ'
   have hσD₅ := sepD Sb hp₄ hσD'
   have S₆ := S₅.trans (Sb.mono fun _ _ _ z => z.elim)
   have dr : items.drop (i + 1) = r := by rw [← List.tail_drop, e1]; rfl
   cases b with
   | false =>
    simp only [Bool.false_eq_true, if_false] at q₅ ⊢
    exact ⟨r.length + 1, Nat.lt_succ_self _, i + 1, ys, ws, σ₅, r, dr, hilt, rfl, st₅, hσ₅, hσD₅, R₅, F₅.weaken (wk hm₁), hp₅, hv₅, hl', S₆, q₅⟩
   | true =>
    simp only [if_true] at q₅ ⊢
    refine hT.run cenv A s₅ m₁ σ₅ _ _ _ enC ao R₅ F₅ q₅ fun y wy σ₆ s₆ hy R₆ Sc q₆ => ?_
    obtain ⟨hlen, q₆⟩ := q₆
    have st₆ : St (i + 1) s₆.heap := hit.frame _ _ _ st₅ (fun o e => Sc.keep I o e hσ₅ (fun z => z) (hit.flds _ _ st₅ o e)) (Sc.tupsN R₅)
    have hp₆ : s₆.heap.PlainList s₂.heap.objs.size (List.toArray ws) := hp₅.at fun o e => Sc.keep _ o e hσD₅ (fun z => z) (j7 hp₅ o e)
    have hv₆ := hv₅.keep (Sc.tupsN R₅)
    have hσ₆ := sepI Sc st₅ hσ₅
    have hσD₆ := sepD Sc hp₅ hσD₅
    have F₆ := F₅.step R₅ Sc
    refine wpAny_list_append_plain hp₆ (fun h₇ hp₇ hs₇ => ?_) (by rw [List.size_toArray, ← hv₆.length, sizeLine_eq]; exact Nat.le_trans hl' (by decide))
    have nD : ∀ o, s₆.heap.get? s₂.heap.objs.size = some o → ¬ ld o ∧ ∀ v, o.data ≠ .cell v := fun o ho => by
     obtain ⟨n, hn⟩ := hp₆; rw [hn] at ho; cases ho; exact ⟨by simp [ld], by simp⟩
    obtain ⟨oD, hoD⟩ : ∃ o, s₆.heap.get? s₂.heap.objs.size = some o := let ⟨n, hn⟩ := hp₆; ⟨_, hn⟩
    have kt₇ : bb s₆.heap h₇ := fun b o e ht => hs₇.extBut b o (by rintro rfl; exact (nD o e).1 ht) e
    have R₇ : RelG C σ₆ { s₆ with heap := h₇ } := cG (tk := s₆.toks) R₆ hs₇.extBut hσD₆ (R₂.baseNone (bQ _)) ⟨oD, hoD, nD oD hoD⟩
    have F₇ : FrameRel C cenv m₁ σ₆ h₇ := cg F₆ hs₇.extBut ⟨oD, hoD, nD oD hoD⟩ (by rw [hLC]; exact hDC)
    have st₇ : St (i + 1) h₇ := hit.frame _ _ _ st₆ (fun o e => hs₇.extBut I o (Nat.ne_of_lt hI2) e) kt₇
    refine ⟨r.length + 1, Nat.lt_succ_self _, i + 1, ys ++ [y], ws ++ [wy], σ₆, r, dr, hilt, rfl, st₇, hσ₆, hσD₆, R₇, F₇.weaken (wk hm₁), by simpa using hp₇, (hv₆.append (.cons hy .nil)).keep kt₇, by simp; exact Nat.le_of_lt_succ hlen, (S₆.trans (Sc.mono fun _ _ _ z => z.elim)).trans ?_, q₆⟩
    exact .of (fun b o e _ q => hs₇.extBut b o (fun z => q (.inr (.inl z))) e) (Nat.le_of_eq hs₇.1.symm) fun _ a b => absurd a b
 exact codeAny_compStart_list (loop _ rfl) (hit.self A _ 0 _ _ st₁ (loop _ rfl))
theorem mD {env : Env} {m : aT} {σ : ai} {h : Heap} {cs : Scope} {fv : List String} {g : Tgt} (ok : CompOk sc cs fv g) (en : EnvOk env sc) (F : FrameRel C env m σ h) : ∀ x ∈ fv, ov env x := fun x hx =>
 F.has _ ((ok.frs x hx).2.imp (fun z => en.of z) fun z => en.of z)
theorem RelG.enter {σ : ai} {s : Shared} {D : Addr} {o : AObj} (R : RelG C σ s) (hD : C.hB.get? D = Option.none) (ho : ObjRel C s.heap D o) : RelG C (a8 σ D o) s :=
 ⟨R.rest, R.base, fun a o' e => by
  by_cases h : a = D
  ·subst h; rw [ay] at e; cases e; exact ho
  ·rw [bh h] at e; exact R.view a o' e,
   fun a ha => by
  by_cases h : a = D
  ·subst h; exact hD
  ·rw [bh h] at ha; exact R.apart a ha⟩
theorem Step.enter {own : Addr → Prop} {σ σ' : ai} {h h' : Heap} {D : Addr} {o : AObj} (S : Step own σ σ' h h') (hD : h.objs.size ≤ D) : Step own σ (a8 σ' D o) h h' :=
 ⟨S.keepL, S.size, fun b n z => by
  by_cases hb : b = D
  ·subst hb; exact hD
  ·rw [bh hb] at z; exact S.new b n z⟩
theorem gX {elt iter target : Expr} {ifs : List Expr} {cs : Scope} {pos : Pos} {fv : List String} {g : Tgt} {I : IT} {B : BT} {T : ET} (ok : CompOk sc cs fv g)
  (hi : HI C sc k iter I) (ht : HT C (gh sc cs) k true target g) (hB : HTs C (gh sc cs) k ifs B) (hT : HE C (gh sc cs) k elt T) (hf : ∀ env x, foldedSetIterable iter env x = pure x) :
  HE C sc k (.ListComp elt [⟨target, iter, ifs, 0⟩] cs pos) (eo fv g I B T) := by
 refine ⟨?_⟩; intro env A s m σ Q P E en ao R F q hP
 have hfree : ∀ p ∈ cs.names, p.2 = .free → ∃ c, env.cells.lookup p.1 = some c := fun p hp hq => by
  obtain ⟨x, hx, e⟩ := ok.frees p hp hq
  rw [← e]; exact mD ok en F x hx
 rw [eval_ListComp]
 refine wpAny_comprehension_free (use := Option.none) rfl (hf env) (kF hfree) ok.kind ok.names (hi.run env A s m σ _ _ E en ao R F q fun items inv I St σ₂ s₂ hit st hI hσI R₂ S₂ q₂ => ?_)
 refine lP (RR := fun acc C' => compPost (model C.prog C.w) A E Option.none P acc C') ok (mD ok en F) ht hB hT en ao R S₂ R₂ (F.step R S₂) hit st hI hσI q₂ ?_
 intro D C' ys ws mm σ' s' hmm hC' hD hDC hσD hσC hp hv R' hly S' SI q'
 refine ⟨mm, hmm, fun h'' hs'' => ?_⟩
 have nT : ∀ o, s'.heap.get? C' = some o → ¬ ld o ∧ ∀ v, o.data ≠ .cell v := fun o ho => by
  obtain ⟨o', es, ep, ho', hd', _⟩ := hmm; rw [ho'] at ho; cases ho; exact ⟨by simp [ld, hd'], by simp [hd']⟩
 obtain ⟨oC, hoC⟩ : ∃ o, s'.heap.get? C' = some o := let ⟨o', _, _, ho', _⟩ := hmm; ⟨o', ho'⟩
 have hC0 : s.heap.objs.size ≤ C' := Nat.le_trans S₂.size hC'
 have hD0 : s.heap.objs.size ≤ D := Nat.le_trans S₂.size hD
 have kt : bb s'.heap h'' := fun b o e ht => hs''.extBut b o (by rintro rfl; exact (nT o e).1 ht) e
 have R₃ : RelG C σ' { s' with heap := h'' } := cG (tk := s'.toks) R' hs''.extBut hσC (R.baseNone (aI hC0)) ⟨oC, hoC, nT oC hoC⟩
 have R₄ := R₃.enter (D := D) (o := .list ys) (R.baseNone (aI hD0)) ⟨by exact Nat.le_trans hly (by decide), ws, hp.extBut hs''.extBut hDC, hv.keep kt⟩
 have S₃ : Step (fun b => b = C') σ' σ' s'.heap h'' := .of (fun b o e _ q => hs''.extBut b o q e) (Nat.le_of_eq hs''.1.symm) fun _ a b => absurd a b
 have S₄ : Step no σ σ' s.heap h'' := ((S'.mono fun _ _ _ z => z.elim).trans S₃).mono fun b o e z => absurd (Heap.lt_size e) (by rw [z]; exact Nat.not_lt.mpr hC0)
 exact hP _ _ _ _ (.ref D) R₄ (S₄.enter hD0) (q' D hσD)
theorem eA {elt iter target : Expr} {ifs : List Expr} {cs : Scope} {pos p spos : Pos} {x : String} {fv : List String} {g : Tgt} {I : IT} {B : BT} {T : ET} (ok : CompOk sc cs fv g)
  (hi : HI C sc k iter I) (ht : HT C (gh sc cs) k true target g) (hB : HTs C (gh sc cs) k ifs B) (hT : HE C (gh sc cs) k elt T) (hf : ∀ env x, foldedSetIterable iter env x = pure x)
  (hx : sc.names.lookup (Str.ofString x) = some .local) (hsw : ∀ env, EnvOk env sc → swapsWith (.ListComp elt [⟨target, iter, ifs, 0⟩] cs pos) (some (.Name (Str.ofString x) p)) spos.line env = pure true) :
  HS1 C sc k (.Assign [.Name (Str.ofString x) p] (.ListComp elt [⟨target, iter, ifs, 0⟩] cs pos) spos) (a7 x (eo fv g I B T)) := by
 refine ⟨?_⟩; intro env A s m σ Q P E en ao R F q hP
 have hfree : ∀ p ∈ cs.names, p.2 = .free → ∃ c, env.cells.lookup p.1 = some c := fun p hp hq => by
  obtain ⟨x, hx, e⟩ := ok.frees p hp hq
  rw [← e]; exact mD ok en F x hx
 rw [exec_Assign_Name_used _ _ _ _ (hsw env en)]
 refine wpAny_bind (wpAny_standAt (wpAny_bind ?_))
 show wpAny _ A (do let _ ← comprehension (.ListComp elt [⟨target, iter, ifs, 0⟩] cs pos) cs env _ (newList []) false (eval iter env) (some (assign (.Name (Str.ofString x) p) env))) _ _ s
 refine wpAny_bind (wpAny_mono (wpAny_comprehension_free (use := some (assign (.Name (Str.ofString x) p) env)) (Q := fun _ s' => P .next s') rfl (hf env) (kF hfree) ok.kind ok.names (hi.run env A s m σ _ _ E en ao R F q fun items inv I St σ₂ s₂ hit st hI hσI R₂ S₂ q₂ => ?_))
  (fun _ s' hq => wpAny_pure (wpAny_pure hq)) fun _ _ e => e)
 refine lP (RR := fun acc C' => compPost (model C.prog C.w) A E (some (assign (.Name (Str.ofString x) p) env)) (fun _ s' => P .next s') acc C') ok (mD ok en F) ht hB hT en ao R S₂ R₂ (F.step R S₂) hit st hI hσI q₂ ?_
 intro D C' ys ws mm σ' s' hmm hC' hD hDC hσD hσC hp hv R' hly S' SI q'
 have hC0 : s.heap.objs.size ≤ C' := Nat.le_trans S₂.size hC'
 have hD0 : s.heap.objs.size ≤ D := Nat.le_trans S₂.size hD
 have R₃ := R'.enter (D := D) (o := .list ys) (R.baseNone (aI hD0)) ⟨by exact Nat.le_trans hly (by decide), ws, hp, hv⟩
 have S₃ := S'.enter (o := .list ys) hD0
 have F₃ := F.step R S₃
 have hCL : C' ≠ env.locals := fun e => by
  obtain ⟨mL, hmL, _⟩ := F.ns
  exact absurd hmL.lt (by rw [← e]; exact Nat.not_lt.mpr hC0)
 refine wpAny_assign_Name (cy en R₃ F₃ hx (.ref D) fun s₄ R₄ F₄ S₄ => ?_)
 have hσ₃C : a8 σ' D (.list ys) C' = Option.none := by rw [bh (Ne.symm hDC)]; exact hσC
 have hmm4 : s₄.heap.Ns C' mm := Like.ns hmm fun o e => S₄.keepL C' o e hσ₃C hCL
 refine ⟨mm, hmm4, fun h'' hs'' => ?_⟩
 have nT : ∀ o, s₄.heap.get? C' = some o → ¬ ld o ∧ ∀ v, o.data ≠ .cell v := fun o ho => by
  obtain ⟨o', es, ep, ho', hd', _⟩ := hmm4; rw [ho'] at ho; cases ho; exact ⟨by simp [ld, hd'], by simp [hd']⟩
 obtain ⟨oC, hoC⟩ : ∃ o, s₄.heap.get? C' = some o := let ⟨o', _, _, ho', _⟩ := hmm4; ⟨o', ho'⟩
 have R₅ := cG (tk := s₄.toks) R₄ hs''.extBut hσ₃C (R.baseNone (aI hC0)) ⟨oC, hoC, nT oC hoC⟩
 have F₅ := cg F₄ hs''.extBut ⟨oC, hoC, nT oC hoC⟩ hCL
 have S₅ : Step (fun b => b = env.locals ∨ b = C') (a8 σ' D (.list ys)) (a8 σ' D (.list ys)) s'.heap h'' := (S₄.mono fun _ _ _ z => .inl z).trans (.of (fun b o e _ q => hs''.extBut b o (fun z => q (.inr z)) e) (Nat.le_of_eq hs''.1.symm) fun _ a b => absurd a b)
 have S₆ : Step (i6 env) σ (a8 σ' D (.list ys)) s.heap h'' := ((S₃.mono fun _ _ _ z => z.elim).trans S₅).mono fun b o e z => z.elim .inl fun z => absurd (Heap.lt_size e) (by rw [z]; exact Nat.not_lt.mpr hC0)
 exact hP .next .next _ _ _ .next R₅ F₅ S₆ (q' D hσD)
end
end Mine
end
noncomputable section
namespace Mine
open PySem
section
variable {C : Cx} {sc : Scope} {k : Nat}
noncomputable def iC : Expr → Bool
 | .Slice .. => true
 | _ => false
theorem eO {A : Around} {s : Shared} {slice : Expr} {o i : Value} {T id : String} {P E : Value → Shared → Prop} (hsl : iC slice = false) (hT : s.TypeIs o T)
  (hl : typeLookup (.type T) "__getitem__" = pure (some (.builtin id))) (hg : wpAny (model C.prog C.w) A (getItem o i) P E s) :
  wpAny (model C.prog C.w) A (getitemInPython o >>= fun b => subscripted slice b o i) P E s := by
 refine wpAny_bind ?_
 rw [getitemInPython_of_ne hT.not_modules]
 refine wpAny_bind (wpAny_specialOf hT hl ?_)
 refine wpAny_pure ?_
 have : subscripted slice false o i = operate [o, i] (getItem o i) := by
  unfold subscripted
  cases slice <;> first | rfl | cases hsl
 rw [this]
 exact wpAny_operating hg
noncomputable def ox (i : Int) (n : Nat) : Option Nat := if 0 ≤ i then (if i < n then some i.toNat else Option.none) else (if -(n : Int) ≤ i then some (i + n).toNat else Option.none)
noncomputable def aG (ns : List Int) : O2
 | .str x, .int i, σ, Q => x.length < 16777217 ∧ ∃ j c, ox i x.length = some j ∧ x.cps.toList[j]? = some c ∧ Q (.str ⟨#[c]⟩) σ
 | .script, .int i, σ, Q => ∃ j n, 0 ≤ i ∧ ox i ns.length = some j ∧ ns[j]? = some n ∧ Q (.int n) σ
 | .tup vs, .int i, σ, Q => vs.length < 16777217 ∧ ∃ j v, ox i vs.length = some j ∧ vs[j]? = some v ∧ Q v σ
 | .ref a, .int i, σ, Q => ∃ xs j v, σ a = some (.list xs) ∧ ox i xs.length = some j ∧ xs[j]? = some v ∧ Q v σ
 | _, _, _, _ => False
theorem rM {i : Int} {n : Nat} (h : -(n : Int) ≤ i) : 0 ≤ i + n := by have := Int.add_le_add_right h n; rwa [Int.add_left_neg] at this
theorem rN {i : Int} {n : Nat} (h : i < 0) : i + n < n := by have := Int.add_lt_add_right h (n : Int); rwa [Int.zero_add] at this
theorem rO {i : Int} {n : Nat} (h0 : 0 ≤ i) (h : i < n) : i.toNat < n := by obtain ⟨m, rfl⟩ := Int.eq_ofNat_of_zero_le h0; exact Int.ofNat_lt.mp h
theorem fits {n : Nat} {i N : Int} (h1 : -(n : Int) ≤ i) (h2 : i < n) (hz : n ≤ 16777216) (hN : ((16777216 : Nat) : Int) ≤ N) : -N ≤ i ∧ i < N :=
 ⟨Int.le_trans (Int.neg_le_neg (Int.le_trans (Int.ofNat_le.mpr hz) hN)) h1, Int.lt_of_lt_of_le h2 (Int.le_trans (Int.ofNat_le.mpr hz) hN)⟩
theorem pJ {i : Int} {n j : Nat} (h : ox i n = some j) : seqIndex? i n = some j := by
 unfold ox at h
 unfold seqIndex?
 split at h
 ·split at h
  ·cases h
   rename_i h1 h2
   simp [Int.not_lt.mpr h1, h1, h2]
  ·cases h
 ·split at h
  ·cases h
   rename_i h1 h2
   have : i < 0 := by exact Int.not_le.mp h1
   simp only [this, if_true]
   rw [if_pos (by simp only [Bool.and_eq_true, decide_eq_true_eq]; exact ⟨rM h2, rN this⟩)]
  ·cases h
theorem oY {i : Int} {n j : Nat} (h : ox i n = some j) : j < n ∧ -(n : Int) ≤ i ∧ i < n := by
 unfold ox at h
 split at h
 ·split at h
  ·rename_i h1 h2; cases h; exact ⟨rO h1 h2, Int.le_trans (Int.neg_nonpos_of_nonneg (Int.natCast_nonneg n)) h1, h2⟩
  ·cases h
 ·split at h
  ·rename_i h1 h2; cases h; exact ⟨rO (rM h2) (rN (Int.not_le.mp h1)), h2, Int.lt_of_lt_of_le (Int.not_le.mp h1) (Int.natCast_nonneg n)⟩
  ·cases h
theorem nR {A : Around} {s : Shared} {a : Addr} {ws : List Value} {i : Int} {t : Tok} {j : Nat} {w : Value} {P E : Value → Shared → Prop} (hl : s.heap.IsList a ws.toArray) (hi : ox i ws.length = some j) (hw : ws[j]? = some w) (hz : ws.length ≤ 16777216) (q : P w s) :
  wpAny (model C.prog C.w) A (getItem (.ref a) (.int i t)) P E s := by
 have hlt := oY hi
 by_cases h0 : 0 ≤ i
 ·have : j = i.toNat := by unfold ox at hi; rw [if_pos h0] at hi; split at hi <;> cases hi; rfl
  subst this
  exact wpAny_getItem_list hl h0 (fits hlt.2.1 hlt.2.2 hz (by decide)).2 (by simpa using hw) q
 ·have : j = (i + ws.length).toNat := by unfold ox at hi; rw [if_neg h0] at hi; split at hi <;> cases hi; rfl
  subst this
  refine wpAny_getItem_list_neg hl (by exact Int.not_le.mp h0) (by simp; exact hlt.2.1) (fits hlt.2.1 hlt.2.2 hz (by decide)).1 (by simpa using hw) q
theorem tq (O : C.Ok) {slice : Expr} (hsl : iC slice = false) : jH C k (fun o i => getitemInPython o >>= fun b => subscripted slice b o i) (aG C.ns) := by
 intro A s σ a b wa wb Q P E ao R va vb q hP
 cases a <;> first | exact q.elim | skip
 all_goals (cases b <;> first | exact q.elim | skip)
 ·rename_i x i
  cases va; cases vb
  obtain ⟨hx, j, c, hj, hc, q⟩ := q
  refine eO hsl (typeIs_str _ _ _) F.slot_str_getitem.lookup ?_
  have hlt := oY hj
  have e : Txt.charAt x i = some c := by
   unfold Txt.charAt
   rw [pJ hj]
   simpa using hc
  refine SB.getItem ?_ (by rw [e]; rfl) ?_
  ·unfold fitsSsize; simp; exact fits hlt.2.1 hlt.2.2 (Nat.le_of_lt_succ hx) (by decide)
  ·have e2 : Txt.item x i = ⟨#[c]⟩ := by unfold Txt.item; rw [e]; rfl
   rw [e2]
   exact hP _ _ σ _ (.str _ _) (R.tok _) Step.refl q
 ·rename_i aa i
  cases va; cases vb
  obtain ⟨xs, j, v, hx, hj, hv, q⟩ := q
  obtain ⟨hz, ws, h1, h2⟩ := R.view aa _ hx
  obtain ⟨w, hw, hr⟩ := h2.get hv
  exact eO hsl h1.isList.typeIs slot_list_getitem.lookup (nR h1.isList (by rw [← h2.length]; exact hj) hw (by rw [← h2.length]; exact hz) (hP _ _ σ s hr R Step.refl q))
 ·rename_i i
  cases va; cases vb
  obtain ⟨j, n, h0, hj, hv, q⟩ := q
  obtain ⟨ws, h1, h2, h3⟩ := O.script
  obtain ⟨t, ht⟩ := h3 j n hv
  have hl : s.heap.IsList C.aS ws := h1.at fun o e => R.base _ _ e
  have hl' : s.heap.IsList C.aS ws.toList.toArray := by simpa using hl
  exact eO hsl hl.typeIs slot_list_getitem.lookup (nR hl' (by rw [h2]; exact hj) ht (by rw [h2]; exact Nat.le_trans O.few (by decide)) (hP _ _ σ s (.int n t) R Step.refl q))
 ·rename_i vs i
  cases vb
  cases va with
  | @tup _ at' ws ht hvs =>
   obtain ⟨hz, j, v, hj, hv, q⟩ := q
   obtain ⟨w, hw, hr⟩ := hvs.get hv
   have hlt := oY hj
   have htt : PyProof.Rows.IsTup s.heap at' ws.toArray := ht
   refine eO hsl ht.typeIs (PyProof.Rows.slot_tuple_getitem).lookup (PyProof.Rows.getItem_tuple htt (fits hlt.2.1 hlt.2.2 (Nat.le_of_lt_succ hz) (by decide)).1 (fits hlt.2.1 hlt.2.2 (Nat.le_of_lt_succ hz) (by decide)).2 (by rw [List.size_toArray, ← hvs.length]; exact pJ hj) (by simpa using hw) (hP _ _ σ s hr R Step.refl q))
noncomputable def kJ (n : Nat) (lo hi : Option Int) : Nat × Nat := (lo.elim 0 (clipAt n), hi.elim n (clipAt n) - lo.elim 0 (clipAt n))
noncomputable def bG {α : Type} (l : List α) (lo hi : Option Int) : List α := (l.drop (kJ l.length lo hi).1).take (kJ l.length lo hi).2
noncomputable def pD (ns : List Int) (lo hi : Option Int) : O1
 | .str x, σ, Q => x.length ≤ 16777216 ∧ Q (.str ⟨(bG x.cps.toList lo hi).toArray⟩) σ
 | .ref a, σ, Q => ∃ xs, σ a = some (.list xs) ∧ dF (bG xs lo hi) σ Q
 | .script, σ, Q => dF ((bG ns lo hi).map .int) σ Q
 | _, _, _ => False
structure HP (C : Cx) (sc : Scope) (k : Nat) (e : Option Expr) (T : aT → ai → (Option Int → ai → Prop) → Prop) : Prop where
 run : ∀ (env : Env) (A : Around) (s : Shared) (m : aT) (σ : ai) (Q : Option Int → ai → Prop) (P : Value → Shared → Prop) (E : Value → Shared → Prop),
  EnvOk env sc → AOk C A k → RelG C σ s → FrameRel C env m σ s.heap → T m σ Q →
  (∀ i p σ' s', i = Option.map Prod.fst p → RelG C σ' s' → Step no σ σ' s.heap s'.heap → Q i σ' → P (partValue p) s') →
  wpAny (model C.prog C.w) A (evalPart e env) P E s
noncomputable def j9 : aT → ai → (Option Int → ai → Prop) → Prop := fun _ σ Q => Q Option.none σ
noncomputable def ix (T : ET) : aT → ai → (Option Int → ai → Prop) → Prop := fun m σ Q => T m σ fun v σ' => ∃ i, v = .int i ∧ Q (some i) σ'
theorem iX : HP C sc k Option.none j9 := ⟨fun env A s m σ Q P E en ao R F q hP => wpAny_pure (hP Option.none Option.none σ s rfl R Step.refl q)⟩
theorem fG {e : Expr} {T : ET} (he : HE C sc k e T) : HP C sc k (some e) (ix T) := ⟨fun env A s m σ Q P E en ao R F q hP =>
 he.run env A s m σ _ _ E en ao R F q fun v w σ' s' hv R' S' q' => by
  obtain ⟨i, rfl, q'⟩ := q'
  cases hv with
  | int i t => exact hP (Option.some i) (Option.some (i, t)) σ' s' rfl R' S' q'⟩
theorem jN {α : Type} (l : List α) (lo hi : Option Int) : (bG l lo hi).length ≤ l.length := by
 unfold bG; rw [List.length_take, List.length_drop]; exact Nat.le_trans (Nat.min_le_right _ _) (Nat.sub_le _ _)
theorem tI (n : Nat) (i : Int) : clipAt n i ≤ n := Int.ofNat_le.mp (by rw [clipAt_cast]; exact Int.max_le.mpr ⟨Int.natCast_nonneg _, Int.min_le_right _ _⟩)
theorem tH {α : Type} {l : List α} {lo hi : Option Int} (h : (kJ l.length lo hi).2 = l.length) : bG l lo hi = l :=
 ((List.take_sublist _ _).trans (List.drop_sublist _ _)).eq_of_length (by
  rw [List.length_take, List.length_drop, h]
  refine Nat.min_eq_left (Nat.le_trans (Nat.le_of_eq h.symm) (Nat.sub_le_sub_right ?_ _))
  cases hi with
  | none => exact Nat.le_refl _
  | some i => exact tI _ i)
theorem VRels.cut {aS : Addr} {h : Heap} {vs : List V} {ws : List Value} (x : VRels aS h vs ws) (a b : Nat) : VRels aS h ((vs.drop a).take b) ((ws.drop a).take b) := by
 have hd : ∀ (a : Nat) {vs : List V} {ws : List Value}, VRels aS h vs ws → VRels aS h (vs.drop a) (ws.drop a) := by
  intro a
  induction a with
  | zero => intro vs ws x; exact x
  | succ a ih => intro vs ws x; cases x with
   | nil => exact .nil
   | cons _ r => exact ih r
 have ht : ∀ (b : Nat) {vs : List V} {ws : List Value}, VRels aS h vs ws → VRels aS h (vs.take b) (ws.take b) := by
  intro b
  induction b with
  | zero => intro vs ws x; exact .nil
  | succ b ih => intro vs ws x; cases x with
   | nil => exact .nil
   | cons a r => exact .cons a (ih r)
 exact ht b (hd a x)
theorem pI (n : Nat) (lo hi : Option Int) : Builtin.Str.strSliceIndices lo hi 1 n = sliceRange ((lo.elim 0 (clipAt n) : Nat) : Int) ((hi.elim n (clipAt n) : Nat) : Int) 1 := by
 unfold Builtin.Str.strSliceIndices
 cases lo <;> cases hi <;> simp [clipAt_cast]
theorem uj (x : Str) (lo hi : Option Int) : ((Builtin.Str.strSliceIndices lo hi 1 x.length).filterMap (x.cps[·]?)) = bG x.cps.toList lo hi := by
 rw [pI, sliceRange_one, pick_run]
 unfold bG kJ
 simp [Str.length]
noncomputable def nZ (ns : List Int) (T : ET) (L U : aT → ai → (Option Int → ai → Prop) → Prop) : ET := fun m σ Q => T m σ fun v σ₁ => L m σ₁ fun lo σ₂ => U m σ₂ fun hi σ₃ => pD ns lo hi v σ₃ Q
theorem jo (O : C.Ok) {value : Expr} {lower upper : Option Expr} {p pos : Pos} {T : ET} {L U : aT → ai → (Option Int → ai → Prop) → Prop} (hv : HE C sc k value T) (hl : HP C sc k lower L) (hu : HP C sc k upper U) :
  HE C sc k (.Subscript value (.Slice lower upper Option.none p) pos) (nZ C.ns T L U) := by
 refine ⟨?_⟩; intro env A s m σ Q P E en ao R F q hP
 rw [eval_Subscript]
 refine wpAny_bind (hv.run env A s m σ _ _ E en ao R F q fun v w σ₁ s₁ va R₁ S₁ q₁ => wpAny_bind (wpAny_holding (wpAny_Slice ?_)))
 have F₁ := F.step R S₁
 refine hl.run env A s₁ m σ₁ _ _ E en ao R₁ F₁ q₁ fun lo pl σ₂ s₂ el R₂ S₂ q₂ => ?_
 refine hu.run env A s₂ m σ₂ _ _ E en ao R₂ (F₁.step R₁ S₂) q₂ fun hi pu σ₃ s₃ eu R₃ S₃ q₃ => ?_
 rw [evalPart_none]
 refine wpAny_pure (wpAny_bind (wpAny_standAt ?_))
 have va₃ := (va.keep (S₂.tupsN R₁)).keep (S₃.tupsN R₂)
 have S₁₃ := (S₁.trans S₂).trans S₃
 have Rs : RelG C σ₃ { s₃ with heap := s₃.heap.push { cls := .type "slice", data := .fields #[partValue pl, partValue pu, .none] } } := R₃.grow (tk := s₃.toks) bg
 have part : ∀ p : Option (Int × Tok), IsPart (partValue p) (p.map (·.1)) := fun p => by
  cases p with
  | none => exact .none
  | some x => exact .int _ _
 have go : ∀ {T id : String} {o : Value} {s : Shared}, s.TypeIs o T → typeLookup (.type T) "__getitem__" = pure (some (.builtin id)) → ∀ {i : Value}, wpAny (model C.prog C.w) A (getItem o i) P E s →
   wpAny (model C.prog C.w) A ((getitemInPython o >>= fun b => subscripted (.Slice lower upper Option.none p) b o i) >>= fun r => letTemporaryGo value o r >>= fun _ => pure r) P E s := fun {T id o s} hT hl {i} hg => by
  refine wpAny_bind (wpAny_bind ?_)
  rw [getitemInPython_of_ne hT.not_modules]
  refine wpAny_bind (wpAny_specialOf hT hl (wpAny_pure ?_))
  show wpAny _ A (operate [i, o] (getItem o i)) _ _ _
  exact wpAny_operating (wpAny_mono hg (fun r s' hr => wpAny_bind (wpAny_letTemporaryGo (wpAny_pure hr))) fun _ _ x => x)
 have fin : ∀ {o i : Value} {s : Shared}, wpAny (model C.prog C.w) A ((getitemInPython o >>= fun b => subscripted (.Slice lower upper Option.none p) b o i) >>= fun r => letTemporaryGo value o r >>= fun _ => pure r) P E s →
   wpAny (model C.prog C.w) A (getitemInPython o >>= fun b => subscripted (.Slice lower upper Option.none p) b o i >>= fun r => letTemporaryGo value o r >>= fun _ => pure r) P E s := fun h => by rwa [bind_assoc] at h
 have pick : ∀ (ws : List Value), slicePick ws.toArray lo hi Option.none = (bG ws lo hi).toArray := fun ws => by
  rw [slicePick_plain]; simp [bG, kJ]
 have lists : ∀ (a : Addr) (vs : List V) (ws : List Value), s₃.heap.IsList a ws.toArray → VRels C.aS s₃.heap vs ws → vs.length ≤ 16777216 → dF (bG vs lo hi) σ₃ Q →
   wpAny (model C.prog C.w) A (getitemInPython (.ref a) >>= fun b => subscripted (.Slice lower upper Option.none p) b (.ref a) (.ref s₃.heap.objs.size) >>= fun r => letTemporaryGo value (.ref a) r >>= fun _ => pure r) P E { s₃ with heap := s₃.heap.push { cls := .type "slice", data := .fields #[partValue pl, partValue pu, .none] } } := fun a vs ws hla hvs hz qn => by
  refine fin (go (hla.push _).typeIs slot_list_getitem.lookup (wpAny_getItem_list_slice (lo := lo) (hi := hi) (st := Option.none) (hla.push _) (Heap.IsSliceOf.new ..) (el ▸ part pl) (eu ▸ part pu) .none (by simp) ?_ (by rw [List.size_toArray, ← hvs.length, sizeLine_eq]; exact hz)))
  rw [pick]
  have hn := bQ (s₃.heap.push { cls := .type "slice", data := .fields #[partValue pl, partValue pu, .none] })
  refine hP _ _ (a8 σ₃ _ (.list (bG vs lo hi))) _ (.ref _) (Rs.add (tk := s₃.toks) bg hn ⟨Nat.le_trans (jN vs lo hi) hz, bG ws lo hi, ⟨_, Heap.get?_push_size _ rfl⟩, ?_⟩) ((S₁₃.trans .push).trans .addPush) (qn _ (Rs.freshNone hn))
  have := (hvs.cut (kJ vs.length lo hi).1 (kJ vs.length lo hi).2).keep (h' := (s₃.heap.push { cls := .type "slice", data := .fields #[partValue pl, partValue pu, .none] }).push { cls := .type "list", data := .seq (bG ws lo hi).toArray }) fun _ _ e _ => bg _ _ (bg _ _ e)
  have e2 : bG ws lo hi = (ws.drop (kJ vs.length lo hi).1).take (kJ vs.length lo hi).2 := by unfold bG; rw [hvs.length]
  rw [← e2] at this
  exact this
 show wpAny _ A (getitemInPython w >>= fun b => subscripted (.Slice lower upper Option.none p) b w (.ref s₃.heap.objs.size) >>= fun r => letTemporaryGo value w r >>= fun _ => pure r) P E _
 cases va₃ with
 | none => exact q₃.elim
 | bool => exact q₃.elim
 | int => exact q₃.elim
 | ty => exact q₃.elim
 | tup => exact q₃.elim
 | script =>
  obtain ⟨ws, h1, h2, h3⟩ := O.script
  have hl : s₃.heap.IsList C.aS ws.toList.toArray := by simpa using (h1.at fun o e => R₃.base _ _ e)
  have hvs : VRels C.aS s₃.heap (C.ns.map .int) ws.toList := by
   have : ∀ (ns : List Int) (l : List Value), l.length = ns.length → (∀ (i : Nat) n, ns[i]? = Option.some n → ∃ t, l[i]? = Option.some (Value.int n t)) → VRels C.aS s₃.heap (ns.map .int) l := by
    intro ns
    induction ns with
    | nil => intro l hl _; cases l with | nil => exact .nil | cons => simp at hl
    | cons n r ih => intro l hl h; cases l with
     | nil => simp at hl
     | cons w r' =>
      obtain ⟨t, ht⟩ := h 0 n rfl
      simp at ht; subst ht
      exact .cons (.int n t) (ih r' (by simpa using hl) fun i n hi => h (i + 1) n (by simpa using hi))
   exact this _ _ h2 h3
  refine lists _ _ _ hl hvs (by have := O.few; simp; exact Nat.le_trans this (by decide)) ?_
  have e : bG (C.ns.map V.int) lo hi = (bG C.ns lo hi).map .int := by unfold bG; simp [List.map_take, List.map_drop]
  rw [e]; exact q₃
 | ref a =>
  obtain ⟨xs, hx, qn⟩ := q₃
  obtain ⟨hz, ws, h1, h2⟩ := R₃.view a _ hx
  exact lists a xs ws h1.isList h2 hz qn
 | str x t =>
  obtain ⟨hx, q₃⟩ := q₃
  refine fin (go (typeIs_str _ x t) _root_.PySem.F.slot_str_getitem.lookup (wpAny_getItem_str_slice (l := pl) (u := pu) (st := Option.none) ⟨_, Heap.get?_push_size _ rfl, rfl, rfl⟩ rfl ?_))
  have e1 : slicePicked x pl pu Option.none = Builtin.Str.strSliceIndices lo hi 1 x.length := by unfold slicePicked; rw [el, eu]; rfl
  have e2 := uj x lo hi
  unfold sliceMade
  rw [e1, e2]
  have res : ∀ t' tk, P (.str ⟨(bG x.cps.toList lo hi).toArray⟩ t') { s₃ with heap := s₃.heap.push { cls := .type "slice", data := .fields #[partValue pl, partValue pu, .none] }, toks := tk } := fun t' tk =>
   hP _ _ σ₃ _ (.str _ _) (R₃.grow bg) (S₁₃.trans .push) q₃
  split
  ·rename_i hc
   have hlen : (Builtin.Str.strSliceIndices lo hi 1 x.length).length = x.length := by simpa using hc
   have : (⟨(bG x.cps.toList lo hi).toArray⟩ : Str) = x := by
    have hh : (bG x.cps.toList lo hi) = x.cps.toList := by
     rw [pI, sliceRange_one] at hlen
     refine tH ?_
     have hxl : x.cps.toList.length = x.length := Array.length_toList
     rw [hxl]
     simpa [kJ] using hlen
    rw [hh]
   have r := res t s₃.toks
   rw [this] at r
   exact r
  ·refine ⟨?_, res _ _⟩
   show (bG x.cps.toList lo hi).toArray.size ≤ sizeLine
   rw [List.size_toArray, sizeLine_eq]
   exact Nat.le_trans (jN x.cps.toList lo hi) (by rw [Array.length_toList]; exact hx)
end
end Mine
end
noncomputable section
namespace Mine
open PySem
section
variable {C : Cx} {sc : Scope} {k : Nat}
noncomputable def a4 (ty : V → ai → Prop) (op : cR) (T : ET) (L : LT) : ET := fun m σ Q => T m σ fun o σ₁ => ty o σ₁ ∧ L m σ₁ fun vs σ₂ => op (o :: vs) σ₂ Q
noncomputable def tO (C : Cx) (T : String) (ty : V → ai → Prop) : Prop := ∀ (o : V) (wo : Value) (σ : ai) (s : Shared), RelG C σ s → VRel C.aS s.heap o wo → ty o σ → s.TypeIs wo T ∧ ∀ a, wo = .ref a → ∃ ob, s.heap.get? a = some ob ∧ ob.dict = Option.none
theorem gW {T id : String} {name : Str} {o : Expr} {apos pos : Pos} {es : List Expr} {ty : V → ai → Prop} {op : cR} {To : ET} {L : LT} (hty : tO C T ty) (pa : PlainAttrs T) (slot : Slot T name id) (hmd : typeOf (.builtin id) = pure (.type "method_descriptor"))
  (hop : lX C k (fun ws => PySem.call (.builtin id) ws) op) (ho : HE C sc k o To) (hl : HL C sc k es L) (hp : aQ es = true)
  (hbase : ∀ env, attributeBase o name env (eval o env) = eval o env) (hline : (apos.endLine == pos.line) = true) (hfew : es.length < 30) : HE C sc k (.Call (.Attribute o name apos) es [] pos) (a4 ty op To L) := by
 refine ⟨?_⟩; intro env A s m σ Q P E en ao R F q hP
 have hall : (backTo pos (starEach es env)).all (fun x => !x.1) = true := by
  have := bR (env := env) (pos := pos) hp
  rw [List.any_eq_false] at this
  rw [List.all_eq_true]
  intro x hx
  have := this x hx
  simp at this
  simp [this]
 refine wpAny_Call_method (hbase env) (by rw [hall]; exact decide_eq_true hfew) hline pa slot hmd ?_
 refine ho.run env A s m σ _ _ E en ao R F q fun v w σ₁ s₁ hv R₁ S₁ q₁ => ?_
 obtain ⟨h1, h2⟩ := hty v w σ₁ s₁ R₁ hv q₁.1
 refine ⟨h1, h2, Calls.callWith_builtin (bR hp) (bJ hp (hl.run env A s₁ m σ₁ pos _ _ E en ao R₁ (F.step R S₁) q₁.2 fun vs ws σ₂ s₂ hvs R₂ S₂ q₂ => ?_))⟩
 exact hop A s₂ σ₂ (v :: vs) (w :: ws) Q P E ao R₂ (.cons (hv.keep (S₂.tupsN R₁)) hvs) q₂ fun v' w' σ' s' hv' R' S' q' => hP v' w' σ' s' hv' R' ((S₁.trans S₂).trans S') q'
noncomputable def cT : V → ai → Prop
 | .str _, _ => True
 | _, _ => False
theorem jX : tO C "str" cT := by
 intro o wo σ s R hv h
 cases hv <;> first | exact h.elim | skip
 exact ⟨typeIs_str _ _ _, fun a e => by cases e⟩
noncomputable def eB : V → ai → Prop
 | .ref a, σ => ∃ xs, σ a = some (.list xs)
 | _, _ => False
theorem qc : tO C "list" eB := by
 intro o wo σ s R hv h
 cases hv <;> first | exact h.elim | skip
 obtain ⟨xs, hx⟩ := h
 obtain ⟨_, ws, h1, h2⟩ := R.view _ _ hx
 refine ⟨h1.isList.typeIs, fun b e => ?_⟩
 cases e
 obtain ⟨n, hn⟩ := h1
 exact ⟨_, hn, rfl⟩
theorem VRels.inv1 {aS : Addr} {h : Heap} {a : V} {ws : List Value} (x : VRels aS h [a] ws) : ∃ wa, ws = [wa] ∧ VRel aS h a wa := by
 cases x with
 | cons h1 r => cases r; exact ⟨_, rfl, h1⟩
theorem VRels.inv2 {aS : Addr} {h : Heap} {a b : V} {ws : List Value} (x : VRels aS h [a, b] ws) : ∃ wa wb, ws = [wa, wb] ∧ VRel aS h a wa ∧ VRel aS h b wb := by
 cases x with
 | cons h1 r => obtain ⟨wb, rfl, h2⟩ := r.inv1; exact ⟨_, _, rfl, h1, h2⟩
noncomputable def gc : cR := fun vs σ Q => onSS vs fun x y => Q (.bool (Txt.startswith x y)) σ
theorem qt : lX C k (fun ws => PySem.call (.builtin "str.startswith") ws) gc := by
 intro A s σ vs ws Q P E ao R hv q hP
 replace q := onSS.elim q
 obtain ⟨n0, n1, rfl, q⟩ := q
 ·obtain ⟨wa, wb, rfl, h1, h2⟩ := hv.inv2
  cases h1; cases h2
  exact SC.startswith (hP _ _ σ s (.bool _) R Step.refl q)
theorem pt {aS : Addr} {h : Heap} : ∀ {ys : List Str} {ws : List Value}, VRels aS h (ys.map .str) ws → ∃ l : List (Str × Tok), ws = strValues l ∧ l.map (·.1) = ys
 | [], _, r => ⟨[], r.inv0, rfl⟩
 | y :: ys, _, r => by
  obtain ⟨w, ws, rfl, h1, r2⟩ := r.invC
  obtain ⟨t, rfl⟩ := h1.invStr
  obtain ⟨l, rfl, rfl⟩ := pt r2
  exact ⟨(y, t) :: l, rfl, rfl⟩
theorem ng {aS : Addr} {h : Heap} : ∀ (l : List (Str × Tok)), VRels aS h ((l.map (·.1)).map .str) (strValues l)
 | [] => .nil
 | (x, t) :: l => .cons (.str x t) (ng l)
noncomputable def cw : cR := fun vs σ Q => onSR vs fun x a => ∃ ys : List Str, σ a = some (.list (ys.map .str)) ∧ (ys.map (·.length)).sum + ys.length * x.length ≤ 16777216 ∧ Q (.str (Str.join x ys)) σ
theorem lL (x : Str) : ∀ (l : List Str) (n : Nat), l.foldl (fun a y => a + y.length + x.length) n = n + (l.map (·.length)).sum + l.length * x.length
 | [], n => by simp
 | y :: r, n => by
  rw [List.foldl_cons, lL x r]
  simp [Nat.add_mul]; exact Nat.le_antisymm (dE fun hg => lN [n, (y.length), (x.length), ((List.map (fun x => x.length) r).sum), (r.length * x.length)] 0x41cc520000019003940400061 rfl hg) (dE fun hg => lN [n, (y.length), (x.length), ((List.map (fun x => x.length) r).sum), (r.length * x.length)] 0x3200728080020e62900000061 rfl hg)
theorem oZ (x : Str) : ∀ ys : List Str, Builtin.Str.glued x ys = Str.join x ys := by
 have key : ∀ (r : List Str) (acc : Array Nat), (⟨r.foldl (fun acc p => acc ++ x.cps ++ p.cps) acc⟩ : Str) = match r with | [] => ⟨acc⟩ | _ => (⟨acc⟩ : Str) ++ x ++ Str.join x r := by
  intro r
  induction r with
  | nil => intro acc; rfl
  | cons y r ih =>
   intro acc
   rw [List.foldl_cons, ih]
   cases r with
   | nil => rfl
   | cons z r =>
    show (⟨acc ++ x.cps ++ y.cps⟩ : Str) ++ x ++ Str.join x (z :: r) = (⟨acc⟩ : Str) ++ x ++ (y ++ x ++ Str.join x (z :: r))
    have : ∀ a b : Str, a ++ b = ⟨a.cps ++ b.cps⟩ := fun _ _ => rfl
    simp only [this, Array.append_assoc]
 intro ys
 cases ys with
 | nil => rfl
 | cons y r =>
  unfold Builtin.Str.glued
  simp only [List.drop_one, List.tail_cons, List.headD_cons]
  rw [key]
  cases r with
  | nil => rfl
  | cons z r => rfl
theorem tp : lX C k (fun ws => PySem.call (.builtin "str.join") ws) cw := by
 intro A s σ vs ws Q P E ao R hv q hP
 replace q := onSR.elim q
 obtain ⟨x, a, rfl, q⟩ := q
 ·obtain ⟨wa, wb, rfl, h1, h2⟩ := hv.inv2
  cases h1; cases h2
  obtain ⟨ys, hy, hl, q⟩ := q
  obtain ⟨_, ws, h3, h4⟩ := R.view a _ hy
  obtain ⟨l, rfl, e⟩ := pt h4
  refine SC.join (texts := ys) h3.isList e ?_ fun t' tk => ?_
  ·unfold JoinOk Builtin.Str.tooLong
   rw [← Array.foldl_toList, lL]
   rw [sizeLine_eq]
   simp
   exact hl
  ·have : Txt.join x ys = Str.join x ys := oZ x ys
   rw [this]
   exact hP _ _ σ _ (.str _ _) (R.tok _) Step.refl q
noncomputable def jJ : cR := fun vs σ Q => onSS vs fun x y => (y.length = 1 ∧ x.length ≤ 1048576) ∧ dF ((Txt.split x y).map .str) σ Q
theorem jc {A : Around} {s : Shared} {σ : ai} {xs : List V} {ws : List Value} {tk : Nat} {Q : V → ai → Prop} {P : Value → Shared → Prop} (R : RelG C σ s) (hv : VRels C.aS s.heap xs ws) (hz : xs.length ≤ 16777216) (q : dF xs σ Q) (hP : ub C σ s Q P) :
  P (.ref s.heap.objs.size) { s with heap := s.heap.push { cls := .type "list", data := .seq ws.toArray }, toks := tk } := by
 have hn := bQ s.heap
 exact hP _ _ (a8 σ s.heap.objs.size (.list xs)) _ (.ref _) (R.add (tk := tk) bg hn ⟨hz, ws, ⟨_, Heap.get?_push_size _ rfl⟩, hv.keep fun _ _ e _ => bg _ _ e⟩) .addPush (q _ (R.freshNone hn))
theorem rH : lX C k (fun ws => PySem.call (.builtin "str.split") ws) jJ := by
 intro A s σ vs ws Q P E ao R hv q hP
 replace q := onSS.elim q
 obtain ⟨x, y, rfl, q⟩ := q
 ·obtain ⟨wa, wb, rfl, h1, h2⟩ := hv.inv2
  cases h1 with | str _ t => cases h2 with | str _ u =>
  obtain ⟨⟨hy, hx⟩, q⟩ := q
  have hy0 : (y.length == 0) = false := by simp [hy]
  have hsz : (Builtin.Str.partsBetween x (Builtin.Str.occurrences x y 0 x.length (x.length + 1)) y.length).length ≤ 1048578 := by
   rw [length_partsBetween]
   have := StrLaws.occ_length_le x y 0 x.length (x.length + 1)
   exact Nat.succ_le_succ (Nat.le_trans this (Nat.succ_le_succ hx))
  have single : Txt.split x y = [x] → P (.ref s.heap.objs.size) { s with heap := s.heap.push { cls := .type "list", data := .seq [Value.str x t].toArray } } := fun e => by
   rw [e] at q
   exact jc (A := A) (tk := s.toks) R (.cons (.str x t) .nil) (by simp) q hP
  cases h1 : (decide (x.length < y.length) || decide (Builtin.Str.strKind x < Builtin.Str.strKind y))
  ·cases hf : (Builtin.Str.occurrences x y 0 x.length (x.length + 1)).isEmpty
   ·refine call_meets _root_.PySem.F.slot_str_split (typeIs_str _ _ _) _root_.PySem.F.entry_str_split (_root_.PySem.F.args_str_split_2 _ _) (meets_str_split_sep x y t u h1 hy0 hf (by rw [sizeLine_eq]; exact Nat.le_trans hx (by decide)) (by rw [sizeLine_eq]; exact Nat.le_trans hsz (by decide))) ?_
    have e : Txt.split x y = Builtin.Str.partsBetween x (Builtin.Str.occurrences x y 0 x.length (x.length + 1)) y.length := by unfold Txt.split; rw [h1, hf]; rfl
    rw [e] at q
    show wants P E _ { s with toks := _, heap := s.heap.push { cls := .type "list", data := .seq (strsFrom s.toks (Builtin.Str.partsBetween x (Builtin.Str.occurrences x y 0 x.length (x.length + 1)) y.length)).toArray } }
    rw [strsFrom_eq]
    refine jc (A := A) R ?_ (by rw [List.length_map]; exact Nat.le_trans hsz (by decide)) q hP
    have := ng (aS := C.aS) (h := s.heap) (numbered s.toks (Builtin.Str.partsBetween x (Builtin.Str.occurrences x y 0 x.length (x.length + 1)) y.length))
    rw [numbered_texts] at this
    exact this
   ·exact call_meets _root_.PySem.F.slot_str_split (typeIs_str _ _ _) _root_.PySem.F.entry_str_split (_root_.PySem.F.args_str_split_2 _ _) (meets_str_split_not_found x y t u h1 hy0 hf) (single (by unfold Txt.split; rw [h1, hf]; rfl))
  ·exact call_meets _root_.PySem.F.slot_str_split (typeIs_str _ _ _) _root_.PySem.F.entry_str_split (_root_.PySem.F.args_str_split_2 _ _) (meets_str_split_cannot_occur x y t u h1) (single (by unfold Txt.split; rw [h1]; rfl))
noncomputable def mu (σ : ai) (Q : V → ai → Prop) : Option AObj → Prop
 | some (.list xs) => Q (.int xs.length) σ
 | some (.dict kvs _) => Q (.int kvs.length) σ
 | some (.idict kvs _) => Q (.int kvs.length) σ
 | _ => False
noncomputable def dA (ns : List Int) : cR
 | [.str x], σ, Q => x.length ≤ 16777216 ∧ Q (.int x.length) σ
 | [.ref a], σ, Q => mu σ Q (σ a)
 | [.tup vs], σ, Q => vs.length ≤ 16777216 ∧ Q (.int vs.length) σ
 | [.script], σ, Q => Q (.int ns.length) σ
 | _, _, _ => False
theorem lQ {n : Nat} (h : n ≤ 16777216) : (n : Int) < 2 ^ 63 := Int.lt_of_le_of_lt (Int.ofNat_le.mpr h) (by decide)
theorem uz (O : C.Ok) : lX C k (fun ws => PySem.call (.builtin "len") ws) (dA C.ns) := by
 intro A s σ vs ws Q P E ao R hv q hP
 cases vs with
 | nil => exact (show False from q).elim
 | cons v r =>
 cases r with
 | cons u r => cases v <;> exact (show False from q).elim
 | nil =>
 obtain ⟨wa, rfl, h1⟩ := hv.inv1
 have fin : ∀ (n : Int) (t tk : Tok), Q (.int n) σ → P (.int n t) { s with toks := tk } := fun n t tk q => hP _ _ σ _ (.int _ _) (R.tok _) Step.refl q
 clear hP
 cases h1 with
 | str x t => exact _root_.PySem.P.len_str (Int.not_le.mpr (lQ q.1)) (fin _ _ _ q.2)
 | ref a =>
  have q : mu σ Q (σ a) := q
  cases hx : σ a with
  | none => rw [hx] at q; exact q.elim
  | some o =>
   rw [hx] at q
   cases o with
   | list xs =>
    obtain ⟨hz, ws, h1, h2⟩ := R.view _ _ hx
    have e := h2.length
    refine Calls.call_len_list h1.isList (by rw [List.size_toArray, ← e]; exact lQ hz) ?_
    rw [List.size_toArray, ← e]
    exact fin _ _ _ q
   | dict kvs ep =>
    obtain ⟨hz, ws, h1, h2⟩ := R.view _ _ hx
    have e := h2.length
    refine call_len_dict (O.noMods (R.apart _ (by rw [hx]; simp))) h1.dictOf (by rw [← e]; exact lQ hz) ?_
    rw [← e]
    exact fin _ _ _ q
   | idict kvs ep =>
    obtain ⟨hz, ws, h1, h2⟩ := R.view _ _ hx
    have e := h2.length
    refine call_len_dict (O.noMods (R.apart _ (by rw [hx]; simp))) h1.dictOf (by rw [← e]; exact lQ hz) ?_
    rw [← e]
    exact fin _ _ _ q
   | _ => exact (show False from q).elim
 | @tup vs a ws ht hvs =>
  have e := hvs.length
  refine PyProof.Rows.len_tuple (show PyProof.Rows.IsTup s.heap a ws.toArray from ht) (by rw [List.size_toArray, ← e]; exact lQ q.1) ?_
  rw [List.size_toArray, ← e]
  exact fin _ _ _ q.2
 | script =>
  obtain ⟨ws, h1, h2, h3⟩ := O.script
  have hl : s.heap.IsList C.aS ws := h1.at fun o e => R.base _ _ e
  have e : (ws.size : Int) = C.ns.length := by rw [← h2]; simp
  refine Calls.call_len_list hl (by rw [e]; exact lQ (Nat.le_trans O.few (by decide))) ?_
  rw [e]
  exact fin _ _ _ q
 | _ => exact (show False from q).elim
noncomputable def uN : V → ai → String → Option Bool
 | .bool _, _, T => if T = "bool" then some true else if T = "int" then some true else if T ∈ ["str", "list", "dict", "tuple"] then some false else Option.none
 | .int _, _, T => if T = "int" then some true else if T ∈ ["bool", "str", "list", "dict", "tuple"] then some false else Option.none
 | .str _, _, T => if T = "str" then some true else if T ∈ ["bool", "int", "list", "dict", "tuple"] then some false else Option.none
 | .tup _, _, T => if T = "tuple" then some true else if T ∈ ["bool", "int", "list", "dict", "str"] then some false else Option.none
 | .ref a, σ, T => match σ a with
  | some (.list _) => if T = "list" then some true else if T ∈ ["bool", "int", "tuple", "dict", "str"] then some false else Option.none
  | some (.dict _ _) => if T = "dict" then some true else if T ∈ ["bool", "int", "tuple", "list", "str"] then some false else Option.none
  | _ => Option.none
 | _, _, _ => Option.none
noncomputable def dn : cR := fun vs σ Q => onVT vs fun v T => ∃ r, uN v σ T = some r ∧ Q (.bool r) σ
theorem sy {M : String → Prop} {a b c d e : String} (h1 : M a) (h2 : M b) (h3 : M c) (h4 : M d) (h5 : M e) : ∀ T ∈ [a, b, c, d, e], M T := by
 intro T h
 simp only [List.mem_cons, List.not_mem_nil, or_false] at h
 rcases h with rfl | rfl | rfl | rfl | rfl <;> assumption
theorem xO {M : String → Prop} {a b c d : String} (h1 : M a) (h2 : M b) (h3 : M c) (h4 : M d) : ∀ T ∈ [a, b, c, d], M T := by
 intro T h
 simp only [List.mem_cons, List.not_mem_nil, or_false] at h
 rcases h with rfl | rfl | rfl | rfl <;> assumption
theorem eP {M : String → Prop} {r : Bool} {T t : String} {l : List String} (hr : (if T = t then some true else if T ∈ l then some false else Option.none) = some r) (h1 : r = true → M t) (h2 : r = false → ∀ T ∈ l, M T) : M T := by
 split at hr
 ·rename_i e; cases hr; rw [e]; exact h1 rfl
 ·split at hr
  ·rename_i e; cases hr; exact h2 rfl T e
  ·cases hr
theorem qG {M : String → Prop} {r : Bool} {T t u : String} {l : List String} (hr : (if T = t then some true else if T = u then some true else if T ∈ l then some false else Option.none) = some r) (h1 : r = true → M t) (h3 : r = true → M u) (h2 : r = false → ∀ T ∈ l, M T) : M T := by
 split at hr
 ·rename_i e; cases hr; rw [e]; exact h1 rfl
 ·exact eP hr h3 h2
theorem uA : lX C k (fun ws => PySem.call (.builtin "isinstance") ws) dn := by
 intro A s σ vs ws Q P E ao R hv q hP
 replace q := onVT.elim q
 obtain ⟨v, T, rfl, q⟩ := q
 ·obtain ⟨wa, wb, rfl, h1, h2⟩ := hv.inv2
  cases h2
  obtain ⟨r, hr, q⟩ := q
  have p0 : r = true → P (.bool true) s := fun e => hP _ _ σ _ (.bool true) R Step.refl (e ▸ q)
  have p1 : r = false → P (.bool false) { s with toks := s.toks + 1 } := fun e => hP _ _ σ _ (.bool false) (R.tok _) Step.refl (e ▸ q)
  unfold uN at hr
  split at hr
  ·cases h1
   refine qG (M := fun T => wpAny (model C.prog C.w) A (PySem.call (.builtin "isinstance") [_, .type T]) P E s) hr ?_ ?_ ?_
   ·intro e; exact IsiPair.bool_bool (p0 e)
   ·intro e; exact IsiPair.bool_int (p0 e)
   ·intro e; refine xO ?_ ?_ ?_ ?_
    ·exact IsiPair.bool_str (p1 e)
    ·exact IsiPair.bool_list (p1 e)
    ·exact IsiPair.bool_dict (p1 e)
    ·exact IsiPair.bool_tuple (p1 e)
  ·cases h1
   refine eP (M := fun T => wpAny (model C.prog C.w) A (PySem.call (.builtin "isinstance") [_, .type T]) P E s) hr ?_ ?_
   ·intro e; exact IsiPair.int_int (p0 e)
   ·intro e; refine sy ?_ ?_ ?_ ?_ ?_
    ·exact IsiPair.int_bool (p1 e)
    ·exact IsiPair.int_str (p1 e)
    ·exact IsiPair.int_list (p1 e)
    ·exact IsiPair.int_dict (p1 e)
    ·exact IsiPair.int_tuple (p1 e)
  ·cases h1
   refine eP (M := fun T => wpAny (model C.prog C.w) A (PySem.call (.builtin "isinstance") [_, .type T]) P E s) hr ?_ ?_
   ·intro e; exact IsiPair.str_str (p0 e)
   ·intro e; refine sy ?_ ?_ ?_ ?_ ?_
    ·exact IsiPair.str_bool (p1 e)
    ·exact IsiPair.str_int (p1 e)
    ·exact IsiPair.str_list (p1 e)
    ·exact IsiPair.str_dict (p1 e)
    ·exact IsiPair.str_tuple (p1 e)
  ·cases h1 with
   | @tup _ a ws ht hvs =>
   obtain ⟨o, ho, hc, _⟩ := ht
   refine eP (M := fun T => wpAny (model C.prog C.w) A (PySem.call (.builtin "isinstance") [_, .type T]) P E s) hr ?_ ?_
   ·intro e; exact IsiPair.tuple_tuple ho hc (p0 e)
   ·intro e; refine sy ?_ ?_ ?_ ?_ ?_
    ·exact IsiPair.tuple_bool ho hc (p1 e)
    ·exact IsiPair.tuple_int ho hc (p1 e)
    ·exact IsiPair.tuple_list ho hc (p1 e)
    ·exact IsiPair.tuple_dict ho hc (p1 e)
    ·exact IsiPair.tuple_str ho hc (p1 e)
  ·cases h1
   split at hr
   ·rename_i hx
    obtain ⟨hz, ws, ⟨n, hn⟩, h2⟩ := R.view _ _ hx
    refine eP (M := fun T => wpAny (model C.prog C.w) A (PySem.call (.builtin "isinstance") [_, .type T]) P E s) hr ?_ ?_
    ·intro e; exact IsiPair.list_list hn rfl (p0 e)
    ·intro e; refine sy ?_ ?_ ?_ ?_ ?_
     ·exact IsiPair.list_bool hn rfl (p1 e)
     ·exact IsiPair.list_int hn rfl (p1 e)
     ·exact IsiPair.list_tuple hn rfl (p1 e)
     ·exact IsiPair.list_dict hn rfl (p1 e)
     ·exact IsiPair.list_str hn rfl (p1 e)
   ·rename_i hx
    obtain ⟨hz, ws, ⟨o, es, hn, hc, _⟩, h2⟩ := R.view _ _ hx
    refine eP (M := fun T => wpAny (model C.prog C.w) A (PySem.call (.builtin "isinstance") [_, .type T]) P E s) hr ?_ ?_
    ·intro e; exact IsiPair.dict_dict hn hc.1 (p0 e)
    ·intro e; refine sy ?_ ?_ ?_ ?_ ?_
     ·exact IsiPair.dict_bool hn hc.1 (p1 e)
     ·exact IsiPair.dict_int hn hc.1 (p1 e)
     ·exact IsiPair.dict_tuple hn hc.1 (p1 e)
     ·exact IsiPair.dict_list hn hc.1 (p1 e)
     ·exact IsiPair.dict_str hn hc.1 (p1 e)
   ·cases hr
  ·cases hr
noncomputable def j2 : cR := fun vs σ Q => onB vs fun b => Q (.int (if b then 1 else 0)) σ
theorem uC : lX C k (fun ws => PySem.call (.type "int") ws) j2 := by
 intro A s σ vs ws Q P E ao R hv q hP
 replace q := onB.elim q
 obtain ⟨n0, rfl, q⟩ := q
 ·obtain ⟨wa, rfl, h1⟩ := hv.inv1
  cases h1
  exact call_int_bool (hP _ _ σ _ (.int _ _) (R.tok _) Step.refl q)
noncomputable def dP : cR := fun vs σ Q => onI vs fun i => i.natAbs.log2 < 1920 ∧ Q (.str (Str.ofString (toString i))) σ
theorem uw : lX C k (fun ws => PySem.call (.type "str") ws) dP := by
 intro A s σ vs ws Q P E ao R hv q hP
 replace q := onI.elim q
 obtain ⟨n0, rfl, q⟩ := q
 ·obtain ⟨wa, rfl, h1⟩ := hv.inv1
  cases h1
  exact _root_.PySem.P.str_of_int q.1 (hP _ _ σ _ (.str _ _) (R.tok _) Step.refl q.2)
end
end Mine
end
noncomputable section
namespace Mine
open PySem
section
variable {C : Cx} {sc : Scope} {k : Nat}
noncomputable def aR : O2
 | .int x, .int y, σ, Q => Q (.int (x + y)) σ
 | .str x, .str y, σ, Q => x.length + y.length ≤ 16777216 ∧ Q (.str (x ++ y)) σ
 | .ref a, .ref b, σ, Q => ∃ xs ys, σ a = some (.list xs) ∧ σ b = some (.list ys) ∧ xs.length + ys.length ≤ 16777216 ∧ dF (xs ++ ys) σ Q
 | _, _, _, _ => False
theorem aX : jH C k (binaryOp .Add) aR := by
 intro A s σ a b wa wb Q P E ao R va vb q hP
 cases a <;> first | exact q.elim | skip
 all_goals (cases b <;> first | exact q.elim | skip)
 ·cases va; cases vb
  exact _root_.PySem.P.add_int (hP _ _ σ _ (.int _ _) (R.tok _) Step.refl q)
 ·cases va; cases vb
  exact SB.add (fun t' tk => hP _ _ σ _ (.str _ _) (R.tok _) Step.refl q.2) (by rw [sizeLine_eq]; exact q.1)
 ·rename_i a b
  cases va; cases vb
  obtain ⟨xs, ys, hx, hy, hz, q⟩ := q
  obtain ⟨_, ws, ⟨n, h1⟩, h2⟩ := R.view _ _ hx
  obtain ⟨_, us, ⟨n', h3⟩, h4⟩ := R.view _ _ hy
  have e1 := h2.length
  have e2 := h4.length
  have e : ws.toArray ++ us.toArray = (ws ++ us).toArray := by simp
  refine concat_meets ⟨_, h1, rfl⟩ ⟨_, h3, rfl⟩ noFill_list_add seq_list_add _root_.PySem.F.slot_list_add _root_.PySem.F.entry_list_add (_root_.PySem.F.args_list_add_2 _ _)
   (PyProof.Rows.list_addW a b ws.toArray us.toArray n n' Option.none Option.none #[] #[] (by rw [List.size_toArray, List.size_toArray, sizeLine_eq]; exact dE fun hg => lN [(xs.length), (ys.length), (ws.length), (us.length)] 0x7302000000508c25384860c000000a129001 rfl hz (Nat.le_of_eq (Eq.symm e1)) (Nat.le_of_eq (Eq.symm e2)) hg)) ⟨h1, h3, ?_⟩
  rw [e]
  exact jc (A := A) (tk := s.toks) R (h2.append h4) (by rw [List.length_append]; exact hz) q hP
noncomputable def xQ (f : V → V → Option Bool) : List V → List V → Option Bool
 | [], [] => some true
 | a :: as, b :: bs => match f a b, xQ f as bs with
  | some x, some y => some (x && y)
  | _, _ => Option.none
 | _, _ => Option.none
theorem wm {A : Around} {s : Shared} {a b : V} {wa wb : Value} {r : Bool} (h : veq0 a b = some r) (va : VRel C.aS s.heap a wa) (vb : VRel C.aS s.heap b wb) : SeqAt.EqAt A s wa wb r := by
 revert va vb
 refine veq0.ind h (P := fun a b r => VRel C.aS s.heap a wa → VRel C.aS s.heap b wb → SeqAt.EqAt A s wa wb r) ?_ ?_ ?_ ?_ ?_ ?_ <;> intros <;> rename_i va vb <;> cases va <;> cases vb
 ·exact SeqAt.EqAt.same _
 ·exact SeqAt.EqAt.none_str _ _
 ·exact SeqAt.EqAt.str_none _ _
 ·exact SeqAt.EqAt.bool_bool _ _
 ·rw [← gR]; exact SeqAt.EqAt.int_int _ _ _ _
 ·rw [← gR]; exact SeqAt.EqAt.str_str _ _ _ _
noncomputable def iK (x : V) : List V → Option Bool
 | [] => some false
 | y :: r => match veq0 y x, iK x r with
  | some a, some b => some (a || b)
  | _, _ => Option.none
noncomputable def vk : Value → Value → Bool
 | .none, .none => true
 | .bool a, .bool b => a == b
 | .int a _, .int b _ => decide (a = b)
 | .str a _, .str b _ => decide (a = b)
 | _, _ => false
theorem sj {s : Shared} {a b : V} {wa wb : Value} {r : Bool} (h : veq0 a b = some r) (va : VRel C.aS s.heap a wa) (vb : VRel C.aS s.heap b wb) : vk wa wb = r := by
 revert va vb
 refine veq0.ind h (P := fun a b r => VRel C.aS s.heap a wa → VRel C.aS s.heap b wb → vk wa wb = r) ?_ ?_ ?_ ?_ ?_ ?_ <;> intros <;> rename_i va vb <;> cases va <;> cases vb <;> rfl
theorem mP {s : Shared} {A : Around} {x : V} {wx : Value} (hx : VRel C.aS s.heap x wx) : ∀ {ys : List V} {ws : List Value} {r : Bool}, iK x ys = some r → VRels C.aS s.heap ys ws →
  (∀ w ∈ ws, SeqAt.EqAt A s w wx (vk w wx)) ∧ ws.any (fun w => vk w wx) = r
 | [], _, r, h, hn => by cases h; rw [hn.inv0]; exact ⟨fun _ hw => (nomatch hw), rfl⟩
 | y :: ys, _, r, h, hc => by
  obtain ⟨w, ws, rfl, hy, hr⟩ := hc.invC
  unfold iK at h
  split at h
  ·rename_i a b h1 h2
   cases h
   obtain ⟨i1, i2⟩ := mP (A := A) hx h2 hr
   refine ⟨fun w' hw => ?_, ?_⟩
   ·rcases List.mem_cons.mp hw with rfl | hw
    ·rw [sj h1 hy hx]; exact wm h1 hy hx
    ·exact i1 w' hw
   ·rw [List.any_cons, i2, sj h1 hy hx]
  ·cases h
noncomputable def xY : O2
 | x, .ref a, σ, Q => ∃ ys r, σ a = some (.list ys) ∧ iK x ys = some r ∧ Q (.bool r) σ
 | x, .tup ys, σ, Q => ∃ r, iK x ys = some r ∧ Q (.bool r) σ
 | _, _, _, _ => False
noncomputable def iy : O2
 | x, .ref a, σ, Q => ∃ ys r, σ a = some (.list ys) ∧ iK x ys = some r ∧ Q (.bool (!r)) σ
 | x, .tup ys, σ, Q => ∃ r, iK x ys = some r ∧ Q (.bool (!r)) σ
 | _, _, _, _ => False
theorem lB : jH C k (compareOp .NotIn) iy := by
 intro A s σ a b wa wb Q P E ao R va vb q hP
 cases b <;> first | exact q.elim | skip
 ·cases vb
  obtain ⟨ys, r, hy, hr, q⟩ := q
  obtain ⟨_, ws, h1, h2⟩ := R.view _ _ hy
  obtain ⟨i1, i2⟩ := mP (A := A.in1) va hr h2
  refine SeqAt.notIn_listAt (fun w => vk w wa) h1.isList (fun y hy => i1 y (by simpa using hy)) ?_
  rw [← Array.any_toList, i2]
  exact hP _ _ σ s (.bool (!r)) R Step.refl q
 ·cases vb with | @tup _ p ws ht hvs =>
  obtain ⟨r, hr, q⟩ := q
  obtain ⟨i1, i2⟩ := mP (A := A.in1) va hr hvs
  refine SeqAt.notIn_tupleAt (fun w => vk w wa) ht (fun y hy => i1 y (by simpa using hy)) ?_
  rw [← Array.any_toList, i2]
  exact hP _ _ σ s (.bool (!r)) R Step.refl q
noncomputable def cr : cR := fun vs σ Q => onRV vs fun a v => ∃ xs, σ a = some (.list xs) ∧ xs.length < 16777216 ∧ Q .none (a8 σ a (.list (xs ++ [v])))
theorem qv : lX C k (fun ws => PySem.call (.builtin "list.append") ws) cr := by
 intro A s σ vs ws Q P E ao R hv q hP
 replace q := onRV.elim q
 obtain ⟨a, v, rfl, q⟩ := q
 ·obtain ⟨wa, wb, rfl, h1, h2⟩ := hv.inv2
  cases h1
  obtain ⟨xs, hx, hz, q⟩ := q
  obtain ⟨_, ws, h3, h4⟩ := R.view _ _ hx
  have e := h4.length
  refine wpAny_list_append_plain h3 (fun h' hp' hs' => ?_) (by rw [List.size_toArray, ← e, sizeLine_eq]; (rename_i zz0; exact zz0))
  obtain ⟨n, hn⟩ := h3
  have kt : bb s.heap h' := fun b o eb ht => hs'.extBut b o (by rintro rfl; rw [hn] at eb; cases eb; simp [ld] at ht) eb
  refine hP .none .none (a8 σ a (.list (xs ++ [v]))) _ .none (R.change (tk := s.toks) hx hs' ⟨by simp; exact Nat.le_of_lt_succ hz, ws ++ [wb], by simpa using hp', (h4.append (.cons h2 .nil)).keep kt⟩) (.change hx hs') q
noncomputable def aH (op : V → V → V → ai → (ai → Prop) → Prop) (T To Ti : ET) : ST := fun m σ Q => T m σ fun v σ₁ => To m σ₁ fun o σ₂ => Ti m σ₂ fun i σ₃ => op o i v σ₃ fun σ₄ => Q .next m σ₄
noncomputable def ua (C : Cx) (k : Nat) (op : V → V → V → ai → (ai → Prop) → Prop) : Prop :=
 ∀ (A : Around) (s : Shared) (σ : ai) (o i v : V) (wo wi w : Value) (Q : ai → Prop) (P : Unit → Shared → Prop) (E : Value → Shared → Prop), AOk C A k → RelG C σ s → VRel C.aS s.heap o wo → VRel C.aS s.heap i wi → VRel C.aS s.heap v w → op o i v σ Q →
  (∀ σ' s', RelG C σ' s' → Step no σ σ' s.heap s'.heap → Q σ' → P () s') → wpAny (model C.prog C.w) A (setItem wo wi w) P E s
theorem aU {o i value : Expr} {p pos : Pos} {op : V → V → V → ai → (ai → Prop) → Prop} {T To Ti : ET} (hop : ua C k op) (hv : HE C sc k value T) (ho : HE C sc k o To) (hi : HE C sc k i Ti)
  (hs : ∀ env, EnvOk env sc → swapsWith value (some (.Subscript o i p)) pos.line env = pure false) : HS1 C sc k (.Assign [.Subscript o i p] value pos) (aH op T To Ti) := by
 refine ⟨?_⟩; intro env A s m σ Q P E en ao R F q hP
 refine wpAny_Assign_Subscript (hv.run env A s m σ _ _ E en ao R F q fun v w σ₁ s₁ v1 R₁ S₁ q₁ => ?_) (hs env en)
 have F₁ := F.step R S₁
 refine ho.run env A s₁ m σ₁ _ _ E en ao R₁ F₁ q₁ fun o wo σ₂ s₂ v2 R₂ S₂ q₂ => ?_
 have F₂ := F₁.step R₁ S₂
 refine hi.run env A s₂ m σ₂ _ _ E en ao R₂ F₂ q₂ fun i wi σ₃ s₃ v3 R₃ S₃ q₃ => ?_
 have F₃ := F₂.step R₂ S₃
 have k₂ := S₂.tupsN R₁
 have k₃ := S₃.tupsN R₂
 refine hop A s₃ σ₃ o i v wo wi w _ _ E ao R₃ (v2.keep k₃) v3 ((v1.keep k₂).keep k₃) q₃ fun σ₄ s₄ R₄ S₄ q₄ => ?_
 have S := ((S₁.trans S₂).trans S₃).trans S₄
 exact hP .next .next m σ₄ s₄ .next R₄ (F.step R S) S.own q₄
noncomputable def dG (l : List (String × Pos)) : List Expr := l.map fun p => Expr.Name (Str.ofString p.1) p.2
theorem lM (p : String × Pos) (l : List (String × Pos)) (env : Env) : assignEach (dG (p :: l)) env = (false, assign (.Name (Str.ofString p.1) p.2) env) :: assignEach (dG l) env := rfl
theorem iG (env : Env) : ∀ (l : List (String × Pos)), (assignEach (dG l) env).length = l.length ∧ (assignEach (dG l) env).findIdx? (·.1) = Option.none
 | [] => ⟨rfl, rfl⟩
 | p :: r => by
  rw [lM]
  refine ⟨by simp [(iG env r).1], ?_⟩
  rw [List.findIdx?_cons]
  simp [(iG env r).2]
theorem oo {env : Env} {A : Around} {E : Value → Shared → Prop} (en : EnvOk env sc) (l : List (String × Pos)) : ∀ (vs : List V) (ws : List Value) (s : Shared) (m : aT) (σ : ai) (P : Unit → Shared → Prop), l.length = vs.length → (∀ x ∈ l, sc.names.lookup (Str.ofString x.1) = some .local) →
  RelG C σ s → FrameRel C env m σ s.heap → VRels C.aS s.heap vs ws →
  (∀ s', RelG C σ s' → FrameRel C env (aM (l.map (·.1)) vs m) σ s'.heap → Step (fun b => b = env.locals) σ σ s.heap s'.heap → P () s') →
  wpAny (model C.prog C.w) A (assignInOrder ((assignEach (dG l) env).map (·.2)) ws) P E s := by
 induction l with
 | nil =>
  intro vs ws s m σ P h1 h2 R F hv h
  cases vs with
  | nil => cases hv; exact wpAny_pure (h s R F Step.refl)
  | cons => simp at h1
 | cons x l ih =>
  intro vs ws s m σ P h1 h2 R F hv h
  cases vs with
  | nil => simp at h1
  | cons v vs =>
   cases hv with | @cons _ w _ ws hv hvs =>
   rw [lM, List.map_cons]
   have e : assignInOrder (assign (.Name (Str.ofString x.1) x.2) env :: (assignEach (dG l) env).map (·.2)) (w :: ws) = (do holding ws (assign (.Name (Str.ofString x.1) x.2) env w); assignInOrder ((assignEach (dG l) env).map (·.2)) ws) := by rw [assignInOrder]
   show wpAny _ A (assignInOrder (assign (.Name (Str.ofString x.1) x.2) env :: (assignEach (dG l) env).map (·.2)) (w :: ws)) P E s
   rw [e]
   refine wpAny_bind (wpAny_holding (wpAny_assign_Name (cy en R F (h2 x (.head _)) hv fun s₁ R₁ F₁ S₁ => ?_)))
   have kt : bb s.heap s₁.heap := S₁.tups R fun b o z e => by subst z; exact F.ownT _ o (.inl rfl) e
   exact ih vs ws s₁ (put m x.1 v) σ P (by simpa using h1) (fun y hy => h2 y (.tail _ hy)) R₁ F₁ (hvs.keep kt) fun s₂ R₂ F₂ S₂ => h s₂ R₂ F₂ (S₁.trans S₂)
theorem FrameRel.grow {env : Env} {m : aT} {σ : ai} {h h' : Heap} (F : FrameRel C env m σ h) (keep : ∀ b o, h.get? b = some o → h'.get? b = some o) : FrameRel C env m σ h' := by
 have kt : bb h h' := fun b o e _ => keep b o e
 have kc : ∀ c v, h.IsCell c v → h'.IsCell c v := fun c v ⟨o, ho, hd⟩ => ⟨o, keep c o ho, hd⟩
 obtain ⟨mm, hn, hv⟩ := F.ns
 refine ⟨⟨mm, hn.keeps keep, fun x v e k => ?_⟩, fun x v e => ?_, fun n c e => ?_, F.sepL, F.baseL, F.baseC, F.dist, F.has⟩
 ·obtain ⟨w, h1, h2⟩ := hv x v e k; exact ⟨w, h1, h2.keep kt⟩
 ·rcases F.cel x v e with q | ⟨q, c, w, h1, h2, h3⟩
  ·exact .inl q
  ·exact .inr ⟨q, c, w, h1, kc _ _ h2, h3.keep kt⟩
 ·obtain ⟨v, hv⟩ := F.cells n c e; exact ⟨v, kc _ _ hv⟩
theorem mT (O : C.Ok) {l : List (String × Pos)} {n : Nat} {pos : Pos} (hx : ∀ x ∈ l, sc.names.lookup (Str.ofString x.1) = some .local) : HT C sc k true (.Tuple (dG l) n pos) (.tup (l.map (·.1))) := by
 refine ⟨?_⟩; intro env A s m m' σ v w P E en ao R F hv hb hP
 cases v <;> simp only [dB] at hb <;> first | cases hb | skip
 split at hb
 ·rename_i vs hlen
  cases hb
  cases hv with | @tup _ t ws ht hvs =>
  have hlen' : l.length = vs.length := by simpa using hlen
  refine br (tN (ao.hd O R) ht (by rw [(iG env _).1, List.size_toArray, ← hvs.length, hlen']) (iG env _).2 fun h' hx' => ?_)
  have keep : ∀ b o, s.heap.get? b = some o → h'.get? b = some o := fun b o e => hx' b o (Nat.ne_of_lt (Heap.lt_size e)) e
  have e : ws.toArray.toList = ws := by simp
  rw [e]
  refine oo en l vs ws _ m σ _ hlen' hx (R.grow (tk := s.toks) keep) (F.grow keep) (hvs.keep fun b o e _ => keep b o e) fun s₂ R₂ F₂ S₂ hsz => ?_
  exact hP s₂ R₂ F₂ ⟨fun b o e n q => S₂.keepL b o (keep b o e) n fun z => q (.inl z), hsz, fun _ a b => absurd a b⟩
 ·cases hb
end
end Mine
end
noncomputable section
namespace Mine
open PySem PySem.W PyProof.Rows PySem.Calls
noncomputable def bq (p : Program) (n : Nat) : List Stmt := match p.main.body[n]? with | some (.FunctionDef _ _ b _ _ _ _ _ _ _) => b | _ => []
noncomputable def aN (p : Program) (n : Nat) : Scope := match p.main.body[n]? with | some (.FunctionDef _ _ _ _ _ _ s _ _ _) => s | _ => default
noncomputable def mq (p : Program) (n : Nat) : Arguments := match p.main.body[n]? with | some (.FunctionDef _ a _ _ _ _ _ _ _ _) => a | _ => default
noncomputable def t5 (p : Program) (n : Nat) : Pos := match p.main.body[n]? with | some (.FunctionDef _ _ _ _ _ _ _ _ _ q) => q | _ => default
noncomputable def FnAt (C : Cx) (j : Nat) (f : String) (spec : cR) : Prop :=
 ∃ a o fd, C.mg (Str.ofString f) = some (.ref a) ∧ C.hB.get? a = some o ∧ o.data = .func fd ∧ FnSound C j a spec
structure Gl (C : Cx) (p : Program) : Prop where
 ok : C.Ok
 mb : ∀ x : Str, x ≠ "__name__" → C.mb x = bootBuiltins x
 free : ∀ x ∈ ["len", "range", "min", "max", "isinstance", "bool", "str", "int", "list", "dict", "set", "sorted", "tuple", "sum", "type"], C.mg (Str.ofString x) = Option.none
 fn : ∀ d ∈ recsOf p, ∃ a o pm code doc, C.mg d.name = some (.ref a) ∧ C.hB.get? a = some o ∧ o.data = .func (docDef d.name d.params d.body d.scope pm code doc) ∧ C.hB.CodeRec code d.name
variable {C : Cx} {p : Program}
theorem Gl.blt (G : Gl C p) {x : String} {v : Value} (h : bootBuiltins (Str.ofString x) = some v) (hx : x ≠ "__name__") : C.mb (Str.ofString x) = some v := by
 rw [G.mb _ (fun e => hx (cF e)), h]
theorem aD (G : Gl C p) {sc : Scope} {k : Nat} {f : String} {np pos : Pos} {es : List Expr} {L : LT} {spec : cR} {j : Nat} (hf : FnAt C j f spec) (hj : j < k)
  (hn : sc.names.lookup (Str.ofString f) = some .globalImplicit) (hdb : (Str.ofString f == ("__debug__" : Str)) = false)
  (hl : HL C sc k es L) (hp : aQ es = true) : HE C sc k (.Call (.Name (Str.ofString f) np) es [] pos) (aC spec L) := by
 obtain ⟨a, o, fd, h1, h2, h3, h4⟩ := hf
 exact tU G.ok h4 hj hn h1 h2 h3 hdb hl hp
theorem FnAt.mk (G : Gl C p) (i n : Nat) {f : String} {xs : List String} {j : Nat} {spec : cR} {T : ST}
  (hm : (recsOf p)[i]? = some ⟨Str.ofString f, mq p n, bq p n, aN p n, t5 p n⟩)
  (hk : (aN p n).kind = .function) (hfr : ((aN p n).names.all fun q => q.2 != .free) = true) (hco : (aN p n).isCoroutine = false) (hgen : (aN p n).isGenerator = false)
  (hbind : ∀ (ws : List Value) (pm code doc : Value), ws.length = xs.length → bindArgs (docDef (Str.ofString f) (mq p n) (bq p n) (aN p n) pm code doc) ⟨ws, []⟩ = pure ((xs.map Str.ofString).zip ws))
  (hloc : (xs.all fun x => (aN p n).names.lookup (Str.ofString x) == some .local || (aN p n).names.lookup (Str.ofString x) == some .cell) = true)
  (hT : HS C (aN p n) j (bq p n) T)
  (hspec : ∀ vs σ Q, spec vs σ Q → vs.length = xs.length ∧ T (aM xs vs aW) σ fun f _ σ' => match f with | .ret v => Q v σ' | .next => Q .none σ' | _ => False) : FnAt C j f spec := by
 obtain ⟨a, o, pm, code, doc, h1, h2, h3, h4⟩ := G.fn _ (List.mem_of_getElem? hm)
 refine ⟨a, o, _, h1, h2, h3, FnSound.mk G.ok (xs := xs) h2 h3 h4 rfl rfl rfl rfl rfl hk ?_ hco hgen (fun ws hw => hbind ws pm code doc hw) ?_ hT hspec⟩
 ·intro q hq
  have := List.all_eq_true.mp hfr q hq
  simpa using this
 ·intro x hx
  have := List.all_eq_true.mp hloc x hx
  simp only [Bool.or_eq_true, beq_iff_eq] at this
  exact this
theorem nQ {vs : List Value} {ns : List Int} (h : IntsAre vs ns) : vs.length = ns.length ∧ ∀ (i : Nat) n, ns[i]? = some n → ∃ t, vs[i]? = some (Value.int n t) := by
 induction h with
 | nil => exact ⟨rfl, fun i n e => by simp at e⟩
 | cons a t h ih =>
  refine ⟨by simp [ih.1], fun i n e => ?_⟩
  cases i with
  | zero => simp at e; subst e; exact ⟨_, rfl⟩
  | succ i => simpa using ih.2 i n (by simpa using e)
theorem Cx.ok_of {C : Cx} (hz : C.held = none) {vs : List Value} {loose : List Str} {mean : ExcName → Option Value} (T : Top p loose mean C.mg C.mb C.hB) (hi : importsNone p = true) (hL : C.hB.IsList C.aS vs.toArray) (hI : IntsAre vs C.ns) (hn : ¬ (63 : Int) < (C.ns.length : Int)) : C.Ok where
 g := T.g
 b := T.b
 nolimit := T.nolimit
 mods := by obtain ⟨mm, ⟨o, _, _, ho, _⟩, _⟩ := (T.seer hi).mods; exact ⟨o, ho⟩
 few := by omega
 heldOk := fun e he => by rw [hz] at he; cases he
 script := ⟨_, hL, by simpa using (nQ hI).1, by simpa using (nQ hI).2⟩
theorem Gl.of {C : Cx} {loose : List Str} {mean : ExcName → Option Value} (T : Top p loose mean C.mg C.mb C.hB) (ok : C.Ok)
  (hf : (["len", "range", "min", "max", "isinstance", "bool", "str", "int", "list", "dict", "set", "sorted", "tuple", "sum", "type"].all fun x : String => !(startupNames ++ loose ++ (recsOf p).map (·.name) ++ (litsOf p).map (·.1) ++ (clssOf p loose).map (·.name)).contains (Str.ofString x)) = true) : Gl C p where
 ok := ok
 mb := T.builtins
 fn := T.fn
 free := fun x hx => by
  have := List.all_eq_true.mp hf x hx
  simp only [Bool.not_eq_true', List.contains_eq_mem, decide_eq_false_iff_not, List.mem_append, not_or] at this
  obtain ⟨⟨⟨⟨h1, h2⟩, h3⟩, h4⟩, h5⟩ := this
  exact T.free _ h1 h2 h3 h4 h5
end Mine
end
noncomputable section
namespace Mine
open PySem PySem.W PyProof.Rows PySem.Calls
section
variable {C : Cx} {p : Program} {sc : Scope} {k : Nat}
theorem u0 : bootBuiltins (Str.ofString "len") = some (.builtin "len") := by decide +kernel
theorem pe : bootBuiltins (Str.ofString "isinstance") = some (.builtin "isinstance") := by decide +kernel
theorem sv : bootBuiltins (Str.ofString "range") = some (.type "range") := by decide +kernel
theorem uY : bootBuiltins (Str.ofString "str") = some (.type "str") := by decide +kernel
theorem u1 : bootBuiltins (Str.ofString "int") = some (.type "int") := by decide +kernel
theorem tK : bootBuiltins (Str.ofString "list") = some (.type "list") := by decide +kernel
theorem pS : bootBuiltins (Str.ofString "dict") = some (.type "dict") := by decide +kernel
theorem fH (G : Gl C p) {np pos : Pos} {es : List Expr} {L : LT} (hn : sc.names.lookup (Str.ofString "len") = some .globalImplicit) (hl : HL C sc k es L) (hp : aQ es = true) : HE C sc k (.Call (.Name (Str.ofString "len") np) es [] pos) (aC (dA C.ns) L) :=
 d0 G.ok (uz G.ok) hn (G.free _ (by decide)) (G.blt u0 (by decide)) rfl hl hp
theorem u5 (G : Gl C p) {np pos : Pos} {es : List Expr} {L : LT} (hn : sc.names.lookup (Str.ofString "isinstance") = some .globalImplicit) (hl : HL C sc k es L) (hp : aQ es = true) : HE C sc k (.Call (.Name (Str.ofString "isinstance") np) es [] pos) (aC dn L) :=
 d0 G.ok uA hn (G.free _ (by decide)) (G.blt pe (by decide)) rfl hl hp
theorem jU (G : Gl C p) {np pos : Pos} {es : List Expr} {L : LT} (hn : sc.names.lookup (Str.ofString "int") = some .globalImplicit) (hl : HL C sc k es L) (hp : aQ es = true) : HE C sc k (.Call (.Name (Str.ofString "int") np) es [] pos) (aC j2 L) :=
 i4 G.ok uC hn (G.free _ (by decide)) (G.blt u1 (by decide)) rfl hl hp
theorem iY (G : Gl C p) {np pos : Pos} {es : List Expr} {L : LT} (hn : sc.names.lookup (Str.ofString "str") = some .globalImplicit) (hl : HL C sc k es L) (hp : aQ es = true) : HE C sc k (.Call (.Name (Str.ofString "str") np) es [] pos) (aC dP L) :=
 i4 G.ok uw hn (G.free _ (by decide)) (G.blt uY (by decide)) rfl hl hp
theorem dz (G : Gl C p) (hz : C.held = Option.none) {np pos : Pos} {es : List Expr} {L : LT} (hn : sc.names.lookup (Str.ofString "range") = some .globalImplicit) (hl : HL C sc k es L) (hp : aQ es = true) : HI C sc k (.Call (.Name (Str.ofString "range") np) es [] pos) (ce L) :=
 sB G.ok hz hl hp hn (G.free _ (by decide)) (G.blt sv (by decide))
theorem sF (G : Gl C p) {pos : Pos} (h : sc.names.lookup (Str.ofString "dict") = some .globalImplicit) : HE C sc k (.Name (Str.ofString "dict") pos) (ak (.ty "dict")) := sE G.ok h (G.free _ (by decide)) (G.blt pS (by decide)) rfl
theorem sD {o : Expr} {apos pos : Pos} {es : List Expr} {To : ET} {L : LT} (ho : HE C sc k o To) (hl : HL C sc k es L) (hp : aQ es = true)
  (hbase : ∀ env, attributeBase o (Str.ofString "split") env (eval o env) = eval o env) (hline : (apos.endLine == pos.line) = true) (hfew : es.length < 30) : HE C sc k (.Call (.Attribute o (Str.ofString "split") apos) es [] pos) (a4 cT jJ To L) :=
 gW jX F.plainAttrs_str F.slot_str_split F.type_str_split rH ho hl hp hbase hline hfew
theorem dL {o : Expr} {apos pos : Pos} {es : List Expr} {To : ET} {L : LT} (ho : HE C sc k o To) (hl : HL C sc k es L) (hp : aQ es = true)
  (hbase : ∀ env, attributeBase o (Str.ofString "join") env (eval o env) = eval o env) (hline : (apos.endLine == pos.line) = true) (hfew : es.length < 30) : HE C sc k (.Call (.Attribute o (Str.ofString "join") apos) es [] pos) (a4 cT cw To L) :=
 gW jX F.plainAttrs_str F.slot_str_join F.type_str_join tp ho hl hp hbase hline hfew
theorem lY {o : Expr} {apos pos : Pos} {es : List Expr} {To : ET} {L : LT} (ho : HE C sc k o To) (hl : HL C sc k es L) (hp : aQ es = true)
  (hbase : ∀ env, attributeBase o (Str.ofString "startswith") env (eval o env) = eval o env) (hline : (apos.endLine == pos.line) = true) (hfew : es.length < 30) : HE C sc k (.Call (.Attribute o (Str.ofString "startswith") apos) es [] pos) (a4 cT gc To L) :=
 gW jX F.plainAttrs_str F.slot_str_startswith F.type_str_startswith qt ho hl hp hbase hline hfew
theorem fh {o : Expr} {apos pos : Pos} {es : List Expr} {To : ET} {L : LT} (ho : HE C sc k o To) (hl : HL C sc k es L) (hp : aQ es = true)
  (hbase : ∀ env, attributeBase o (Str.ofString "append") env (eval o env) = eval o env) (hline : (apos.endLine == pos.line) = true) (hfew : es.length < 30) : HE C sc k (.Call (.Attribute o (Str.ofString "append") apos) es [] pos) (a4 eB cr To L) :=
 gW qc F.plainAttrs_list F.slot_list_append F.type_list_append qv ho hl hp hbase hline hfew
theorem bd (G : Gl C p) {value slice : Expr} {pos : Pos} {T U : ET} (hv : HE C sc k value T) (hi : HE C sc k slice U) (hs : iC slice = false) : HE C sc k (.Subscript value slice pos) (an (aG C.ns) T U) :=
 sC hv hi (tq G.ok hs)
noncomputable def sm (sc cs : Scope) (fv gs : List String) : Bool :=
 cs.kind == .function && cs.names.all (fun y => y.2 != .cell) && cs.names.all (fun y => y.2 != .local || cs.names.lookup y.1 == some .local) && decide (cs.names.map (·.1)).Nodup &&
 cs.names.all (fun q => q.2 != .free || fv.any fun x => Str.ofString x == q.1) && fv.all (fun x => cs.names.contains (Str.ofString x, NameKind.free) && (sc.names.lookup (Str.ofString x) == some .cell || sc.names.lookup (Str.ofString x) == some .free)) && gs.all fun x => !fv.contains x
theorem CompOk.of {sc cs : Scope} {fv : List String} {g : Tgt} (h : sm sc cs fv g.names = true) : CompOk sc cs fv g := by
 unfold sm at h
 simp only [Bool.and_eq_true, List.all_eq_true, Bool.or_eq_true, bne_iff_ne, beq_iff_eq, decide_eq_true_eq, List.any_eq_true, Bool.not_eq_true', List.contains_eq_mem, decide_eq_false_iff_not] at h
 obtain ⟨⟨⟨⟨⟨⟨h1, h2⟩, h3⟩, h4⟩, h5⟩, h6⟩, h7⟩ := h
 refine ⟨h1, h2, fun y hy e => (h3 y hy).elim (fun n => absurd e n) id, h4, fun q hq e => (h5 q hq).elim (fun n => absurd e n) id, fun x hx => ⟨(h6 x hx).1, (h6 x hx).2⟩, h7⟩
theorem eh {elt : Expr} {gens : List Comprehension} {cs : Scope} {pos : Pos} {t : Str} {q : Pos} {line : Nat} (h : sc.names.lookup t = some .local) (hl : (q.line == pos.line) = true) (hn : (cs.names.any fun y => y.1 == t && (y.2 == .local || y.2 == .cell)) = false) :
  ∀ env, EnvOk env sc → swapsWith (.ListComp elt gens cs pos) (some (.Name t q)) line env = pure true := by
 intro env en
 unfold swapsWith
 have e : env.kindOf t = some .local := en.of h
 have e2 : env.blockKind = .function := by unfold Env.blockKind; rw [en.k]; rfl
 have e3 : (Expr.ListComp elt gens cs pos).pos.line = pos.line := rfl
 simp only [e, e2, e3, hl, hn]
 rfl
end
end Mine
end
noncomputable section
namespace Mine
open PySem PySem.W PyProof.Rows PySem.Calls
noncomputable def Grow (σ σ' : ai) : Prop := ∀ b o, σ b = some o → σ' b = some o
theorem Grow.refl {σ : ai} : Grow σ σ := fun _ _ e => e
theorem Grow.trans {σ₁ σ₂ σ₃ : ai} (h : Grow σ₁ σ₂) (h' : Grow σ₂ σ₃) : Grow σ₁ σ₃ := fun b o e => h' b o (h b o e)
theorem Grow.upd {σ σ' : ai} {a : Addr} {o : AObj} (h : Grow σ σ') (ha : σ' a = Option.none) : Grow σ (a8 σ' a o) := fun b o' e => by
 rw [sU ha (h b o' e)]
noncomputable def iz (xs : List V) (σ : ai) (Q : V → ai → Prop) : Prop := ∀ a σ', Grow σ σ' → σ a = Option.none → σ' a = some (.list xs) → Q (.ref a) σ'
theorem Grow.none {σ σ' : ai} (h : Grow σ σ') {a : Addr} (ha : σ' a = Option.none) : σ a = Option.none := by
 cases e : σ a with
 | none => rfl
 | some o => rw [h a o e] at ha; cases ha
theorem jk {g : Tgt} {inv : ai → Prop} {T : ET} {m : aT} (P : ai → Prop) (hinv : ∀ σ, P σ → inv σ) :
  ∀ (items ys acc : List V) (σ : ai) (Q : List V → ai → Prop), ys.length = items.length → acc.length + items.length ≤ 1048576 →
  (∀ (i : Nat) v y, items[i]? = some v → ys[i]? = some y → ∀ σ (Q' : V → ai → Prop), P σ → (∀ σ', P σ' → Q' y σ') → ∃ m', dB g v m = some m' ∧ T m' σ Q') →
  P σ → (∀ σ', P σ' → Q (acc ++ ys) σ') → cq g inv tT T m items acc σ Q
 | [], ys, acc, σ, Q, hl, hz, step, p, q => by
  have : ys = [] := List.length_eq_zero_iff.mp hl
  subst this
  simp only [cq]
  exact ⟨hinv σ p, by simpa using q σ p⟩
 | v :: r, [], acc, σ, Q, hl, hz, step, p, q => by simp at hl
 | v :: r, y :: ys, acc, σ, Q, hl, hz, step, p, q => by
  simp only [cq]
  obtain ⟨m', h1, h2⟩ := step 0 v y rfl rfl σ (fun y σ₂ => acc.length < 1048576 ∧ cq g inv tT T m r (acc ++ [y]) σ₂ Q) p (fun σ' p' => by
   simp at hz hl
   refine ⟨by exact Nat.lt_of_le_of_lt (Nat.le_add_right _ _) hz, jk P hinv r ys (acc ++ [y]) σ' Q hl (by simp; exact dE fun hg => lN [(acc.length), (r.length)] 0x520c010000028461080000142519001 rfl hz hg) (fun i v y e1 e2 => step (i + 1) v y (by simpa using e1) (by simpa using e2)) p' fun σ'' p'' => ?_⟩
   simpa using q σ'' p'')
  exact ⟨hinv σ p, m', h1, by simpa [tT] using h2⟩
theorem cH {g : Tgt} {inv : ai → Prop} {B : BT} {T : ET} {m : aT} (P : ai → Prop) (hinv : ∀ σ, P σ → inv σ) (f : V → Option V) :
  ∀ (items acc : List V) (σ : ai) (Q : List V → ai → Prop), acc.length + items.length ≤ 1048576 →
  (∀ v ∈ items, ∀ σ (Q₁ : V → ai → Prop) (Q₂ : ai → Prop), P σ → (∀ σ' y, P σ' → f v = some y → Q₁ y σ') → (∀ σ', P σ' → f v = Option.none → Q₂ σ') → ∃ m', dB g v m = some m' ∧ B m' σ fun b σ₁ => if b then T m' σ₁ Q₁ else Q₂ σ₁) →
  P σ → (∀ σ', P σ' → Q (acc ++ items.filterMap f) σ') → cq g inv B T m items acc σ Q
 | [], acc, σ, Q, hz, step, p, q => by
  simp only [cq]
  exact ⟨hinv σ p, by simpa using q σ p⟩
 | v :: r, acc, σ, Q, hz, step, p, q => by
  simp only [cq]
  simp at hz
  obtain ⟨m', h1, h2⟩ := step v (.head _) σ (fun y σ₂ => acc.length < 1048576 ∧ cq g inv B T m r (acc ++ [y]) σ₂ Q) (fun σ₁ => cq g inv B T m r acc σ₁ Q) p
   (fun σ' y p' e => ⟨by exact Nat.lt_of_le_of_lt (Nat.le_add_right _ _) hz, cH P hinv f r (acc ++ [y]) σ' Q (by simp; exact dE fun hg => lN [(acc.length), (r.length)] 0x520c010000028461080000142519001 rfl hz hg) (fun v hv => step v (.tail _ hv)) p' fun σ'' p'' => by simpa [e] using q σ'' p''⟩)
   (fun σ' p' e => cH P hinv f r acc σ' Q (by exact Nat.le_of_lt hz) (fun v hv => step v (.tail _ hv)) p' fun σ'' p'' => by simpa [e] using q σ'' p'')
  exact ⟨hinv σ p, m', h1, h2⟩
theorem bp {g : Tgt} {inv : ai → Prop} {T : ST} (I : Nat → aT → ai → Prop) (R : V → aT → ai → Prop) (hinv : ∀ i m σ, I i m σ → inv σ) (items : List V) {Q : Fl → aT → ai → Prop}
  (step : ∀ i v m σ Q', items[i]? = some v → I i m σ → (∀ m' σ', I (i + 1) m' σ' → Q' .next m' σ') → (∀ m' σ', I (i + 1) m' σ' → Q' .cont m' σ') → (∀ u m' σ', R u m' σ' → Q' (.ret u) m' σ') → ∃ m', dB g v m = some m' ∧ T m' σ Q')
  (done : ∀ m σ, I items.length m σ → Q .next m σ) (ret : ∀ u m σ, R u m σ → Q (.ret u) m σ) : ∀ (m : aT) (σ : ai), I 0 m σ → fC g inv T items m σ Q := by
 have key : ∀ (n : Nat) (i : Nat) (m : aT) (σ : ai), n = items.length - i → i ≤ items.length → I i m σ → fC g inv T (items.drop i) m σ Q := by
  intro n
  induction n with
  | zero =>
   intro i m σ hn hi h
   have : i = items.length := by exact Nat.le_antisymm (dE fun hg => lN [i, (items.length)] 0x10a309481 rfl hi hg) (dE fun hg => lN [(items.length - i), i, (items.length)] 0x628c25200c100481 rfl (Nat.le_of_eq (Eq.symm hn)) (dO (items.length) (i)) hg)
   subst this
   rw [List.drop_length]
   exact ⟨hinv _ _ _ h, done m σ h⟩
  | succ n ih =>
   intro i m σ hn hi h
   have hlt : i < items.length := by exact tt fun hg => lN [n, (items.length - i), i, (items.length)] 0x31c273140129061 rfl (Nat.le_of_eq hn) (cU (dE fun hg => lN [i, (items.length)] 0x10a309481 rfl hi hg)) hg
   rw [List.drop_eq_getElem_cons hlt]
   simp only [fC]
   refine ⟨hinv _ _ _ h, step i _ m σ _ (List.getElem?_eq_getElem hlt) h (fun m' σ' h' => ih (i + 1) m' σ' (by exact Nat.le_antisymm (dE fun hg => lN [n, (items.length - i), i, (items.length), (items.length - (i + 1))] 0x11030986801c273140129061 rfl (Nat.le_of_eq hn) (cU (dE fun hg => lN [i, (items.length)] 0x2146129061 rfl hlt hg)) (dO (items.length) (i + 1)) hg) (dE fun hg => lN [n, (items.length - i), i, (items.length), (items.length - (i + 1))] 0x208309cc340026280e120ca1 rfl (Nat.le_of_eq (Eq.symm hn)) (dO (items.length) (i)) (cU (dE fun hg => lN [i, (items.length)] 0x41946129061 rfl hlt hg)) hg)) (by exact hlt) h') (fun m' σ' h' => ih (i + 1) m' σ' (by exact Nat.le_antisymm (dE fun hg => lN [n, (items.length - i), i, (items.length), (items.length - (i + 1))] 0x11030986801c273140129061 rfl (Nat.le_of_eq hn) (cU (dE fun hg => lN [i, (items.length)] 0x2146129061 rfl hlt hg)) (dO (items.length) (i + 1)) hg) (dE fun hg => lN [n, (items.length - i), i, (items.length), (items.length - (i + 1))] 0x208309cc340026280e120ca1 rfl (Nat.le_of_eq (Eq.symm hn)) (dO (items.length) (i)) (cU (dE fun hg => lN [i, (items.length)] 0x41946129061 rfl hlt hg)) hg)) (by exact hlt) h') fun u m' σ' h' => ret u m' σ' h'⟩
 intro m σ h
 have := key items.length 0 m σ (by exact rfl) (by exact Nat.zero_le _) h
 simpa using this
@[simp] theorem xj (m : aT) (x y : String) (v : V) : put m x v y = bif y == x then some v else m y := rfl
@[simp low] theorem wq {α : Type} (x y : String) (a b : α) : (bif y == x then a else b) = if y = x then a else b := by
 by_cases h : y = x
 ·rw [if_pos h, h, beq_self_eq_true]; rfl
 ·rw [if_neg h, beq_false_of_ne h]; rfl
@[simp] theorem wI (fv : List String) (m : aT) (x : String) : only fv m x = if x ∈ fv then m x else Option.none := rfl
theorem qA {ws : List Value} (h : ws.length = 1) : ∃ a, ws = [a] := List.length_eq_one_iff.mp h
theorem uI {n : Nat} {ws : List Value} (h : ws.length = n + 1) : ∃ a r, ws = a :: r ∧ r.length = n := by
 cases ws with
 | nil => cases h
 | cons a r => exact ⟨a, r, rfl, Nat.succ.inj h⟩
theorem qz {ws : List Value} (h : ws.length = 2) : ∃ a b, ws = [a, b] := by
 obtain ⟨a, r, rfl, g⟩ := uI h
 obtain ⟨b, rfl⟩ := qA g
 exact ⟨a, b, rfl⟩
theorem kj {ws : List Value} (h : ws.length = 3) : ∃ a b c, ws = [a, b, c] := by
 obtain ⟨a, r, rfl, g⟩ := uI h
 obtain ⟨b, c, rfl⟩ := qz g
 exact ⟨a, b, c, rfl⟩
theorem uJ {ws : List Value} (h : ws.length = 4) : ∃ a b c d, ws = [a, b, c, d] := by
 obtain ⟨a, r, rfl, g⟩ := uI h
 obtain ⟨b, c, d, rfl⟩ := kj g
 exact ⟨a, b, c, d, rfl⟩
theorem b5 {a : Int} {n i : Nat} {v : V} (h : (ca a n)[i]? = some v) : i < n ∧ v = .int (a + i) := by
 unfold ca at h
 rw [List.getElem?_map] at h
 obtain ⟨j, hj, rfl⟩ := Option.map_eq_some_iff.mp h
 obtain ⟨hlt, hji⟩ := List.getElem?_eq_some_iff.mp hj
 simp at hji hlt
 subst hji
 exact ⟨hlt, rfl⟩
theorem bK (a : Int) (n : Nat) : (ca a n).length = n := by simp [ca]
noncomputable def cell (ns : List Int) (k : Int) : Int := ns.getD k.toNat 0
noncomputable def qC (U : ST) (Q : Fl → aT → ai → Prop) : Fl → aT → ai → Prop := fun f m σ => match f with
 | .next => U m σ Q
 | f => Q f m σ
theorem aq (T U : ST) (m : aT) (σ : ai) (Q : Fl → aT → ai → Prop) : au T U m σ Q = T m σ (qC U Q) := by
 unfold au qC; rfl
@[simp] theorem be (U : ST) (Q : Fl → aT → ai → Prop) (m : aT) (σ : ai) : qC U Q .next m σ = U m σ Q := rfl
@[simp] theorem vg (U : ST) (Q : Fl → aT → ai → Prop) (m : aT) (σ : ai) : qC U Q .cont m σ = Q .cont m σ := rfl
@[simp] theorem vY (U : ST) (Q : Fl → aT → ai → Prop) (m : aT) (σ : ai) : qC U Q .brk m σ = Q .brk m σ := rfl
@[simp] theorem vX (U : ST) (Q : Fl → aT → ai → Prop) (v : V) (m : aT) (σ : ai) : qC U Q (.ret v) m σ = Q (.ret v) m σ := rfl
noncomputable def fin (Q : V → ai → Prop) : Fl → aT → ai → Prop := fun f _ σ' => match f with | .ret v => Q v σ' | .next => Q .none σ' | _ => False
@[simp] theorem wW (Q : V → ai → Prop) (v : V) (m : aT) (σ : ai) : fin Q (.ret v) m σ = Q v σ := rfl
@[simp] theorem wg (Q : V → ai → Prop) (m : aT) (σ : ai) : fin Q .next m σ = Q .none σ := rfl
section
variable {m : aT} {σ : ai} {Q : V → ai → Prop} {R : Fl → aT → ai → Prop} {B : Bool → ai → Prop} {K : List V → ai → Prop} {J : List V → (ai → Prop) → ai → Prop} {O : Option Int → ai → Prop} {ns : List Int}
@[simp] theorem mh {x : String} {T : ET} : a7 x T m σ R = T m σ fun v σ' => R .next (put m x v) σ' := rfl
@[simp] theorem te {T : ET} : bH T m σ R = T m σ fun v σ' => R (.ret v) m σ' := rfl
@[simp] theorem uv {b : BT} {T U : ST} : b8 b T U m σ R = b m σ fun b σ' => if b then T m σ' R else U m σ' R := rfl
@[simp] theorem tf : aA m σ R = R .next m σ := rfl
@[simp] theorem vM {T : ET} : ge T m σ R = T m σ fun _ σ' => R .next m σ' := rfl
@[simp] theorem pz {g : Tgt} {I : IT} {T : ST} : dp g I T m σ R = I m σ fun items inv σ' => fC g inv T items m σ' R := rfl
@[simp] theorem t4 {op : V → V → V → ai → (ai → Prop) → Prop} {T To Ti : ET} : aH op T To Ti m σ R = T m σ fun v σ₁ => To m σ₁ fun o σ₂ => Ti m σ₂ fun i σ₃ => op o i v σ₃ fun σ₄ => R .next m σ₄ := rfl
@[simp] theorem dU {x : String} : af x m σ Q = atK (m x) fun v => Q v σ := rfl
@[simp] theorem wu {α : Type} {v : α} {F : α → Prop} : atK (some v) F = F v := rfl
@[simp] theorem pP {v : V} : ak v m σ Q = Q v σ := rfl
@[simp] theorem wY {op : O2} {T U : ET} : an op T U m σ Q = T m σ fun a σ₁ => U m σ₁ fun b σ₂ => op a b σ₂ Q := rfl
@[simp] theorem n4 {spec : cR} {L : LT} : aC spec L m σ Q = L m σ fun vs σ' => spec vs σ' Q := rfl
@[simp] theorem gn {ty : V → ai → Prop} {op : cR} {T : ET} {L : LT} : a4 ty op T L m σ Q = T m σ fun o σ₁ => ty o σ₁ ∧ L m σ₁ fun vs σ₂ => op (o :: vs) σ₂ Q := rfl
@[simp] theorem fw : az m σ K = K [] σ := rfl
@[simp] theorem dS {T : ET} {L : LT} : ah T L m σ K = T m σ fun v σ₁ => L m σ₁ fun vs σ₂ => K (v :: vs) σ₂ := rfl
@[simp] theorem tE {L : LT} : cQ L m σ Q = L m σ fun vs σ₁ => vs.length ≤ 1000 ∧ Q (.tup vs) σ₁ := rfl
@[simp] theorem wn {L : LT} : bC L m σ Q = L m σ fun vs σ₁ => vs.length ≤ 1000 ∧ dF vs σ₁ Q := rfl
@[simp] theorem wB {T : BT} : nf T m σ B = T m σ fun b σ' => B (!b) σ' := rfl
@[simp] theorem wC {T U : BT} : dD T U m σ B = T m σ fun b σ' => if b then U m σ' B else B false σ' := rfl
@[simp] theorem xh {T U : BT} : i5 T U m σ B = T m σ fun b σ' => if b then B true σ' else U m σ' B := rfl
@[simp] theorem xW : tT m σ B = B true σ := rfl
@[simp] theorem xX : tF m σ B = B false σ := rfl
@[simp] theorem sk {fv : List String} {g : Tgt} {I : IT} {b : BT} {T : ET} : eo fv g I b T m σ Q = I m σ fun items inv σ' => cq g inv b T (only fv m) items [] σ' fun ys σ'' => dF ys σ'' Q := rfl
@[simp] theorem r6 {T : ET} : jx ns T m σ J = T m σ fun v σ' => km ns v σ' J := rfl
@[simp] theorem vh {L : LT} : ce L m σ J = L m σ fun vs σ' => iw vs σ' J := rfl
@[simp] theorem wX {T : ET} {L U : aT → ai → (Option Int → ai → Prop) → Prop} : nZ ns T L U m σ Q = T m σ fun v σ₁ => L m σ₁ fun lo σ₂ => U m σ₂ fun hi σ₃ => pD ns lo hi v σ₃ Q := rfl
@[simp] theorem vP : j9 m σ O = O Option.none σ := rfl
@[simp] theorem vO {T : ET} : ix T m σ O = T m σ fun v σ' => ∃ i, v = .int i ∧ O (some i) σ' := rfl
@[simp] theorem uV {x : String} {v : V} : dB (.name x) v m = some (put m x v) := rfl
@[simp] theorem uW {x : String} {xs : List String} {v : V} {vs : List V} : aM (x :: xs) (v :: vs) m = aM xs vs (put m x v) := rfl
@[simp] theorem vp : aM [] [] m = m := rfl
@[simp] theorem wJ {x : String} : aW x = Option.none := rfl
end
@[simp] theorem bn (c : Bool) (F : Bool → Prop) : isB (.bool c) F = F c := rfl
@[simp] theorem rd (T : ET) (m : aT) (σ : ai) (Q : Bool → ai → Prop) : aE T m σ Q = T m σ (fun v σ' => isB v fun b => Q b σ') := rfl
@[simp] theorem wZ (T U : ET) (m : aT) (σ : ai) (Q : V → ai → Prop) : tG T U m σ Q = T m σ (fun v σ' => isB v fun b => if b then U m σ' Q else Q (.bool false) σ') := rfl
@[simp] theorem vC (o1 o2 : O2) (T U W : ET) (m : aT) (σ : ai) (Q : Bool → ai → Prop) : rc o1 o2 T U W m σ Q = T m σ (fun a σ₁ => U m σ₁ fun b σ₂ => o1 a b σ₂ fun v σ₃ => isB v fun x => if x then W m σ₃ fun c σ₄ => o2 b c σ₄ fun u σ₅ => isB u fun y => Q y σ₅ else Q false σ₃) := rfl
section
variable {σ : ai} {Q : V → ai → Prop} {ns : List Int}
@[simp] theorem add_int {x y : Int} : aR (.int x) (.int y) σ Q = Q (.int (x + y)) σ := rfl
@[simp] theorem w8 {x y : Str} : aR (.str x) (.str y) σ Q = (x.length + y.length ≤ 16777216 ∧ Q (.str (x ++ y)) σ) := rfl
@[simp] theorem sub_int {x y : Int} : nw (.int x) (.int y) σ Q = Q (.int (x - y)) σ := rfl
@[simp] theorem mul_int {x y : Int} : hJ (.int x) (.int y) σ Q = ((ey x ∨ ey y) ∧ Q (.int (x * y)) σ) := rfl
@[simp] theorem wK {x y : Int} : a6 (.int x) (.int y) σ Q = (0 < y ∧ Q (.int (x % y)) σ) := rfl
@[simp] theorem w7 {x y : Int} : bL (.int x) (.int y) σ Q = ((0 < y ∧ y < 1073741824) ∧ Q (.int (x / y)) σ) := rfl
@[simp] theorem lt_int {x y : Int} : rC (.int x) (.int y) σ Q = Q (.bool (decide (x < y))) σ := rfl
@[simp] theorem gt_int {x y : Int} : rD (.int x) (.int y) σ Q = Q (.bool (decide (y < x))) σ := rfl
@[simp] theorem eq_int {x y : Int} : bk (.int x) (.int y) σ Q = Q (.bool (decide (x = y))) σ := rfl
@[simp] theorem eq_str {x y : Str} : bk (.str x) (.str y) σ Q = Q (.bool (decide (x = y))) σ := rfl
@[simp] theorem eq_bool {x y : Bool} : bk (.bool x) (.bool y) σ Q = Q (.bool (x == y)) σ := rfl
@[simp] theorem ym : bk .none .none σ Q = Q (.bool true) σ := rfl
@[simp] theorem yk {y : Str} : bk .none (.str y) σ Q = Q (.bool false) σ := rfl
@[simp] theorem yj {y : Str} : bk (.str y) .none σ Q = Q (.bool false) σ := rfl
@[simp] theorem ne_int {x y : Int} : cb (.int x) (.int y) σ Q = Q (.bool (!decide (x = y))) σ := rfl
@[simp] theorem ne_str {x y : Str} : cb (.str x) (.str y) σ Q = Q (.bool (!decide (x = y))) σ := rfl
@[simp] theorem ne_bool {x y : Bool} : cb (.bool x) (.bool y) σ Q = Q (.bool (!(x == y))) σ := rfl
@[simp] theorem x9 : cb .none .none σ Q = Q (.bool false) σ := rfl
@[simp] theorem x0 {y : Str} : cb .none (.str y) σ Q = Q (.bool true) σ := rfl
@[simp] theorem xZ {y : Str} : cb (.str y) .none σ Q = Q (.bool true) σ := rfl
@[simp] theorem len_str {x : Str} : dA ns [.str x] σ Q = (x.length ≤ 16777216 ∧ Q (.int x.length) σ) := rfl
@[simp] theorem uH : dA ns [.script] σ Q = Q (.int ns.length) σ := rfl
@[simp] theorem wO {vs : List V} : dA ns [.tup vs] σ Q = (vs.length ≤ 16777216 ∧ Q (.int vs.length) σ) := rfl
theorem gm {a : Addr} {xs : List V} (h : σ a = some (.list xs)) : dA ns [.ref a] σ Q = Q (.int xs.length) σ := by show mu σ Q (σ a) = _; rw [h]; rfl
theorem nH {a : Addr} {kvs : List (Str × V)} {ep : Nat} (h : σ a = some (.dict kvs ep)) : dA ns [.ref a] σ Q = Q (.int kvs.length) σ := by show mu σ Q (σ a) = _; rw [h]; rfl
@[simp] theorem int_bool {b : Bool} : j2 [.bool b] σ Q = Q (.int (if b then 1 else 0)) σ := rfl
@[simp] theorem str_int {i : Int} : dP [.int i] σ Q = (i.natAbs.log2 < 1920 ∧ Q (.str (Str.ofString (toString i))) σ) := rfl
@[simp] theorem uk {x y : Str} : gc [.str x, .str y] σ Q = Q (.bool (Txt.startswith x y)) σ := rfl
@[simp] theorem vd {x y : Str} : jJ [.str x, .str y] σ Q = ((y.length = 1 ∧ x.length ≤ 1048576) ∧ dF ((Txt.split x y).map .str) σ Q) := rfl
theorem eN {x : Str} {a : Addr} {ys : List Str} (h : σ a = some (.list (ys.map .str))) (hl : (ys.map (·.length)).sum + ys.length * x.length ≤ 16777216) (q : Q (.str (Str.join x ys)) σ) : cw [.str x, .ref a] σ Q := ⟨ys, h, hl, q⟩
@[simp] theorem v8 {b : Bool} : dn [.bool b, .ty "bool"] σ Q = Q (.bool true) σ := by simp [dn, onVT, on2, on1, isT, Mine.uN]
@[simp] theorem wQ {b : Str} : dn [.str b, .ty "str"] σ Q = Q (.bool true) σ := by simp [dn, onVT, on2, on1, isT, Mine.uN]
@[simp] theorem wR {b : Int} : dn [.int b, .ty "int"] σ Q = Q (.bool true) σ := by simp [dn, onVT, on2, on1, isT, Mine.uN]
@[simp] theorem wP {vs : List V} : dn [.tup vs, .ty "tuple"] σ Q = Q (.bool true) σ := by simp [dn, onVT, on2, on1, isT, Mine.uN]
theorem r4 {a : Addr} {kvs : List (Str × V)} {ep : Nat} (h : σ a = some (.dict kvs ep)) : dn [.ref a, .ty "dict"] σ Q = Q (.bool true) σ := by
 simp [dn, onVT, on2, on1, isT, Mine.uN, h]
@[simp] theorem qb {x : Str} : cT (.str x) σ = True := rfl
theorem jY {a : Addr} {xs : List V} (h : σ a = some (.list xs)) : eB (.ref a) σ = True := by simp [eB, h]
@[simp] theorem tg {n : Int} {R : List V → (ai → Prop) → ai → Prop} : iw [.int n] σ R = ((-(2 ^ 62) ≤ n ∧ n < 2 ^ 62) ∧ R (ca 0 n.toNat) (fun _ => True) σ) := rfl
@[simp] theorem wH {a b : Int} {R : List V → (ai → Prop) → ai → Prop} : iw [.int a, .int b] σ R = ((-(2 ^ 62) ≤ a ∧ a < 2 ^ 62 ∧ -(2 ^ 62) ≤ b ∧ b < 2 ^ 62) ∧ R (ca a (b - a).toNat) (fun _ => True) σ) := rfl
@[simp] theorem vZ {x : Str} {R : List V → (ai → Prop) → ai → Prop} : km ns (.str x) σ R = R (lA x) (fun _ => True) σ := rfl
theorem bB {a : Addr} {xs : List V} (h : σ a = some (.list xs)) {R : List V → (ai → Prop) → ai → Prop} : km ns (.ref a) σ R = R xs (fun σ => σ a = some (.list xs)) σ := by show jK a σ R (σ a) = _; rw [h]; rfl
theorem cA {a : Addr} {xs : List V} {i : Int} {v : V} (h : σ a = some (.list xs)) (h0 : 0 ≤ i) (hv : xs[i.toNat]? = some v) (q : Q v σ) : aG ns (.ref a) (.int i) σ Q := by
 refine ⟨xs, i.toNat, v, h, ?_, hv, q⟩
 have hlt := (List.getElem?_eq_some_iff.mp hv).1
 unfold ox
 rw [if_pos h0, if_pos (by omega)]
theorem nL {x : Str} {i : Int} {c : Nat} (hz : x.length < 16777217) (h0 : 0 ≤ i) (hv : x.cps.toList[i.toNat]? = some c) (q : Q (.str ⟨#[c]⟩) σ) : aG ns (.str x) (.int i) σ Q := by
 refine ⟨hz, i.toNat, c, ?_, hv, q⟩
 have hlt := (List.getElem?_eq_some_iff.mp hv).1
 have : x.length = x.cps.toList.length := by simp [Str.length]
 unfold ox
 rw [if_pos h0, if_pos (by rw [this]; omega)]
theorem kD {a : Addr} {xs : List V} {lo hi : Option Int} (h : σ a = some (.list xs)) (q : dF (bG xs lo hi) σ Q) : pD ns lo hi (.ref a) σ Q := ⟨xs, h, q⟩
theorem jA {a : Addr} {xs : List V} {v : V} (h : σ a = some (.list xs)) (hz : xs.length < 16777216) (q : Q .none (a8 σ a (.list (xs ++ [v])))) : cr [.ref a, v] σ Q := ⟨xs, h, hz, q⟩
theorem qM {k : Int} (h0 : 0 ≤ k) (h : k < ns.length) (q : Q (.int (cell ns k)) σ) : aG ns .script (.int k) σ Q := by
 refine ⟨k.toNat, ns.getD k.toNat 0, h0, ?_, ?_, q⟩
 ·unfold ox; rw [if_pos h0, if_pos h]
 ·rw [List.getD_eq_getElem?_getD]
  cases e : ns[k.toNat]? with
  | none => rw [List.getElem?_eq_none_iff] at e; omega
  | some n => rfl
theorem su {k : Int} (h0 : 0 ≤ k) (h : ¬ k < ns.length) : cell ns k = 0 := by
 unfold cell
 rw [List.getD_eq_getElem?_getD, List.getElem?_eq_none (by omega)]; rfl
theorem sp {n : Int} {k : Nat} (h0 : 0 ≤ n) : clipAt k n = min n.toNat k := by
 unfold clipAt
 rw [if_neg (Int.not_lt.mpr h0)]
 obtain ⟨m, rfl⟩ := Int.eq_ofNat_of_zero_le h0
 by_cases h : m ≤ k
 ·rw [Int.min_eq_left (Int.ofNat_le.mpr h), Int.max_eq_right (Int.natCast_nonneg _), Int.toNat_natCast, Nat.min_eq_left h]
 ·have h' : k ≤ m := Nat.le_of_not_le h
  rw [Int.min_eq_right (Int.ofNat_le.mpr h'), Int.max_eq_right (Int.natCast_nonneg _), Int.toNat_natCast, Int.toNat_natCast, Nat.min_eq_right h']
theorem n8 {α : Type} (l : List α) {n : Int} (h0 : 0 ≤ n) : bG l Option.none (some n) = l.take n.toNat := by
 unfold bG kJ
 simp only [Option.elim]
 rw [sp h0, List.drop_zero, Nat.sub_zero, ← List.take_eq_take_min]
end
end Mine
end
noncomputable section
namespace Mine
open PySem PySem.W PyProof.Rows PySem.Calls
abbrev cl (x : Str) : List Nat := x.cps.toList
theorem uU {x y : Str} (h : cl x = cl y) : x = y := by
 cases x; cases y; simp [cl] at h; rw [h]
theorem dN (x y : Str) : cl (x ++ y) = cl x ++ cl y := by
 show (x.cps ++ y.cps).toList = _; simp
theorem du (x : Str) : x.length = (cl x).length := by simp [Str.length]
noncomputable def jn (c : Nat) : List (List Nat) → List Nat
 | [] => []
 | [x] => x
 | x :: y :: r => x ++ c :: jn c (y :: r)
theorem iJ (c : Nat) : ∀ xs : List Str, cl (Str.join ⟨#[c]⟩ xs) = jn c (xs.map cl)
 | [] => rfl
 | [x] => rfl
 | x :: y :: r => by
  have ih := iJ c (y :: r)
  simp only [List.map_cons] at ih
  simp only [List.map_cons, jn, Str.join, dN, ih]
  rw [List.append_assoc]; rfl
noncomputable def sH (c : Nat) (xs : List (List Nat)) : Prop := ∀ x ∈ xs, c ∉ x
theorem mH {c : Nat} : ∀ {x y a b : List Nat}, c ∉ x → c ∉ y → x ++ c :: a = y ++ c :: b → x = y ∧ a = b
 | [], [], a, b, _, _, h => by simp at h; exact ⟨rfl, h⟩
 | [], d :: y, a, b, _, hy, h => by simp at h; exact absurd (h.1 ▸ List.mem_cons_self ..) hy
 | d :: x, [], a, b, hx, _, h => by simp at h; exact absurd (h.1 ▸ List.mem_cons_self ..) hx
 | d :: x, e :: y, a, b, hx, hy, h => by
  simp at h hx hy
  obtain ⟨rfl, h⟩ := h
  obtain ⟨rfl, rfl⟩ := mH hx.2 hy.2 h
  exact ⟨rfl, rfl⟩
theorem rY {c : Nat} : ∀ {xs ys : List (List Nat)}, sH c xs → sH c ys → xs ≠ [] → ys ≠ [] → jn c xs = jn c ys → xs = ys
 | [], _, _, _, h, _, _ => absurd rfl h
 | _, [], _, _, _, h, _ => absurd rfl h
 | [x], [y], _, _, _, _, e => by simp [jn] at e; rw [e]
 | [x], y :: z :: r, fx, _, _, _, e => by
  simp only [jn] at e
  exact absurd (by rw [e]; simp) (fx x (.head _))
 | x :: z :: r, [y], _, fy, _, _, e => by
  simp only [jn] at e
  exact absurd (by rw [← e]; simp) (fy y (.head _))
 | x :: z :: r, y :: u :: q, fx, fy, _, _, e => by
  simp only [jn] at e
  obtain ⟨rfl, e'⟩ := mH (fx x (.head _)) (fy y (.head _)) e
  rw [rY (fun a h => fx a (.tail _ h)) (fun a h => fy a (.tail _ h)) (by simp) (by simp) e']
theorem lH {c : Nat} : ∀ {xs ys : List (List Nat)}, sH c xs → sH c ys → xs ≠ [] → ys ≠ [] → (jn c xs ++ [c] <+: jn c ys ↔ xs.length < ys.length ∧ ys.take xs.length = xs)
 | [], _, _, _, h, _ => absurd rfl h
 | _, [], _, _, _, h => absurd rfl h
 | [x], [y], _, fy, _, _ => by
  simp only [jn]
  constructor
  ·rintro ⟨t, e⟩; exact absurd (by rw [← e]; simp) (fy y (.head _))
  ·rintro ⟨h, _⟩; simp at h
 | x :: z :: r, [y], _, fy, _, _ => by
  simp only [jn]
  constructor
  ·rintro ⟨t, e⟩; exact absurd (by rw [← e]; simp) (fy y (.head _))
  ·rintro ⟨h, _⟩; simp at h
 | [x], y :: u :: q, fx, fy, _, _ => by
  simp only [jn]
  constructor
  ·rintro ⟨t, e⟩
   obtain ⟨rfl, _⟩ := mH (a := t) (fx x (.head _)) (fy y (.head _)) (by simpa using e)
   simp
  ·rintro ⟨_, h⟩
   simp at h
   subst h
   exact ⟨jn c (u :: q), by simp⟩
 | x :: z :: r, y :: u :: q, fx, fy, _, _ => by
  have ih := lH (c := c) (xs := z :: r) (ys := u :: q) (fun a h => fx a (.tail _ h)) (fun a h => fy a (.tail _ h)) (by simp) (by simp)
  simp only [jn]
  constructor
  ·rintro ⟨t, e⟩
   obtain ⟨rfl, e'⟩ := mH (a := jn c (z :: r) ++ [c] ++ t) (fx x (.head _)) (fy y (.head _)) (by simpa using e)
   obtain ⟨h1, h2⟩ := ih.mp ⟨t, e'⟩
   exact ⟨by simpa using h1, by simpa using h2⟩
  ·rintro ⟨h1, h2⟩
   simp only [List.length_cons, List.take_succ_cons, List.cons.injEq] at h1 h2
   obtain ⟨rfl, h2⟩ := h2
   obtain ⟨t, e⟩ := ih.mpr ⟨by simpa using h1, by simpa using h2⟩
   exact ⟨t, by rw [← e]; simp⟩
noncomputable def Fr (x : Str) : Prop := 47 ∉ cl x
theorem j3 : Str.ofString "/" = ⟨#[47]⟩ := by decide +kernel
theorem iD {xs : List Str} (h : ∀ x ∈ xs, Fr x) : sH 47 (xs.map cl) := fun a ha => by
 obtain ⟨x, hx, rfl⟩ := List.mem_map.mp ha; exact h x hx
theorem ik : ∀ {xs ys : List Str}, xs.map cl = ys.map cl → xs = ys
 | [], [], _ => rfl
 | [], _ :: _, h => by simp at h
 | _ :: _, [], h => by simp at h
 | x :: xs, y :: ys, h => by simp only [List.map_cons, List.cons.injEq] at h; rw [uU h.1, ik h.2]
theorem rW {xs ys : List Str} (fx : ∀ x ∈ xs, Fr x) (fy : ∀ y ∈ ys, Fr y) (nx : xs ≠ []) (ny : ys ≠ []) (h : Str.join (Str.ofString "/") xs = Str.join (Str.ofString "/") ys) : xs = ys := by
 refine ik (rY (iD fx) (iD fy) (by simpa using nx) (by simpa using ny) ?_)
 rw [← iJ, ← iJ, ← j3, h]
theorem j1 (x y : Str) : Txt.startswith x y = true ↔ cl y <+: cl x := by
 unfold Txt.startswith
 rw [StrLaws.subAt_eq, du, du, List.prefix_iff_eq_take]
 simp
 constructor
 ·rintro ⟨_, h⟩; exact h.symm
 ·intro h; refine ⟨?_, h.symm⟩
  have := congrArg List.length h
  simp at this
  omega
theorem ni {xs ys : List Str} (fx : ∀ x ∈ xs, Fr x) (fy : ∀ y ∈ ys, Fr y) (nx : xs ≠ []) (ny : ys ≠ []) :
  Txt.startswith (Str.join (Str.ofString "/") ys) (Str.join (Str.ofString "/") xs ++ Str.ofString "/") = decide (xs.length < ys.length ∧ ys.take xs.length = xs) := by
 rw [Bool.eq_iff_iff, j1, decide_eq_true_eq, dN, j3, iJ, iJ]
 have := lH (iD fx) (iD fy) (by simpa using nx) (by simpa using ny)
 rw [show cl ⟨#[47]⟩ = [47] from rfl, this]
 simp only [List.length_map, ← List.map_take]
 constructor
 ·rintro ⟨h, e⟩; exact ⟨h, ik e⟩
 ·rintro ⟨h, e⟩; exact ⟨h, by rw [e]⟩
noncomputable def iB (xs : List Str) : Nat := (xs.map (·.length)).sum + xs.length
theorem jv : ∀ (xs : List Str), (Str.join (Str.ofString "/") xs).length ≤ iB xs
 | [] => by simp [Str.join, iB, Str.length, Str.empty]
 | [x] => by simp [Str.join, iB]
 | x :: y :: r => by
  have ih := jv (y :: r)
  have e : (Str.join (Str.ofString "/") (x :: y :: r)).length = x.length + 1 + (Str.join (Str.ofString "/") (y :: r)).length := by
   have : Str.join (Str.ofString "/") (x :: y :: r) = x ++ Str.ofString "/" ++ Str.join (Str.ofString "/") (y :: r) := rfl
   rw [this, du, dN, dN, List.length_append, List.length_append, ← du, ← du, ← du, j3]
   rfl
  rw [e]
  simp [iB] at ih ⊢
  omega
theorem i9 : (Str.ofString "/").length = 1 := by rw [j3]; rfl
end Mine
end
noncomputable section
namespace Mine
open PySem PySem.W PyProof.Rows PySem.Calls
section
variable {C : Cx} {p : Program} {sc : Scope} {k : Nat}
end
end Mine
end
noncomputable section
namespace Mine
open PySem PySem.W PyProof.Rows PySem.Calls
noncomputable def a5 {K : Type} [DecidableEq K] (kvs : List (K × V)) (k : K) (v : V) : List (K × V) :=
 if kvs.any (fun kv => kv.1 = k) then kvs.map (fun kv => if kv.1 = k then (kv.1, v) else kv) else kvs ++ [(k, v)]
noncomputable def dm {K : Type} [DecidableEq K] (kvs : List (K × V)) (k : K) : Option V := (kvs.find? fun kv => kv.1 = k).map (·.2)
noncomputable def fY {K : Type} [DecidableEq K] (kvs : List (K × V)) (k : K) : List (K × V) := kvs.filter fun kv => decide (kv.1 ≠ k)
section
variable {aS : Addr} {h : Heap}
variable {K : Type} [DecidableEq K] {a a' : List (K × V)} {b b' : List (K × Value)} {k : K}
theorem PRel.any (k : K) (x : PRel aS h a b) : (a.any fun kv => kv.1 = k) = (b.any fun kv => kv.1 = k) :=
 x.ind (P := fun a b => (a.any fun kv => kv.1 = k) = (b.any fun kv => kv.1 = k)) rfl fun _ _ _ _ _ _ _ ih => by simp only [List.any_cons, ih]
theorem PRel.append (x : PRel aS h a b) (y : PRel aS h a' b') : PRel aS h (a ++ a') (b ++ b') :=
 x.ind (P := fun a b => PRel aS h (a ++ a') (b ++ b')) y fun _ _ _ _ _ v _ ih => by rw [List.cons_append, List.cons_append]; exact ⟨rfl, v, ih⟩
theorem PRel.mapSet {v : V} {w : Value} (hv : VRel aS h v w) (x : PRel aS h a b) : PRel aS h (a.map fun kv => if kv.1 = k then (kv.1, v) else kv) (b.map fun kv => if kv.1 = k then (kv.1, w) else kv) :=
 x.ind (P := fun a b => PRel aS h (a.map fun kv => if kv.1 = k then (kv.1, v) else kv) (b.map fun kv => if kv.1 = k then (kv.1, w) else kv)) trivial fun x _ _ _ _ q _ ih => by
  rw [List.map_cons, List.map_cons]
  by_cases c : x = k
  ·rw [if_pos c, if_pos c]; exact ⟨rfl, hv, ih⟩
  ·rw [if_neg c, if_neg c]; exact ⟨rfl, q, ih⟩
theorem PRel.stored {v : V} {w : Value} (x : PRel aS h a b) (hv : VRel aS h v w) : PRel aS h (a5 a k v) (PySem.stored b k w) := by
 unfold a5 PySem.stored
 rw [x.any k]
 split
 ·exact x.mapSet hv
 ·exact x.append ⟨rfl, hv, trivial⟩
theorem PRel.find (x : PRel aS h a b) : ∀ {v : V}, dm a k = some v → ∃ w, valueAt b k = some w ∧ VRel aS h v w :=
 x.ind (P := fun a b => ∀ {v : V}, dm a k = some v → ∃ w, valueAt b k = some w ∧ VRel aS h v w) (fun e => by cases e) fun x _ z _ _ q _ ih v hv => by
  unfold dm at hv
  unfold valueAt
  by_cases c : x = k
  ·rw [List.find?_cons_of_pos (by simpa using c)] at hv
   rw [List.find?_cons_of_pos (by simpa using c)]
   cases hv; exact ⟨z, rfl, q⟩
  ·rw [List.find?_cons_of_neg (by simpa using c)] at hv
   rw [List.find?_cons_of_neg (by simpa using c)]
   exact ih hv
theorem PRel.none (x : PRel aS h a b) : (dm a k).isSome = (valueAt b k).isSome :=
 x.ind (P := fun a b => (dm a k).isSome = (valueAt b k).isSome) rfl fun x _ _ _ _ _ _ ih => by
  unfold dm valueAt
  by_cases c : x = k
  ·rw [List.find?_cons_of_pos (by simpa using c), List.find?_cons_of_pos (by simpa using c)]; rfl
  ·rw [List.find?_cons_of_neg (by simpa using c), List.find?_cons_of_neg (by simpa using c)]
   exact ih
theorem PRel.without (x : PRel aS h a b) : PRel aS h (fY a k) (PySem.without b k) :=
 x.ind (P := fun a b => PRel aS h (fY a k) (PySem.without b k)) trivial fun x _ _ _ _ q _ ih => by
  unfold fY PySem.without at *
  by_cases c : x = k
  ·rw [List.filter_cons_of_neg (by simpa using c), List.filter_cons_of_neg (by simpa using c)]; exact ih
  ·rw [List.filter_cons_of_pos (by simpa using c), List.filter_cons_of_pos (by simpa using c)]; exact ⟨rfl, q, ih⟩
end
section
variable {C : Cx} {p : Program} {sc : Scope} {k : Nat}
theorem je (x : Str) (t : Tok) : (strKind C.prog C.w).is x (.str x t) = true := by
 show Value.isStrOf x (.str x t) = true
 simp [Value.isStrOf]
noncomputable def tu (kvs : List (Str × V)) (σ : ai) (Q : V → ai → Prop) : Prop := ∀ a ep, σ a = Option.none → Q (.ref a) (a8 σ a (.dict kvs ep))
noncomputable def eD : ET := fun _ σ Q => tu [] σ Q
theorem ds {pos : Pos} : HE C sc k (.Dict [] [] pos) eD := by
 refine ⟨?_⟩; intro env A s m σ Q P E en ao R F q hP
 have hn := bQ s.heap
 obtain ⟨ep, hat⟩ := (Heap.DictOf.new (knd := strKind C.prog C.w) s.heap).dictAt
 refine wpAny_Dict_empty (hP (.ref s.heap.objs.size) (.ref s.heap.objs.size) (a8 σ s.heap.objs.size (.dict [] ep)) _ (.ref _) ?_ .addPush (q _ ep (R.freshNone hn)))
 have := R.add (tk := s.toks) (a := s.heap.objs.size) (o := .dict [] ep) bg hn (h' := s.heap.push { cls := .type "dict", data := .dict #[] }) ⟨by simp, [], hat, trivial⟩
 exact this
noncomputable def bN : V → V → V → ai → (ai → Prop) → Prop := fun o i v σ Q => isR o fun a => isS i fun k => ∃ kvs ep, σ a = some (.dict kvs ep) ∧ kvs.length < 16777216 ∧ ∀ ep', Q (a8 σ a (.dict (a5 kvs k v) ep'))
theorem lO {h : Heap} {a : Addr} {kws : List (Str × Value)} {ep : Nat} (x : h.DictAt (strKind C.prog C.w) a kws ep) : ∀ o, h.get? a = some o → ¬ ld o := by
 intro o ho
 obtain ⟨o', es, ho', hc, hd, _⟩ := x
 rw [ho] at ho'; cases ho'
 simp [ld, hd]
theorem jq (kvs : List (Str × V)) (x : Str) (v : V) : (a5 kvs x v).length ≤ kvs.length + 1 := by
 unfold a5; split <;> simp
theorem bA : ua C k bN := by
 intro A s σ o i v wo wi w Q P E ao R vo vi vv q hP
 replace q := isR.elim q
 obtain ⟨a, rfl, q⟩ := q
 replace q := isS.elim q
 obtain ⟨x, rfl, q⟩ := q
 ·cases vo; cases vi
  obtain ⟨kvs, ep, hx, hz, q⟩ := q
  obtain ⟨_, kws, h1, h2⟩ := R.view _ _ hx
  have hl := h2.length
  refine wpAny_setItem_pairs (knd := strKind C.prog C.w) (je x _) h1.dictOf (fun h' hd' hs' => ?_) (by rw [sizeLine_eq, ← hl]; omega)
  obtain ⟨ep', hat⟩ := hd'.dictAt
  have kt : bb s.heap h' := fun b o eb ht => hs'.extBut b o (by rintro rfl; exact lO h1 o eb ht) eb
  have vl := jq kvs x v
  exact hP (a8 σ a (.dict (a5 kvs x v) ep')) _ (R.change (tk := s.toks + 1) hx hs' ⟨by omega, _, hat, (h2.stored vv).keep kt⟩) (.change hx hs') (q ep')
noncomputable def dQ : O2 := fun i o σ Q => isS i fun x => isR o fun a => ∃ kvs ep, σ a = some (.dict kvs ep) ∧ Q (.bool (dm kvs x).isSome) σ
theorem gk (O : C.Ok) : jH C k (compareOp .In) dQ := by
 intro A s σ a b wa wb Q P E ao R va vb q hP
 replace q := isS.elim q
 obtain ⟨x, rfl, q⟩ := q
 replace q := isR.elim q
 obtain ⟨a, rfl, q⟩ := q
 ·cases va; cases vb
  obtain ⟨kvs, ep, hx, q⟩ := q
  obtain ⟨_, kws, h1, h2⟩ := R.view _ _ hx
  refine wpAny_in_of (knd := strKind C.prog C.w) (je x _) (O.noMods (R.apart a (by rw [hx]; simp))) h1.dictOf.mapOf ?_
  rw [← h2.none]
  exact hP _ _ σ _ (.bool _) (R.tok _) Step.refl q
noncomputable def ej : O2 := fun o i σ Q => isR o fun a => isS i fun x => ∃ kvs ep v, σ a = some (.dict kvs ep) ∧ dm kvs x = some v ∧ Q v σ
noncomputable def onO (o : Option AObj) (D : List (Str × V) → Prop) (L : List V → Prop) : Prop := match o with | some (.dict kvs _) => D kvs | some (.list xs) => L xs | _ => False
theorem onO.elim {o : Option AObj} {D : List (Str × V) → Prop} {L : List V → Prop} (h : onO o D L) : (∃ kvs ep, o = some (.dict kvs ep) ∧ D kvs) ∨ ∃ xs, o = some (.list xs) ∧ L xs := by
 cases o with
 | none => exact False.elim h
 | some o => cases o <;> first | exact .inl ⟨_, _, rfl, h⟩ | exact .inr ⟨_, rfl, h⟩ | exact False.elim h
noncomputable def ck : cR := fun vs σ Q => onR vs fun a => onO (σ a) (fun kvs => dF (kvs.map fun q => .str q.1) σ Q) fun xs => dF xs σ Q
theorem lI {aS : Addr} {h : Heap} : ∀ (vs : List V) (ws : List Value), ws.length = vs.length → (∀ (j : Nat) (v : V) w, vs[j]? = some v → ws[j]? = some w → VRel aS h v w) → VRels aS h vs ws
 | [], [], _, _ => .nil
 | [], _ :: _, h, _ => by simp at h
 | _ :: _, [], h, _ => by simp at h
 | v :: vs, w :: ws, hl, hj => .cons (hj 0 v w rfl rfl) (lI vs ws (by simpa using hl) fun j v w e1 e2 => hj (j + 1) v w (by simpa using e1) (by simpa using e2))
theorem rJ (O : C.Ok) (hpl : C.held = Option.none) : lX C k (fun ws => PySem.call (.type "list") ws) ck := by
 intro A s σ vs ws Q P E ao R hv q hP
 replace q := onR.elim q
 obtain ⟨a, rfl, q⟩ := q
 ·obtain ⟨wa, rfl, h1⟩ := hv.inv1
  cases h1
  rcases onO.elim q with ⟨kvs, ep, hx, q⟩ | ⟨xs, hx, q⟩
  ·obtain ⟨hz, kws, h2, h3⟩ := R.view _ _ hx
   have hl := h3.length
   refine br (kdl_call (kdl_dict (knd := strKind C.prog C.w) (kvs := kws) (ep := ep) (O.noMods (R.apart a (by rw [hx]; simp)))) (ao.none hpl) h2 (kdl_size (by omega)) fun h' tk acc c hk hD hacc => ?_)
   intro hsz
   have hn := bQ s.heap
   have rel : VRels C.aS h' (kvs.map fun q => .str q.1) acc.toList := by
    refine lI _ _ (by simp [hacc.1, hl]) fun j v w e1 e2 => ?_
    rw [List.getElem?_map] at e1
    obtain ⟨⟨ky, u⟩, e3, rfl⟩ := Option.map_eq_some_iff.mp e1
    obtain ⟨k', x', e4, e5⟩ := hacc.2 j w (by rw [← Array.getElem?_toList]; exact e2)
    obtain ⟨w', e6, _⟩ := h3.get e3
    rw [e6] at e4; cases e4
    obtain ⟨t, rfl⟩ := Value.isStrOf_shape e5
    exact .str _ _
   refine hP (.ref s.heap.objs.size) _ (a8 σ s.heap.objs.size (.list (kvs.map fun q => .str q.1))) _ (.ref _) (R.add (tk := tk) hk hn ⟨by simp; omega, acc.toList, ⟨c, by simpa using hD⟩, rel⟩) (.add hk hsz (Nat.le_refl _)) (q _ (R.freshNone hn))
  ·obtain ⟨hz, us, ⟨n, h2⟩, h3⟩ := R.view _ _ hx
   have hl := h3.length
   refine br (call_list_seq a (.inl rfl) h2 rfl rfl (fun h' c' hk hD => ?_) (by rw [List.size_toArray, sizeLine_eq]; omega))
   intro hsz
   have hn := bQ s.heap
   exact hP (.ref s.heap.objs.size) _ (a8 σ s.heap.objs.size (.list xs)) _ (.ref _) (R.add (tk := s.toks) hk hn ⟨hz, us, ⟨c', by simpa using hD⟩, h3.keep fun b o e _ => hk b o e⟩) (.add hk hsz (Nat.le_refl _)) (q _ (R.freshNone hn))
end
end Mine
end
noncomputable section
namespace Mine
open PySem PySem.W PyProof.Rows PySem.Calls
section
variable {C : Cx} {p : Program} {sc : Scope} {k : Nat}
theorem rK {slice : Expr} (hsl : iC slice = false) : jH C k (fun o i => getitemInPython o >>= fun b => subscripted slice b o i) ej := by
 intro A s σ a b wa wb Q P E ao R va vb q hP
 replace q := isR.elim q
 obtain ⟨a, rfl, q⟩ := q
 replace q := isS.elim q
 obtain ⟨x, rfl, q⟩ := q
 ·cases va; cases vb
  obtain ⟨kvs, ep, v, hx, hv, q⟩ := q
  obtain ⟨_, kws, h1, h2⟩ := R.view _ _ hx
  obtain ⟨w, e1, e2⟩ := h2.find hv
  exact eO hsl h1.dictOf.typeIs slot_dict_getitem.lookup (wpAny_getItem_of (knd := strKind C.prog C.w) (je x _) h1.dictOf.mapOf e1 (hP _ _ σ _ e2 (R.tok _) Step.refl q))
theorem lh {value slice : Expr} {pos : Pos} {T U : ET} (hv : HE C sc k value T) (hi : HE C sc k slice U) (hs : iC slice = false) : HE C sc k (.Subscript value slice pos) (an ej T U) :=
 sC hv hi (rK hs)
noncomputable def bi : V → ai → Prop
 | .ref a, σ => ∃ kvs ep, σ a = some (.dict kvs ep)
 | _, _ => False
theorem lw : tO C "dict" bi := by
 intro o wo σ s R hv h
 cases hv <;> first | exact h.elim | skip
 obtain ⟨kvs, ep, hx⟩ := h
 obtain ⟨_, ws, h1, h2⟩ := R.view _ _ hx
 exact ⟨h1.dictOf.typeIs, h1.dictOf.mapOf.noDict⟩
theorem mY (kvs : List (Str × V)) (x : Str) : (fY kvs x).length ≤ kvs.length := List.length_filter_le _ _
noncomputable def ly : cR := fun vs σ Q => onRS vs fun a x => ∃ kvs ep v, σ a = some (.dict kvs ep) ∧ dm kvs x = some v ∧ ∀ ep', Q v (a8 σ a (.dict (fY kvs x) ep'))
theorem ux : lX C k (fun ws => PySem.call (.builtin "dict.pop") ws) ly := by
 intro A s σ vs ws Q P E ao R hv q hP
 replace q := onRS.elim q
 obtain ⟨a, x, rfl, q⟩ := q
 ·obtain ⟨wa, wb, rfl, h1, h2⟩ := hv.inv2
  cases h1; cases h2
  obtain ⟨kvs, ep, v, hx, hv, q⟩ := q
  obtain ⟨hz, kws, h1, h2⟩ := R.view _ _ hx
  obtain ⟨w, e1, e2⟩ := h2.find hv
  have hl := h2.length
  refine call_meetsIn F.slot_dict_pop h1.dictOf.typeIs F.entry_dict_pop (F.args_dict_pop_2 _ _) (meets_dict_pop_there (strKind C.prog C.w) a (je x _) [] (.inl rfl) rfl) ⟨kws, w, h1.dictOf, by rw [sizeLine_eq]; omega, e1, fun h' hd' hs' => ?_⟩
  obtain ⟨ep', hat⟩ := hd'.dictAt
  have kt : bb s.heap h' := fun b o eb ht => hs'.extBut b o (by rintro rfl; exact lO h1 o eb ht) eb
  have vl := mY kvs x
  exact hP v w (a8 σ a (.dict (fY kvs x) ep')) _ (e2.keep kt) (R.change (tk := s.toks + 1) hx hs' ⟨by omega, _, hat, h2.without.keep kt⟩) (.change hx hs') (q ep')
theorem p6 {o : Expr} {apos pos : Pos} {es : List Expr} {To : ET} {L : LT} (ho : HE C sc k o To) (hl : HL C sc k es L) (hp : aQ es = true)
  (hbase : ∀ env, attributeBase o (Str.ofString "pop") env (eval o env) = eval o env) (hline : (apos.endLine == pos.line) = true) (hfew : es.length < 30) : HE C sc k (.Call (.Attribute o (Str.ofString "pop") apos) es [] pos) (a4 bi ly To L) :=
 gW lw F.plainAttrs_dict F.slot_dict_pop F.type_dict_pop ux ho hl hp hbase hline hfew
theorem dY (G : Gl C p) (hpl : C.held = Option.none) {np pos : Pos} {es : List Expr} {L : LT} (hn : sc.names.lookup (Str.ofString "list") = some .globalImplicit) (hl : HL C sc k es L) (hp : aQ es = true) : HE C sc k (.Call (.Name (Str.ofString "list") np) es [] pos) (aC ck L) :=
 i4 G.ok (rJ G.ok hpl) hn (G.free _ (by decide)) (G.blt tK (by decide)) rfl hl hp
end
end Mine
end
noncomputable section
namespace Mine
open PySem PySem.W PyProof.Rows PySem.Calls
theorem eT {g : Tgt} {inv : ai → Prop} {T : ET} {m : aT} (P : ai → Prop) (R : Nat → V → Prop) (hinv : ∀ σ, P σ → inv σ) :
  ∀ (items acc : List V) (n : Nat) (σ : ai) (Q : List V → ai → Prop), acc.length + items.length ≤ 1048576 →
  (∀ (i : Nat) v, items[i]? = some v → ∀ σ (Q' : V → ai → Prop), P σ → (∀ y σ', P σ' → R (n + i) y → Q' y σ') → ∃ m', dB g v m = some m' ∧ T m' σ Q') →
  P σ → (∀ ys σ', P σ' → ys.length = items.length → (∀ (i : Nat) y, ys[i]? = some y → R (n + i) y) → Q (acc ++ ys) σ') → cq g inv tT T m items acc σ Q
 | [], acc, n, σ, Q, hz, step, p, q => by
  simp only [cq]
  exact ⟨hinv σ p, by simpa using q [] σ p rfl (fun i y e => by simp at e)⟩
 | v :: r, acc, n, σ, Q, hz, step, p, q => by
  simp only [cq]
  simp at hz
  obtain ⟨m', h1, h2⟩ := step 0 v rfl σ (fun y σ₂ => acc.length < 1048576 ∧ cq g inv tT T m r (acc ++ [y]) σ₂ Q) p (fun y σ' p' hy => by
   refine ⟨by exact Nat.lt_of_le_of_lt (Nat.le_add_right _ _) hz, eT P R hinv r (acc ++ [y]) (n + 1) σ' Q (by simp; exact dE fun hg => lN [(acc.length), (r.length)] 0x520c010000028461080000142519001 rfl hz hg) (fun i v e => ?_) p' fun ys σ'' p'' hl hR => ?_⟩
   ·have := step (i + 1) v (by simpa using e)
    rw [show n + (i + 1) = n + 1 + i by omega] at this
    exact this
   ·have := q (y :: ys) σ'' p'' (by simp [hl]) fun i z e => by
     cases i with
     | zero => simp at e; subst e; exact hy
     | succ i => rw [show n + (i + 1) = n + 1 + i by omega]; exact hR i z (by simpa using e)
    simpa using this)
  exact ⟨hinv σ p, m', h1, by simpa [tT] using h2⟩
section
variable {σ : ai} {Q : V → ai → Prop} {ns : List Int}
theorem dW {a b : Addr} {xs ys : List V} (ha : σ a = some (.list xs)) (hb : σ b = some (.list ys)) (hz : xs.length + ys.length ≤ 16777216) (q : dF (xs ++ ys) σ Q) : aR (.ref a) (.ref b) σ Q := ⟨xs, ys, ha, hb, hz, q⟩
@[simp] theorem vn {m : aT} : eD m σ Q = tu [] σ Q := rfl
theorem bF {a : Addr} {kvs : List (Str × V)} {ep : Nat} {x : Str} {v : V} {R : ai → Prop} (h : σ a = some (.dict kvs ep)) (hz : kvs.length < 16777216) (q : ∀ ep', R (a8 σ a (.dict (a5 kvs x v) ep'))) : bN (.ref a) (.str x) v σ R := ⟨kvs, ep, h, hz, q⟩
theorem em {a : Addr} {kvs : List (Str × V)} {ep : Nat} {x : Str} (h : σ a = some (.dict kvs ep)) (q : Q (.bool (dm kvs x).isSome) σ) : dQ (.str x) (.ref a) σ Q := ⟨kvs, ep, h, q⟩
theorem jg {a : Addr} {kvs : List (Str × V)} {ep : Nat} {x : Str} {v : V} (h : σ a = some (.dict kvs ep)) (hv : dm kvs x = some v) (q : Q v σ) : ej (.ref a) (.str x) σ Q := ⟨kvs, ep, v, h, hv, q⟩
theorem nt {a : Addr} {kvs : List (Str × V)} {ep : Nat} {x : Str} {v : V} (h : σ a = some (.dict kvs ep)) (hv : dm kvs x = some v) (q : ∀ ep', Q v (a8 σ a (.dict (fY kvs x) ep'))) : ly [.ref a, .str x] σ Q := ⟨kvs, ep, v, h, hv, q⟩
theorem fu {a : Addr} {kvs : List (Str × V)} {ep : Nat} (h : σ a = some (.dict kvs ep)) : ck [.ref a] σ Q = dF (kvs.map fun q => .str q.1) σ Q := by show onO (σ a) _ _ = _; rw [h]; rfl
theorem fj {a : Addr} {kvs : List (Str × V)} {ep : Nat} (h : σ a = some (.dict kvs ep)) : bi (.ref a) σ = True := by simp [bi, h]
theorem cz {a : Addr} {kvs : List (Str × V)} {ep : Nat} (h : σ a = some (.dict kvs ep)) {R : List V → (ai → Prop) → ai → Prop} : km ns (.ref a) σ R = R (kvs.map fun q => .str q.1) (fun σ => σ a = some (.dict kvs ep)) σ := by show jK a σ R (σ a) = _; rw [h]; rfl
end
theorem bj (kvs : List (Str × V)) (x : Str) : (dm kvs x).isSome = decide (x ∈ kvs.map (·.1)) := by
 unfold dm
 rw [Option.isSome_map, Bool.eq_iff_iff, List.find?_isSome]
 simp
theorem dl {kvs : List (Str × V)} {x : Str} (h : x ∈ kvs.map (·.1)) : ∃ v, dm kvs x = some v ∧ (x, v) ∈ kvs := by
 have := bj kvs x
 rw [decide_eq_true h] at this
 obtain ⟨v, hv⟩ := Option.isSome_iff_exists.mp this
 refine ⟨v, hv, ?_⟩
 unfold dm at hv
 obtain ⟨⟨k', v'⟩, h1, h2⟩ := Option.map_eq_some_iff.mp hv
 have h3 := List.find?_some h1
 have h4 := List.mem_of_find?_eq_some h1
 simp at h3 h2
 subst h3; subst h2; exact h4
theorem eg {kvs : List (Str × V)} {k : Str} {v : V} {q : Str × V} (h : q ∈ a5 kvs k v) : q = (k, v) ∨ q ∈ kvs := by
 unfold a5 at h
 split at h
 ·obtain ⟨r, hr, rfl⟩ := List.mem_map.mp h
  by_cases c : r.1 = k
  ·rw [if_pos c, c]; exact .inl rfl
  ·rw [if_neg c]; exact .inr hr
 ·rcases List.mem_append.mp h with h | h
  ·exact .inr h
  ·simp at h; exact .inl h
theorem cj (kvs : List (Str × V)) (k : Str) (v : V) : ∀ x, x ∈ (a5 kvs k v).map (·.1) ↔ x = k ∨ x ∈ kvs.map (·.1) := by
 intro x
 unfold a5
 split
 ·rename_i h
  have e : (kvs.map fun kv => if kv.1 = k then (kv.1, v) else kv).map (·.1) = kvs.map (·.1) := by
   rw [List.map_map]; apply List.map_congr_left; intro q _; simp only [Function.comp]; split <;> rfl
  rw [e]
  have hk : k ∈ kvs.map (·.1) := by
   obtain ⟨q, hq, e⟩ := List.any_eq_true.mp h
   exact List.mem_map.mpr ⟨q, hq, by simpa using e⟩
  constructor
  ·exact .inr
  ·rintro (rfl | h)
   ·exact hk
   ·exact h
 ·simp only [List.map_append, List.mem_append, List.map_cons, List.map_nil, List.mem_singleton]
  constructor
  ·rintro (h | h)
   ·exact .inr h
   ·exact .inl h
  ·rintro (h | h)
   ·exact .inr h
   ·exact .inl h
theorem df {kvs : List (Str × V)} {k : Str} {v : V} (h : (kvs.map (·.1)).Nodup) : ((a5 kvs k v).map (·.1)).Nodup := by
 unfold a5
 split
 ·have e : (kvs.map fun kv => if kv.1 = k then (kv.1, v) else kv).map (·.1) = kvs.map (·.1) := by
   rw [List.map_map]; apply List.map_congr_left; intro q _; simp only [Function.comp]; split <;> rfl
  rw [e]; exact h
 ·rename_i hn
  rw [List.map_append, List.nodup_append]
  refine ⟨h, by simp, ?_⟩
  intro a ha b hb
  simp at hb
  subst hb
  rintro rfl
  obtain ⟨q, hq, e⟩ := List.mem_map.mp ha
  exact hn (List.any_eq_true.mpr ⟨q, hq, by simpa using e⟩)
theorem lv (kvs : List (Str × V)) (k : Str) : ∀ x, x ∈ (fY kvs k).map (·.1) ↔ x ≠ k ∧ x ∈ kvs.map (·.1) := by
 intro x
 unfold fY
 constructor
 ·intro h
  obtain ⟨q, hq, rfl⟩ := List.mem_map.mp h
  obtain ⟨h1, h2⟩ := List.mem_filter.mp hq
  exact ⟨by simpa using h2, List.mem_map.mpr ⟨q, h1, rfl⟩⟩
 ·rintro ⟨h1, h2⟩
  obtain ⟨q, hq, rfl⟩ := List.mem_map.mp h2
  exact List.mem_map.mpr ⟨q, List.mem_filter.mpr ⟨hq, by simpa using h1⟩, rfl⟩
theorem jV {kvs : List (Str × V)} {k : Str} (h : (kvs.map (·.1)).Nodup) : ((fY kvs k).map (·.1)).Nodup := h.sublist (List.filter_sublist.map _)
theorem iq {kvs : List (Str × V)} {k : Str} {q : Str × V} (h : q ∈ fY kvs k) : q ∈ kvs := (List.mem_filter.mp h).1
end Mine
end
noncomputable section
namespace Mine
open PySem AutoSeq1 MeetsSeq MeetsSeq2 MeetsSeq3 SeqRoads2
noncomputable def EqW (C : Cx) (A : Around) (s : Shared) (y x : Value) (b : Bool) : Prop :=
 ∀ (E : Value → Shared → Prop) (Q : Bool → Shared → Prop), Q b s → wpAny (model C.prog C.w) A (eqBool y x) Q E s
noncomputable def EqWs (C : Cx) (A : Around) (s : Shared) : List Value → List Value → Bool → Prop
 | [], [], b => b = true
 | [], _ :: _, b => b = false
 | _ :: _, [], b => b = false
 | x :: xs, y :: ys, b => ∃ e, EqW C A s x y e ∧ ((e = true ∧ EqWs C A s xs ys b) ∨ (e = false ∧ b = false))
noncomputable def vy (op : CmpOp) (b : Bool) : Bool := match op with | .Eq => b | _ => !b
noncomputable def wv (C : Cx) (A : Around) (s : Shared) (y x : Value) (b : Bool) : Prop :=
 ∀ (op : CmpOp) (E : Value → Shared → Prop) (Q : Value → Shared → Prop), op = .Eq ∨ op = .NotEq → Q (.bool (vy op b)) s → wpAny (model C.prog C.w) A (richCompare op y x) Q E s
section
variable {C : Cx} {A : Around} {s : Shared}
theorem EqW.of_refs {l b : Addr} {k : Bool} (hne : l ≠ b) (h : wv C A s (.ref l) (.ref b) k) : EqW C A s (.ref l) (.ref b) k := fun E Q hq => by
 unfold eqBool
 refine wpAny_holding ?_
 refine wpAny_ite_split (fun hab => absurd (by have := eq_of_beq hab; injection this) hne) (fun _ => ?_)
 exact wpAny_bind (h .Eq E _ (.inl rfl) (wpAny_truthy_bool hq))
theorem EqW.at {y x : Value} {b : Bool} (h : SeqAt.EqAt A s y x b) : EqW C A s y x b := fun E Q hq => h C.prog C.w E Q hq
end
end Mine
end
noncomputable section
namespace Mine
open PySem AutoSeq1 MeetsSeq MeetsSeq2 MeetsSeq3 SeqRoads2
section
variable {C : Cx}
theorem EqWs.fin {A : Around} {s : Shared} {r : Bool} : ∀ {us vs : List Value}, [] = us.zip vs → EqWs C A s us vs r → r = decide (us.length = vs.length)
 | [], [], _, h => by cases (h : r = true); rfl
 | [], _ :: _, _, h => by cases (h : r = false); rfl
 | _ :: _, [], _, h => by cases (h : r = false); rfl
 | _ :: _, _ :: _, e, _ => by simp at e
theorem wA {A : Around} {s : Shared} {R : Result → Shared → Prop} (l b : Addr) (xs ys : List Value) (n n2 : Nat) (dd dd2 : Option Addr) (sl sl2 : Array (Option Value)) {r : Bool}
  (hl : s.heap.get? l = some { cls := .type "tuple", dict := dd, data := .seq xs.toArray n, slots := sl }) (hb : s.heap.get? b = some { cls := .type "tuple", dict := dd2, data := .seq ys.toArray n2, slots := sl2 })
  (he : EqWs C A.in1 s xs ys r) (h : R (.ok (.ret (.bool r))) s) :
  wpAny (model C.prog C.w) A.in1 (Builtin.«tuple.__eq__» ⟨[.ref l, .ref b], []⟩) (fun fin s' => match fin with | .done f => R (.ok f) s' | .again c' => c'.quiet = true ∧ codeAny (model C.prog C.w) A c' R s') (fun e s' => R (.error e) s') s := by
 obtain ⟨hp, g, d, tk, os⟩ := s
 have f2 := AutoSeq1.sub_tuple_tuple
 wp_walk using wpAny_loadPart' hl, wpAny_loadPart' hb, wpAny_forIn_list _ (fun rest b s' => b.1 = none ∧ s' = ⟨hp, g, d, tk, os⟩ ∧ ∃ us vs, rest = us.zip vs ∧ EqWs C A.in1 ⟨hp, g, d, tk, os⟩ us vs r ∧ (xs.length = ys.length ↔ us.length = vs.length)) _
 case turn =>
  rintro ⟨x, y⟩ rest b s' ⟨hb', rfl, us, vs, hz, hr, hlen⟩
  match us, vs, hz, hr with
  | [], _, hz, _ => simp at hz
  | _ :: _, [], hz, _ => simp at hz
  | u :: us, v :: vs, hz, ⟨e, h1, h2⟩ =>
   simp only [List.zip_cons_cons, List.cons.injEq, Prod.mk.injEq] at hz
   obtain ⟨⟨rfl, rfl⟩, rfl⟩ := hz
   dsimp only
   refine wpAny_bind (h1 _ _ ?_)
   rcases h2 with ⟨rfl, h2⟩ | ⟨rfl, h2⟩
   ·simp only [Bool.not_true, Bool.false_eq_true, if_false]
    exact wpAny_pure ⟨rfl, rfl, us, vs, rfl, h2, by simpa using hlen⟩
   ·subst h2
    simp only [Bool.not_false, if_true]
    refine wpAny_bind (wpAny_pure (wpAny_pure ?_))
    exact wpAny_pure h
 case fin =>
  rintro ⟨b1, b2⟩ s' ⟨hb', rfl, us, vs, hz, hr, hlen⟩
  simp only at hb'
  subst hb'
  have e := EqWs.fin hz hr
  dsimp only
  refine wpAny_pure ?_
  have e2 : Builtin.Tuple.tupleCompareSizes CmpOp.Eq xs.toArray.size ys.toArray.size = .bool r := by
   show Value.bool (xs.toArray.size == ys.toArray.size) = _
   rw [e, List.size_toArray, List.size_toArray]
   by_cases hq : xs.length = ys.length
   ·simp [hq, hlen.mp hq]
   ·have : ¬ us.length = vs.length := fun z => hq (hlen.mpr z)
    simp [hq, this]
  rw [e2]
  exact h
 case h => exact ⟨rfl, rfl, xs, ys, by simp, he, Iff.rfl⟩
theorem rR (l b : Addr) (xs ys : List Value) (n n2 : Nat) (dd dd2 : Option Addr) (sl sl2 : Array (Option Value)) (hsz : xs.length = ys.length) : ∀ (us vs : List Value) (i : Nat) {A : Around} {s : Shared} {R : Result → Shared → Prop} {r : Bool},
  us = xs.drop i → vs = ys.drop i → i ≤ xs.length →
  s.heap.get? l = some { cls := .type "list", dict := dd, data := .seq xs.toArray n, slots := sl } → s.heap.get? b = some { cls := .type "list", dict := dd2, data := .seq ys.toArray n2, slots := sl2 } →
  EqWs C A.in1 s us vs r → R (.ok (.ret (.bool r))) s →
  wpAny (model C.prog C.w) A.in1 (Builtin.«list.__eq__.loop» ⟨[.ref l, .ref b, rawInt i, rawInt 2], []⟩) (fun fin s' => match fin with | .done f => R (.ok f) s' | .again c' => c'.quiet = true ∧ codeAny (model C.prog C.w) A c' R s') (fun e s' => R (.error e) s') s := by
 intro us
 induction us with
 | nil =>
  intro vs i A s R r e1 e2 hi hl hb he h
  obtain ⟨hp, g, d, tk, os⟩ := s
  have hil : i = xs.length := iH e1.symm hi
  have hv : vs = [] := by rw [e2]; exact List.drop_of_length_le (by exact dE fun hg => lN [(xs.length), (ys.length), i] 0xa6184c4090a1 rfl (Nat.le_of_eq (Eq.symm hsz)) (Nat.le_of_eq (Eq.symm hil)) hg)
  subst hv
  cases (he : r = true)
  wp_walk using wpAny_loadPart' hl, wpAny_loadPart' hb
  have hi1 : xs.toArray[((i : Nat) : Int).toNat]? = none := by simp; exact Nat.le_of_eq hil.symm
  have hi2 : ys.toArray[((i : Nat) : Int).toNat]? = none := by simp; exact dE fun hg => lN [(xs.length), (ys.length), i] 0xa6184c4090a1 rfl (Nat.le_of_eq (Eq.symm hsz)) (Nat.le_of_eq (Eq.symm hil)) hg
  rw [hi1, hi2]
  wp_walk using wpAny_loadPart' hl, wpAny_loadPart' hb
  show R (.ok (.ret (.bool (xs.toArray.size == ys.toArray.size)))) _
  simpa [hsz] using h
 | cons u us ih =>
  intro vs i A s R r e1 e2 hi hl hb he h
  obtain ⟨hp, g, d, tk, os⟩ := s
  have hlt : i < xs.length := jM e1.symm
  have hlt2 : i < ys.length := by exact Nat.lt_of_lt_of_eq hlt hsz
  rw [List.drop_eq_getElem_cons hlt] at e1
  rw [List.drop_eq_getElem_cons hlt2] at e2
  injection e1 with e1 e3
  subst e2
  obtain ⟨e, h1, h2⟩ := he
  have hi1 : xs.toArray[((i : Nat) : Int).toNat]? = some u := by simp [hlt, e1]
  have hi2 : ys.toArray[((i : Nat) : Int).toNat]? = some ys[i] := by simp [hlt2]
  have hc : ((i : Int) + 1) = ((i + 1 : Nat) : Int) := by push_cast; rfl
  wp_walk using wpAny_loadPart' hl, wpAny_loadPart' hb
  rw [hi1, hi2]
  refine wpAny_bind (h1 _ _ ?_)
  rcases h2 with ⟨rfl, h2⟩ | ⟨rfl, h2⟩
  ·wp_walk
   rw [hc]
   exact ⟨plainId_quiet plain_eq_loop _, codeAny_builtin entry_eq_loop (by
    rw [Around.under_plainId plain_eq_loop _]
    exact ih (ys.drop (i + 1)) (i + 1) e3 rfl (by exact hlt) hl hb h2 h)⟩
  ·subst h2
   wp_walk using wpAny_loadPart' hl, wpAny_loadPart' hb
   rw [hi1, hi2]
   wp_walk
   simpa using h
theorem rT {A : Around} {s : Shared} {R : Result → Shared → Prop} (l b : Addr) (xs ys : List Value) (n n2 : Nat) (dd dd2 : Option Addr) (sl sl2 : Array (Option Value)) {r : Bool}
  (hl : s.heap.get? l = some { cls := .type "list", dict := dd, data := .seq xs.toArray n, slots := sl }) (hb : s.heap.get? b = some { cls := .type "list", dict := dd2, data := .seq ys.toArray n2, slots := sl2 })
  (he : xs.length = ys.length → EqWs C A.in1 s xs ys r) (hne : xs.length ≠ ys.length → r = false) (h : R (.ok (.ret (.bool r))) s) :
  wpAny (model C.prog C.w) A.in1 (Builtin.«list.__eq__» ⟨[.ref l, .ref b], []⟩) (fun fin s' => match fin with | .done f => R (.ok f) s' | .again c' => c'.quiet = true ∧ codeAny (model C.prog C.w) A c' R s') (fun e s' => R (.error e) s') s := by
 obtain ⟨hp, g, d, tk, os⟩ := s
 have f3 := AutoSeq1.sub_list_list
 by_cases hsz : xs.length = ys.length
 ·have hn' : ¬ (xs.toArray.size != ys.toArray.size) = true := by simp [hsz]
  wp_walk using wpAny_loadPart' hl, wpAny_loadPart' hb
  exact ⟨plainId_quiet plain_eq_loop _, codeAny_builtin entry_eq_loop (by
   rw [Around.under_plainId plain_eq_loop _]
   exact rR l b xs ys n n2 dd dd2 sl sl2 hsz xs ys 0 rfl rfl (Nat.zero_le _) hl hb (he hsz) h)⟩
 ·have hc0 : (xs.toArray.size != ys.toArray.size) = true := by simpa using hsz
  cases hne hsz
  wp_walk using wpAny_loadPart' hl, wpAny_loadPart' hb
  exact h
theorem rQ (l b : Addr) (xs ys : List Value) (n n2 : Nat) (dd dd2 : Option Addr) (sl sl2 : Array (Option Value)) (hsz : xs.length = ys.length) : ∀ (us vs : List Value) (i : Nat) {A : Around} {s : Shared} {R : Result → Shared → Prop} {r : Bool},
  us = xs.drop i → vs = ys.drop i → i ≤ xs.length →
  s.heap.get? l = some { cls := .type "list", dict := dd, data := .seq xs.toArray n, slots := sl } → s.heap.get? b = some { cls := .type "list", dict := dd2, data := .seq ys.toArray n2, slots := sl2 } →
  EqWs C A.in1 s us vs r → R (.ok (.ret (.bool (!r)))) s →
  wpAny (model C.prog C.w) A.in1 (Builtin.«list.__eq__.loop» ⟨[.ref l, .ref b, rawInt i, rawInt 3], []⟩) (fun fin s' => match fin with | .done f => R (.ok f) s' | .again c' => c'.quiet = true ∧ codeAny (model C.prog C.w) A c' R s') (fun e s' => R (.error e) s') s := by
 intro us
 induction us with
 | nil =>
  intro vs i A s R r e1 e2 hi hl hb he h
  obtain ⟨hp, g, d, tk, os⟩ := s
  have hil : i = xs.length := iH e1.symm hi
  have hv : vs = [] := by rw [e2]; exact List.drop_of_length_le (by exact dE fun hg => lN [(xs.length), (ys.length), i] 0xa6184c4090a1 rfl (Nat.le_of_eq (Eq.symm hsz)) (Nat.le_of_eq (Eq.symm hil)) hg)
  subst hv
  cases (he : r = true)
  wp_walk using wpAny_loadPart' hl, wpAny_loadPart' hb
  have hi1 : xs.toArray[((i : Nat) : Int).toNat]? = none := by simp; exact Nat.le_of_eq hil.symm
  have hi2 : ys.toArray[((i : Nat) : Int).toNat]? = none := by simp; exact dE fun hg => lN [(xs.length), (ys.length), i] 0xa6184c4090a1 rfl (Nat.le_of_eq (Eq.symm hsz)) (Nat.le_of_eq (Eq.symm hil)) hg
  rw [hi1, hi2]
  wp_walk using wpAny_loadPart' hl, wpAny_loadPart' hb
  show R (.ok (.ret (.bool (xs.toArray.size != ys.toArray.size)))) _
  simpa [hsz] using h
 | cons u us ih =>
  intro vs i A s R r e1 e2 hi hl hb he h
  obtain ⟨hp, g, d, tk, os⟩ := s
  have hlt : i < xs.length := jM e1.symm
  have hlt2 : i < ys.length := by exact Nat.lt_of_lt_of_eq hlt hsz
  rw [List.drop_eq_getElem_cons hlt] at e1
  rw [List.drop_eq_getElem_cons hlt2] at e2
  injection e1 with e1 e3
  subst e2
  obtain ⟨e, h1, h2⟩ := he
  have hi1 : xs.toArray[((i : Nat) : Int).toNat]? = some u := by simp [hlt, e1]
  have hi2 : ys.toArray[((i : Nat) : Int).toNat]? = some ys[i] := by simp [hlt2]
  have hc : ((i : Int) + 1) = ((i + 1 : Nat) : Int) := by push_cast; rfl
  wp_walk using wpAny_loadPart' hl, wpAny_loadPart' hb
  rw [hi1, hi2]
  refine wpAny_bind (h1 _ _ ?_)
  rcases h2 with ⟨rfl, h2⟩ | ⟨rfl, h2⟩
  ·wp_walk
   rw [hc]
   exact ⟨plainId_quiet plain_eq_loop _, codeAny_builtin entry_eq_loop (by
    rw [Around.under_plainId plain_eq_loop _]
    exact ih (ys.drop (i + 1)) (i + 1) e3 rfl (by exact hlt) hl hb h2 h)⟩
  ·subst h2
   wp_walk using wpAny_loadPart' hl, wpAny_loadPart' hb
   rw [hi1, hi2]
   wp_walk
   simpa using h
theorem rS {A : Around} {s : Shared} {R : Result → Shared → Prop} (l b : Addr) (xs ys : List Value) (n n2 : Nat) (dd dd2 : Option Addr) (sl sl2 : Array (Option Value)) {r : Bool}
  (hl : s.heap.get? l = some { cls := .type "list", dict := dd, data := .seq xs.toArray n, slots := sl }) (hb : s.heap.get? b = some { cls := .type "list", dict := dd2, data := .seq ys.toArray n2, slots := sl2 })
  (he : xs.length = ys.length → EqWs C A.in1 s xs ys r) (hne : xs.length ≠ ys.length → r = false) (h : R (.ok (.ret (.bool (!r)))) s) :
  wpAny (model C.prog C.w) A.in1 (Builtin.«list.__ne__» ⟨[.ref l, .ref b], []⟩) (fun fin s' => match fin with | .done f => R (.ok f) s' | .again c' => c'.quiet = true ∧ codeAny (model C.prog C.w) A c' R s') (fun e s' => R (.error e) s') s := by
 obtain ⟨hp, g, d, tk, os⟩ := s
 have f3 := AutoSeq1.sub_list_list
 by_cases hsz : xs.length = ys.length
 ·have hn' : ¬ (xs.toArray.size != ys.toArray.size) = true := by simp [hsz]
  wp_walk using wpAny_loadPart' hl, wpAny_loadPart' hb
  exact ⟨plainId_quiet plain_eq_loop _, codeAny_builtin entry_eq_loop (by
   rw [Around.under_plainId plain_eq_loop _]
   exact rQ l b xs ys n n2 dd dd2 sl sl2 hsz xs ys 0 rfl rfl (Nat.zero_le _) hl hb (he hsz) h)⟩
 ·have hc0 : (xs.toArray.size != ys.toArray.size) = true := by simpa using hsz
  cases hne hsz
  wp_walk using wpAny_loadPart' hl, wpAny_loadPart' hb
  exact h
end
end Mine
end
noncomputable section
namespace Mine
open PySem PyProof.Rows
structure SP (kd : SortKind) (a₀ : Array Keyed) (p : Array (Nat × Nat × Nat)) (st : SortSt) : Prop where
 perm : (arrOf st).Perm a₀
 kind : kindOf st = kd
 failed : failedOf st = none
 pend : pendingOf st = p
noncomputable def k9 (prog : Program) (w : World) (A : Around) (E : Value → Shared → Prop) (s : Shared) (kd : SortKind) (a₀ : Array Keyed) : Prop :=
 ∀ x y, x ∈ a₀.toList → y ∈ a₀.toList → ∀ (Q : Option Bool → SortSt → Prop) (st : SortSt), kindOf st = kd → (∀ b, Q (some b) st) → wpS (model prog w) A E s (lt' x y) Q st
section walk
variable {prog : Program} {w : World} {A : Around} {E : Value → Shared → Prop} {s : Shared} {kd : SortKind} {a₀ : Array Keyed} {p : Array (Nat × Nat × Nat)}
theorem SP.size {st : SortSt} (h : SP kd a₀ p st) : (arrOf st).size = a₀.size := h.perm.size_eq
theorem SP.setArr {st : SortSt} (h : SP kd a₀ p st) {xs : Array Keyed} (hp : xs.Perm (arrOf st)) : SP kd a₀ p (setArr st xs) := ⟨hp.trans h.perm, h.kind, h.failed, h.pend⟩
theorem SP.mem {st : SortSt} (h : SP kd a₀ p st) : ∀ x ∈ (arrOf st).toList, x ∈ a₀.toList := fun _ hx => (Array.perm_iff_toList_perm.mp h.perm).mem_iff.mp hx
theorem bf {β : Type} {st : SortSt} {arr : Array Keyed} {i : Nat} {f : Keyed → StateT SortSt Sem β} {Q : β → SortSt → Prop} (hi : i < arr.size) (h : wpS (model prog w) A E s (f arr[i]) Q st) : wpS (model prog w) A E s (elem' arr i >>= f) Q st := by
 rw [elem'_eq, getElem?_pos arr i hi]
 exact wpS_bind (wpS_pure h)
theorem cC {β : Type} {f : SortSt → StateT SortSt Sem β} {Q : β → SortSt → Prop} {st : SortSt} (h : wpS (model prog w) A E s (f st) Q st) : wpS (model prog w) A E s (get >>= f) Q st := wpS_bind (wpS_get h)
theorem dC {β : Type} {g : SortSt → SortSt} {f : PUnit → StateT SortSt Sem β} {Q : β → SortSt → Prop} {st : SortSt} (h : wpS (model prog w) A E s (f ⟨⟩) Q (g st)) : wpS (model prog w) A E s (modify g >>= f) Q st := wpS_bind (wpS_modify h)
theorem eI {β : Type} {tag : String} {f : Unit → StateT SortSt Sem β} {Q : β → SortSt → Prop} {st : SortSt} (h : wpS (model prog w) A E s (f ()) Q st) : wpS (model prog w) A E s ((liftM (rule tag) : StateT SortSt Sem Unit) >>= f) Q st := wpS_bind (wpS_lift (wpAny_rule ⟨rfl, h⟩))
theorem q8 {α β : Type} {m : StateT SortSt Sem α} {f : α → StateT SortSt Sem β} {Q : β → SortSt → Prop} {st : SortSt} (h : ∀ K, K = f → wpS (model prog w) A E s m (fun a st' => wpS (model prog w) A E s (K a) Q st') st) : wpS (model prog w) A E s (m >>= f) Q st := wpS_bind (h f rfl)
theorem a9 {α : Type} {st : SortSt} {c : Prop} [Decidable c] {t e : StateT SortSt Sem α} {Q : α → SortSt → Prop} (h1 : c → wpS (model prog w) A E s t Q st) (h2 : ¬c → wpS (model prog w) A E s e Q st) : wpS (model prog w) A E s (if c then t else e) Q st := by
 by_cases h : c
 ·rw [if_pos h]; exact h1 h
 ·rw [if_neg h]; exact h2 h
theorem cD {β γ : Type} {lo hi : Nat} {f : Nat → β → StateT SortSt Sem (ForInStep β)} {k : β → StateT SortSt Sem γ} {c : β} {st : SortSt} {Q : γ → SortSt → Prop} (I : Nat → β → SortSt → Prop) (P : β → SortSt → Prop)
  (hstep : ∀ F, F = f → ∀ i c st, lo ≤ i → i < hi → I i c st → wpS (model prog w) A E s (F i c) (fun r st' => match r with | .done c' => P c' st' | .yield c' => I (i + 1) c' st') st)
  (hend : ∀ c st, I (max lo hi) c st → P c st) (hinit : I lo c st) (hpost : ∀ K, K = k → ∀ c st, P c st → wpS (model prog w) A E s (K c) Q st) : wpS (model prog w) A E s (forIn [lo:hi] c f >>= k) Q st :=
 wpS_bind (wpS_mono (wpS_forRange I (hstep f rfl) hend hinit) (hpost k rfl))
theorem fZ {β : Type} {st : SortSt} {i j : Nat} {f : Option Bool → StateT SortSt Sem β} {Q : β → SortSt → Prop} (hL : k9 prog w A E s kd a₀) (hB : SP kd a₀ p st) (hi : i < a₀.size) (hj : j < a₀.size)
  (h : ∀ b, wpS (model prog w) A E s (f (some b)) Q st) : wpS (model prog w) A E s (ltAt' i j >>= f) Q st := by
 rw [← hB.size] at hi hj
 refine wpS_bind ?_
 rw [ltAt'_eq]
 refine cC ?_
 show wpS _ _ _ _ (do let x ← elem' (arrOf st) i; let y ← elem' (arrOf st) j; lt' x y) _ st
 exact bf hi (bf hj (hL _ _ (hB.mem _ (by simp)) (hB.mem _ (by simp)) _ _ hB.kind h))
theorem l6 {β : Type} {st : SortSt} {i j : Nat} {f : Unit → StateT SortSt Sem β} {Q : β → SortSt → Prop} (hB : SP kd a₀ p st) (h : ∀ st', SP kd a₀ p st' → wpS (model prog w) A E s (f ()) Q st') : wpS (model prog w) A E s (reverseSlice' i j >>= f) Q st := by
 rw [reverseSlice'_eq]
 exact wpS_bind (wpS_modify (h _ (hB.setArr (mirror_perm _ _ _ _))))
inductive BinI (k : Nat) (st : SortSt) : Option Bool × Nat × Nat → SortSt → Prop
 | mk (l r : Nat) (h : r ≤ k) : BinI k st (none, l, r) st
theorem ug {st : SortSt} {lo n ok : Nat} {Q : Bool → SortSt → Prop} (hL : k9 prog w A E s kd a₀) (hn : lo + n ≤ a₀.size) (hB : SP kd a₀ p st) (h : ∀ st', SP kd a₀ p st' → Q true st') : wpS (model prog w) A E s (binarySort' lo n ok) Q st := by
 rw [binarySort'_eq]
 refine cD (fun k c st' => c = (none, ()) ∧ SP kd a₀ p st') (fun c st' => c = (none, ()) ∧ SP kd a₀ p st') ?step (fun _ _ h => h) ⟨rfl, hB⟩ ?post
 case post =>
  rintro K rfl c st' ⟨rfl, hB'⟩
  exact wpS_pure (h st' hB')
 case step =>
  rintro F rfl k c st' hak hkn ⟨rfl, hB'⟩
  refine cD (fun _ c st'' => BinI k st' c st'') (fun c st'' => BinI k st' c st'') ?istep (fun _ _ h => h) ⟨0, k, Nat.le_refl _⟩ ?ipost
  case istep =>
   rintro F rfl x c st'' _ hxk ⟨l, r, hrk⟩
   dsimp only
   refine a9 (fun _ => wpS_pure ⟨l, r, hrk⟩) fun hge => ?_
   refine fZ hL hB' (Nat.lt_of_lt_of_le (Nat.add_lt_add_left hkn lo) hn) (by omega) fun b => ?_
   cases b
   ·exact wpS_pure ⟨_, r, hrk⟩
   ·exact wpS_pure ⟨l, _, by omega⟩
  case ipost =>
   rintro K rfl c st'' ⟨l, r, hrk⟩
   show wpS _ _ _ _ (do moveDown' (lo + k) (lo + l); pure (ForInStep.yield (none, ()))) _ _
   rw [moveDown'_eq]
   exact wpS_bind (wpS_modify (wpS_pure ⟨rfl, hB'.setArr (bubble_perm _ _ _)⟩))
end walk
end Mine
end
noncomputable section
namespace Mine
open PySem PyProof.Rows
noncomputable def sx (lo a nrem : Nat) : StateT SortSt Sem (Option (Option Nat) × Nat) :=
 forIn [a:nrem] ((none, a) : Option (Option Nat) × Nat) fun _ c => do
  let r ← ltAt' (lo + c.snd) (lo + c.snd - 1)
  match r with
  | some smaller => if smaller = true then pure (ForInStep.done (none, c.snd)) else pure (ForInStep.yield (none, c.snd + 1))
  | _ => pure (ForInStep.done (some none, c.snd))
noncomputable def o8 (lo n nrem : Nat) : StateT SortSt Sem (Option Nat) := do
 reverseSlice' lo (lo + n)
 let c ← sx lo n nrem
 match c.fst with
 | some r => pure r
 | none => pure (some c.snd)
noncomputable def sg (lo n nrem : Nat) : StateT SortSt Sem (Option (Option Nat) × Nat × Nat) :=
 forIn [n:nrem] ((none, n, 0) : Option (Option Nat) × Nat × Nat) fun _ c => do
  let r ← ltAt' (lo + c.snd.fst) (lo + c.snd.fst - 1)
  match r with
  | some smaller =>
   if smaller = true then
    if c.snd.snd > 0 then do
     reverseSlice' (lo + c.snd.fst - (c.snd.snd + 1)) (lo + c.snd.fst)
     pure (ForInStep.yield (none, c.snd.fst + 1, 0))
    else pure (ForInStep.yield (none, c.snd.fst + 1, 0))
   else do
    let r ← ltAt' (lo + c.snd.fst - 1) (lo + c.snd.fst)
    match r with
    | some larger =>
     if larger = true then pure (ForInStep.done (none, c.snd.fst, c.snd.snd))
     else pure (ForInStep.yield (none, c.snd.fst + 1, c.snd.snd + 1))
    | _ => pure (ForInStep.done (some none, c.snd.fst, c.snd.snd))
  | _ => pure (ForInStep.done (some none, c.snd.fst, c.snd.snd))
noncomputable def n7 (lo n nrem : Nat) : StateT SortSt Sem (Option Nat) := do
 liftM (rule "list.sort.descending-run")
 let c ← sg lo (n + 1) nrem
 match c.fst with
 | some r => pure r
 | none =>
  if c.snd.snd > 0 then do
   reverseSlice' (lo + c.snd.fst - (c.snd.snd + 1)) (lo + c.snd.fst)
   o8 lo c.snd.fst nrem
  else o8 lo c.snd.fst nrem
theorem qK (lo nrem : Nat) : countRun' lo nrem = (do
  let c ← sx lo 1 nrem
  match c.fst with
  | some r => pure r
  | none =>
   if (c.snd == nrem) = true then pure (some c.snd)
   else if c.snd > 1 then do
    let r ← ltAt' lo (lo + c.snd - 1)
    match r with
    | some rose => if rose = true then pure (some c.snd) else do
      reverseSlice' lo (lo + c.snd)
      n7 lo c.snd nrem
    | _ => pure none
   else n7 lo c.snd nrem) := by
 rw [countRun'_eq]
 unfold n7 o8 sg sx
 refine bind_congr fun c => ?_
 obtain ⟨r, n⟩ := c
 cases r with
 | some r => rfl
 | none =>
  dsimp only
  split
  ·rfl
  ·split
   ·refine bind_congr fun r => ?_
    cases r with
    | none => rfl
    | some rose =>
     dsimp only
     split
     ·rfl
     ·refine bind_congr fun _ => ?_
      refine bind_congr fun _ => ?_
      refine bind_congr fun c2 => ?_
      obtain ⟨r2, n2, q2⟩ := c2
      cases r2 with
      | some r2 => rfl
      | none =>
       dsimp only
       split
       ·refine bind_congr fun _ => ?_
        refine bind_congr fun _ => ?_
        refine bind_congr fun c3 => ?_
        obtain ⟨r3, n3⟩ := c3
        cases r3 <;> rfl
       ·refine bind_congr fun _ => ?_
        refine bind_congr fun c3 => ?_
        obtain ⟨r3, n3⟩ := c3
        cases r3 <;> rfl
   ·refine bind_congr fun _ => ?_
    refine bind_congr fun c2 => ?_
    obtain ⟨r2, n2, q2⟩ := c2
    cases r2 with
    | some r2 => rfl
    | none =>
     dsimp only
     split
     ·refine bind_congr fun _ => ?_
      refine bind_congr fun _ => ?_
      refine bind_congr fun c3 => ?_
      obtain ⟨r3, n3⟩ := c3
      cases r3 <;> rfl
     ·refine bind_congr fun _ => ?_
      refine bind_congr fun c3 => ?_
      obtain ⟨r3, n3⟩ := c3
      cases r3 <;> rfl
section walk
variable {prog : Program} {w : World} {A : Around} {E : Value → Shared → Prop} {s : Shared} {kd : SortKind} {a₀ : Array Keyed} {p : Array (Nat × Nat × Nat)}
theorem q9 {β : Type} {st : SortSt} {lo a nrem : Nat} {f : Option (Option Nat) × Nat → StateT SortSt Sem β} {Q : β → SortSt → Prop} (hL : k9 prog w A E s kd a₀) (hn : lo + nrem ≤ a₀.size) (han : a ≤ nrem) (hB : SP kd a₀ p st)
  (h : ∀ n, a ≤ n → n ≤ nrem → wpS (model prog w) A E s (f (none, n)) Q st) : wpS (model prog w) A E s (sx lo a nrem >>= f) Q st := by
 unfold sx
 refine wpS_bind (wpS_forRange (I := fun x c st' => st' = st ∧ c = (none, x)) ?step ?fin ⟨rfl, rfl⟩)
 case fin =>
  rintro c st' ⟨rfl, rfl⟩
  rw [Nat.max_eq_right han]
  exact h nrem han (Nat.le_refl _)
 case step =>
  rintro x c st' hax hxn ⟨rfl, rfl⟩
  dsimp only
  refine fZ hL hB (Nat.lt_of_lt_of_le (Nat.add_lt_add_left hxn lo) hn) (Nat.lt_of_le_of_lt (Nat.sub_le _ _) (Nat.lt_of_lt_of_le (Nat.add_lt_add_left hxn lo) hn)) fun b => ?_
  cases b
  ·exact wpS_pure ⟨rfl, rfl⟩
  ·exact wpS_pure (h x hax (Nat.le_of_lt hxn))
theorem q6 {st : SortSt} {lo n nrem : Nat} {Q : Option Nat → SortSt → Prop} (hL : k9 prog w A E s kd a₀) (hn : lo + nrem ≤ a₀.size) (h1 : 1 ≤ n) (hnn : n ≤ nrem) (hB : SP kd a₀ p st)
  (h : ∀ m st', SP kd a₀ p st' → 1 ≤ m → m ≤ nrem → Q (some m) st') : wpS (model prog w) A E s (o8 lo n nrem) Q st := by
 unfold o8
 exact l6 hB fun st' hB' => q9 hL hn hnn hB' fun m a b => wpS_pure (h m st' hB' (Nat.le_trans h1 a) b)
inductive FallI (kd : SortKind) (a₀ : Array Keyed) (p : Array (Nat × Nat × Nat)) (x : Nat) : Option (Option Nat) × Nat × Nat → SortSt → Prop
 | mk (q : Nat) (st : SortSt) (h : SP kd a₀ p st) : FallI kd a₀ p x (none, x, q) st
theorem pp {st : SortSt} {lo n nrem : Nat} {Q : Option Nat → SortSt → Prop} (hL : k9 prog w A E s kd a₀) (hn : lo + nrem ≤ a₀.size) (hnn : n + 1 ≤ nrem) (hB : SP kd a₀ p st)
  (h : ∀ m st', SP kd a₀ p st' → 1 ≤ m → m ≤ nrem → Q (some m) st') : wpS (model prog w) A E s (n7 lo n nrem) Q st := by
 unfold n7
 refine eI ?_
 have fin : ∀ m q st', n + 1 ≤ m → m ≤ nrem → SP kd a₀ p st' → wpS (model prog w) A E s (if q > 0 then do
   reverseSlice' (lo + m - (q + 1)) (lo + m)
   o8 lo m nrem
  else o8 lo m nrem) Q st' := fun m q st' a b hB' =>
  a9 (fun _ => l6 hB' fun st2 hB2 => q6 hL hn (Nat.le_trans (Nat.succ_le_succ (Nat.zero_le _)) a) b hB2 h) fun _ => q6 hL hn (Nat.le_trans (Nat.succ_le_succ (Nat.zero_le _)) a) b hB' h
 unfold sg
 refine wpS_bind (wpS_forRange (I := fun x c st' => FallI kd a₀ p x c st') ?step ?fin ⟨0, st, hB⟩)
 case fin =>
  rintro c st' ⟨q, _, hB'⟩
  rw [Nat.max_eq_right hnn]
  exact fin nrem q st' hnn (Nat.le_refl _) hB'
 case step =>
  rintro x c st' hax hxn ⟨q, _, hB'⟩
  dsimp only
  have h1 := Nat.lt_of_lt_of_le (Nat.add_lt_add_left hxn lo) hn
  have h2 := Nat.lt_of_le_of_lt (Nat.sub_le (lo + x) 1) h1
  refine fZ hL hB' h1 h2 fun b => ?_
  cases b
  ·refine fZ hL hB' h2 h1 fun b => ?_
   cases b
   ·exact wpS_pure ⟨_, _, hB'⟩
   ·exact wpS_pure (fin x q st' hax (Nat.le_of_lt hxn) hB')
  ·dsimp only
   rw [if_pos rfl]
   exact a9 (fun _ => l6 hB' fun st2 hB2 => wpS_pure ⟨_, _, hB2⟩) fun _ => wpS_pure ⟨_, _, hB'⟩
theorem q7 {st : SortSt} {lo nrem : Nat} {Q : Option Nat → SortSt → Prop} (hL : k9 prog w A E s kd a₀) (hn : lo + nrem ≤ a₀.size) (h1 : 1 ≤ nrem) (hB : SP kd a₀ p st)
  (h : ∀ m st', SP kd a₀ p st' → 1 ≤ m → m ≤ nrem → Q (some m) st') : wpS (model prog w) A E s (countRun' lo nrem) Q st := by
 rw [qK]
 refine q9 hL hn h1 hB fun n a b => ?_
 dsimp only
 refine a9 (fun _ => wpS_pure (h n st hB a b)) fun e => ?_
 have hlt : n + 1 ≤ nrem := Nat.lt_of_le_of_ne b fun z => e (by rw [z]; exact beq_self_eq_true _)
 refine a9 (fun _ => ?_) fun _ => pp hL hn hlt hB h
 have h2 := Nat.lt_of_lt_of_le (Nat.add_lt_add_left hlt lo) hn
 refine fZ hL hB (by omega) (by omega) fun b' => ?_
 dsimp only
 exact a9 (fun _ => wpS_pure (h n st hB a b)) fun _ => l6 hB fun st' hB' => pp hL hn hlt hB' h
end walk
end Mine
end
noncomputable section
namespace Mine
open PySem PyProof.Rows
noncomputable def gQ : Bool → Keyed → Array Keyed → Nat → Nat → Nat → StateT SortSt Sem (Option Nat) := sortPriv% PySem.Builtin.gallop
noncomputable def nC : Array Keyed → Array Keyed → StateT SortSt Sem (Array Keyed) := sortPriv% PySem.Builtin.mergeLo
noncomputable def nE : Array Keyed → Array Keyed → StateT SortSt Sem (Array Keyed) := sortPriv% PySem.Builtin.mergeHi
noncomputable def uX (left : Bool) (k : Keyed) (arr : Array Keyed) (base i : Nat) : StateT SortSt Sem (Option Bool) := do
 let x ← elem' arr (base + i)
 if left then lt' x k else return (← lt' k x).map (!·)
section walk
variable {prog : Program} {w : World} {A : Around} {E : Value → Shared → Prop} {s : Shared} {kd : SortKind} {a₀ : Array Keyed}
theorem uh {β : Type} {st : SortSt} {left : Bool} {k : Keyed} {arr : Array Keyed} {base i : Nat} {f : Option Bool → StateT SortSt Sem β} {Q : β → SortSt → Prop} (hL : k9 prog w A E s kd a₀)
  (hk : k ∈ a₀.toList) (ha : ∀ x ∈ arr.toList, x ∈ a₀.toList) (hi : base + i < arr.size) (hkd : kindOf st = kd) (h : ∀ b, wpS (model prog w) A E s (f (some b)) Q st) : wpS (model prog w) A E s (uX left k arr base i >>= f) Q st := by
 have m : arr[base + i] ∈ a₀.toList := ha _ (by simp)
 refine wpS_bind ?_
 unfold uX
 refine bf hi ?_
 cases left
 ·exact wpS_bind (hL _ _ hk m _ _ hkd fun b => wpS_pure (h _))
 ·exact hL _ _ m hk _ _ hkd h
theorem q5 {α β γ : Type} {Q : α → SortSt → Prop} {st : SortSt} {m : StateT SortSt Sem α} {G : β → γ → StateT SortSt Sem α} (H : β → γ → Prop) (use : (∀ x y, H x y → wpS (model prog w) A E s (G x y) Q st) → wpS (model prog w) A E s m Q st)
  (key : ∀ x y, H x y → wpS (model prog w) A E s (G x y) Q st) : wpS (model prog w) A E s m Q st := use key
inductive GalI (n : Nat) (st : SortSt) : Option (Option Nat) × Nat × Nat → SortSt → Prop
 | mk (l o : Nat) (h : l < o) (h' : l < n) : GalI n st (none, l, o) st
inductive GalJ (n : Nat) (st : SortSt) : Option (Option Nat) × Nat × Nat → SortSt → Prop
 | mk (l o : Nat) (h : o ≤ n) : GalJ n st (none, l, o) st
theorem dM {st : SortSt} {left : Bool} {k : Keyed} {arr : Array Keyed} {base n hint : Nat} {Q : Option Nat → SortSt → Prop} (hL : k9 prog w A E s kd a₀)
  (hk : k ∈ a₀.toList) (ha : ∀ x ∈ arr.toList, x ∈ a₀.toList) (hn : base + n ≤ arr.size) (hh : hint < n) (hkd : kindOf st = kd) (h : ∀ r, r ≤ n → Q (some r) st) :
  wpS (model prog w) A E s (gQ left k arr base n hint) Q st := by
 have hb : ∀ {i : Nat} {β : Type} {f : Option Bool → StateT SortSt Sem β} {Q : β → SortSt → Prop}, i < n → (∀ b, wpS (model prog w) A E s (f (some b)) Q st) → wpS (model prog w) A E s (uX left k arr base i >>= f) Q st :=
  fun hi h => uh hL hk ha (Nat.lt_of_lt_of_le (Nat.add_lt_add_left hi base) hn) hkd h
 unfold gQ
 refine hb hh fun b => ?_
 refine' q5 (G := ?G) (fun _ hi => hi ≤ n) (fun K => ?use) ?key
 case use =>
  cases b with
  | true =>
   refine cD (fun _ c st' => GalI (n - hint) st c st') (fun c st' => GalI (n - hint) st c st') ?step (fun _ _ h => h) ⟨0, 1, Nat.one_pos, Nat.sub_pos_of_lt hh⟩ ?post
   case step =>
    rintro F rfl x c st' _ _ ⟨l, o, h1, h2⟩
    dsimp only
    refine a9 (fun _ => wpS_pure ⟨l, o, h1, h2⟩) fun ho => ?_
    refine hb (Nat.add_lt_of_lt_sub' (Nat.lt_of_not_le ho)) fun b => ?_
    cases b
    ·exact wpS_pure ⟨l, o, h1, h2⟩
    ·exact wpS_pure ⟨o, _, by omega, Nat.lt_of_not_le ho⟩
   case post =>
    rintro K2 rfl c st' ⟨l, o, h1, h2⟩
    dsimp only
    have H : hint + min o (n - hint) ≤ n := by omega
    generalize hint + l + 1 = lo
    generalize hint + min o (n - hint) = hi at H ⊢
    exact K lo hi H
  | false =>
   refine cD (fun _ c st' => GalI n st c st') (fun c st' => GalI n st c st') ?step (fun _ _ h => h) ⟨0, 1, Nat.one_pos, Nat.lt_of_le_of_lt (Nat.zero_le _) hh⟩ ?post
   case step =>
    rintro F rfl x c st' _ _ ⟨l, o, h1, h2⟩
    dsimp only
    refine a9 (fun _ => wpS_pure ⟨l, o, h1, h2⟩) fun ho => ?_
    refine hb (Nat.lt_of_le_of_lt (Nat.sub_le _ _) hh) fun b => ?_
    cases b
    ·exact wpS_pure ⟨o, _, by omega, by omega⟩
    ·exact wpS_pure ⟨l, o, h1, h2⟩
   case post =>
    rintro K2 rfl c st' ⟨l, o, h1, h2⟩
    exact K _ _ (Nat.le_trans (Nat.sub_le _ _) (Nat.le_of_lt hh))
 case key =>
  intro lo hi hhi
  refine cD (fun _ c st' => GalJ n st c st') (fun c st' => GalJ n st c st') ?step (fun _ _ h => h) ⟨lo, hi, hhi⟩ ?post
  case post =>
   rintro K rfl c st' ⟨l, o, hlo⟩
   exact wpS_pure (h o hlo)
  case step =>
   rintro F rfl x c st' _ _ ⟨l, o, hlo⟩
   dsimp only
   refine a9 (fun _ => wpS_pure ⟨l, o, hlo⟩) fun hge => ?_
   have hm : l + (o - l) / 2 < o := by omega
   refine hb (Nat.lt_of_lt_of_le hm hlo) fun b => ?_
   cases b
   ·exact wpS_pure ⟨l, _, Nat.le_of_lt (Nat.lt_of_lt_of_le hm hlo)⟩
   ·exact wpS_pure ⟨_, o, hlo⟩
end walk
end Mine
end
noncomputable section
namespace Mine
open PySem PyProof.Rows
structure Same (st st' : SortSt) : Prop where
 kind : kindOf st' = kindOf st
 arr : arrOf st' = arrOf st
 pend : pendingOf st' = pendingOf st
 failed : failedOf st' = failedOf st
theorem Same.refl {st : SortSt} : Same st st := ⟨rfl, rfl, rfl, rfl⟩
theorem Same.trans {a b c : SortSt} (h : Same a b) (k : Same b c) : Same a c := ⟨k.kind.trans h.kind, k.arr.trans h.arr, k.pend.trans h.pend, k.failed.trans h.failed⟩
noncomputable def Md (T out ra rb : List Keyed) : Prop := (out ++ (ra ++ rb)).Perm T
theorem Md.a {T out x ra rb : List Keyed} (h : Md T out (x ++ ra) rb) : Md T (out ++ x) ra rb := by
 unfold Md at *
 rwa [List.append_assoc, ← List.append_assoc x]
theorem Md.b {T out x ra rb : List Keyed} (h : Md T out ra (x ++ rb)) : Md T (out ++ x) ra rb := by
 refine List.Perm.trans ?_ h
 rw [List.append_assoc]
 refine List.Perm.append_left _ ?_
 rw [← List.append_assoc, ← List.append_assoc]
 exact List.Perm.append_right _ List.perm_append_comm
theorem Md.len {T out ra rb : List Keyed} (h : Md T out ra rb) : out.length + (ra.length + rb.length) = T.length := by
 rw [← h.length_eq, List.length_append, List.length_append]
theorem n6 {arr : Array Keyed} {i k : Nat} : arr.toList.drop i = (arr.extract i (i + k)).toList ++ arr.toList.drop (i + k) := by
 rw [Array.toList_extract, List.extract_eq_take_drop, Nat.add_sub_cancel_left, ← List.drop_drop, List.take_append_drop]
theorem iF {arr : Array Keyed} {i : Nat} : (arr.extract i arr.size).toList = arr.toList.drop i := by
 rw [Array.toList_extract, List.extract_eq_take_drop]
 exact List.take_of_length_le (by simp)
theorem n5 {arr : Array Keyed} {i : Nat} (hi : i < arr.size) : arr.toList.drop i = [arr[i]] ++ arr.toList.drop (i + 1) := by
 rw [List.drop_eq_getElem_cons (by simpa using hi)]
 simp
noncomputable def MdL (a b out : Array Keyed) (i j : Nat) : Prop := Md (a.toList ++ b.toList) out.toList (a.toList.drop i) (b.toList.drop j)
section
variable {a b out : Array Keyed} {i j : Nat}
theorem MdL.pushA (h : MdL a b out i j) (hi : i < a.size) : MdL a b (out.push a[i]) (i + 1) j := by
 unfold MdL at *
 rw [n5 hi] at h
 rw [Array.toList_push]
 exact h.a
theorem MdL.pushB (h : MdL a b out i j) (hi : j < b.size) : MdL a b (out.push b[j]) i (j + 1) := by
 unfold MdL at *
 rw [n5 hi] at h
 rw [Array.toList_push]
 exact h.b
theorem MdL.appA {k : Nat} (h : MdL a b out i j) : MdL a b (out ++ a.extract i (i + k)) (i + k) j := by
 unfold MdL at *
 rw [n6 (k := k)] at h
 rw [Array.toList_append]
 exact h.a
theorem MdL.appB {k : Nat} (h : MdL a b out i j) : MdL a b (out ++ b.extract j (j + k)) i (j + k) := by
 unfold MdL at *
 rw [n6 (arr := b) (k := k)] at h
 rw [Array.toList_append]
 exact h.b
theorem MdL.done (h : MdL a b out i j) : (out ++ a.extract i a.size ++ b.extract j b.size).toList.Perm (a.toList ++ b.toList) := by
 rw [Array.toList_append, Array.toList_append, iF, iF, List.append_assoc]
 exact h
theorem MdL.last (h : MdL a b out i j) : (out ++ b.extract j b.size ++ a.extract i a.size).toList.Perm (a.toList ++ b.toList) := by
 rw [Array.toList_append, Array.toList_append, iF, iF, List.append_assoc]
 exact (List.Perm.append_left _ List.perm_append_comm).trans h
theorem MdL.size (h : MdL a b out i j) : out.size ≤ a.size + b.size := by
 have := Md.len h
 rw [List.length_append, Array.length_toList, Array.length_toList, Array.length_toList] at this
 exact Nat.le_trans (Nat.le_add_right _ _) (Nat.le_of_eq this)
end
inductive LoD (a b : Array Keyed) {γ : Type} : Option (Array Keyed) × γ → Prop
 | mk (m : Array Keyed) (r : γ) (h : m.toList.Perm (a.toList ++ b.toList)) : LoD a b (some m, r)
inductive LoI (a b : Array Keyed) (n : Nat) {γ : Type} : Option (Array Keyed) × Array Keyed × Nat × Nat × γ → Prop
 | mk (out : Array Keyed) (i j : Nat) (r : γ) (hM : MdL a b out i j) (hi : i + 1 < a.size) (hj : j < b.size) (hr : n ≤ out.size) : LoI a b n (none, out, i, j, r)
theorem ei {n : Nat} {out : Array Keyed} {v : Keyed} (h : n ≤ out.size) : n + 1 ≤ (out.push v).size := by rw [Array.size_push]; exact Nat.succ_le_succ h
theorem mO {n : Nat} {out x : Array Keyed} (h : n ≤ out.size) : n ≤ (out ++ x).size := by rw [Array.size_append]; exact Nat.le_trans h (Nat.le_add_right _ _)
noncomputable def sZ : Nat → StateT SortSt Sem Unit := sortPriv% PySem.Builtin.setMinGallop
abbrev vq := Option (Array Keyed) × Array Keyed × Nat × Nat × Nat × Nat × Nat
noncomputable def wL (a b : Array Keyed) (mg ac bc : Nat) (out : Array Keyed) (ia ib : Nat) : StateT SortSt Sem (ForInStep vq) := do
 let x ← elem' a ia
 if (ia + 1 + 1 == a.size) = true then pure (.done (some (out.push x ++ b.extract ib b.size ++ a.extract (ia + 1) a.size), out.push x, ia + 1, ib, mg, ac, bc))
 else if (decide (ac < 7) && decide (bc < 7)) = true then pure (.done (none, out.push x, ia + 1, ib, mg, ac, bc))
 else pure (.yield (none, out.push x, ia + 1, ib, mg, ac, bc))
noncomputable def wM (a b : Array Keyed) (mg ac bc : Nat) (out : Array Keyed) (ia ib : Nat) : StateT SortSt Sem (ForInStep vq) := do
 let x ← elem' b ib
 if (ib + 1 == b.size) = true then pure (.done (some (out.push x ++ a.extract ia a.size ++ b.extract (ib + 1) b.size), out.push x, ia, ib + 1, mg, ac, bc))
 else do
  let y ← elem' a ia
  let r ← gQ true y b (ib + 1) (b.size - (ib + 1)) 0
  match r with
  | some k =>
   if k > 0 then
    if (ib + 1 + k == b.size) = true then pure (.done (some (out.push x ++ b.extract (ib + 1) (ib + 1 + k) ++ a.extract ia a.size ++ b.extract (ib + 1 + k) b.size), out.push x ++ b.extract (ib + 1) (ib + 1 + k), ia, ib + 1 + k, mg, ac, k))
    else wL a b mg ac k (out.push x ++ b.extract (ib + 1) (ib + 1 + k)) ia (ib + 1 + k)
   else wL a b mg ac k (out.push x) ia (ib + 1)
  | _ => pure (.done (some (out.push x ++ a.extract ia a.size ++ b.extract (ib + 1) b.size), out.push x, ia, ib + 1, mg, ac, bc))
noncomputable def wN (a b : Array Keyed) (mg ac bc : Nat) (out : Array Keyed) (ia ib : Nat) : StateT SortSt Sem (ForInStep vq) := do
 sZ mg
 let x ← elem' b ib
 let r ← gQ false x a ia (a.size - ia) 0
 match r with
 | some k =>
  if k > 0 then
   if (ia + k + 1 == a.size) = true then pure (.done (some (out ++ a.extract ia (ia + k) ++ b.extract ib b.size ++ a.extract (ia + k) a.size), out ++ a.extract ia (ia + k), ia + k, ib, mg, k, bc))
   else if (ia + k == a.size) = true then pure (.done (some (out ++ a.extract ia (ia + k) ++ a.extract (ia + k) a.size ++ b.extract ib b.size), out ++ a.extract ia (ia + k), ia + k, ib, mg, k, bc))
   else wM a b mg k bc (out ++ a.extract ia (ia + k)) (ia + k) ib
  else wM a b mg k bc out ia ib
 | _ => pure (.done (some (out ++ a.extract ia a.size ++ b.extract ib b.size), out, ia, ib, mg, ac, bc))
noncomputable def ye (a b : Array Keyed) (_ : Nat) (c : vq) : StateT SortSt Sem (ForInStep vq) :=
 if c.2.2.2.2.1 > 1 then wN a b (c.2.2.2.2.1 - 1) c.2.2.2.2.2.1 c.2.2.2.2.2.2 c.2.1 c.2.2.1 c.2.2.2.1 else wN a b c.2.2.2.2.1 c.2.2.2.2.2.1 c.2.2.2.2.2.2 c.2.1 c.2.2.1 c.2.2.2.1
noncomputable def xy (a b : Array Keyed) (mg _x : Nat) (c : Option (Array Keyed) × Array Keyed × Nat × Nat × Nat × Nat) : StateT SortSt Sem (ForInStep (Option (Array Keyed) × Array Keyed × Nat × Nat × Nat × Nat)) := do
 let x ← elem' b c.2.2.2.1
 let y ← elem' a c.2.2.1
 let r ← lt' x y
 match r with
 | some w =>
  if w = true then do
   let x ← elem' b c.2.2.2.1
   if (c.2.2.2.1 + 1 == b.size) = true then pure (.done (some (c.2.1.push x ++ a.extract c.2.2.1 a.size ++ b.extract (c.2.2.2.1 + 1) b.size), c.2.1.push x, c.2.2.1, c.2.2.2.1 + 1, 0, c.2.2.2.2.2 + 1))
   else if c.2.2.2.2.2 + 1 ≥ mg then pure (.done (none, c.2.1.push x, c.2.2.1, c.2.2.2.1 + 1, 0, c.2.2.2.2.2 + 1)) else pure (.yield (none, c.2.1.push x, c.2.2.1, c.2.2.2.1 + 1, 0, c.2.2.2.2.2 + 1))
  else do
   let x ← elem' a c.2.2.1
   if (c.2.2.1 + 1 + 1 == a.size) = true then pure (.done (some (c.2.1.push x ++ b.extract c.2.2.2.1 b.size ++ a.extract (c.2.2.1 + 1) a.size), c.2.1.push x, c.2.2.1 + 1, c.2.2.2.1, c.2.2.2.2.1 + 1, 0))
   else if c.2.2.2.2.1 + 1 ≥ mg then pure (.done (none, c.2.1.push x, c.2.2.1 + 1, c.2.2.2.1, c.2.2.2.2.1 + 1, 0)) else pure (.yield (none, c.2.1.push x, c.2.2.1 + 1, c.2.2.2.1, c.2.2.2.2.1 + 1, 0))
 | _ => pure (.done (some (c.2.1 ++ a.extract c.2.2.1 a.size ++ b.extract c.2.2.2.1 b.size), c.2.1, c.2.2.1, c.2.2.2.1, c.2.2.2.2.1, c.2.2.2.2.2))
noncomputable def xx (a b : Array Keyed) (_ : Nat) (c : Option (Array Keyed) × Array Keyed × Nat × Nat × Nat) : StateT SortSt Sem (ForInStep (Option (Array Keyed) × Array Keyed × Nat × Nat × Nat)) := do
 let d ← forIn [0:a.size + b.size] ((none, c.2.1, c.2.2.1, c.2.2.2.1, 0, 0) : Option (Array Keyed) × Array Keyed × Nat × Nat × Nat × Nat) (xy a b c.2.2.2.2)
 Break.runK.match_1 (fun _ => StateT SortSt Sem _) d.1 (fun r => pure (.done (some r, d.2.1, d.2.2.1, d.2.2.2.1, c.2.2.2.2))) fun _ => do
  liftM (rule "list.sort.gallop")
  let e ← forIn [0:a.size + b.size] ((none, d.2.1, d.2.2.1, d.2.2.2.1, c.2.2.2.2 + 1, d.2.2.2.2.1, d.2.2.2.2.2) : vq) (ye a b)
  Break.runK.match_1 (fun _ => StateT SortSt Sem _) e.1 (fun r => pure (.done (some r, e.2.1, e.2.2.1, e.2.2.2.1, e.2.2.2.2.1))) fun _ => do
   sZ (e.2.2.2.2.1 + 1)
   pure (.yield (none, e.2.1, e.2.2.1, e.2.2.2.1, e.2.2.2.2.1 + 1))
noncomputable def yg (a b : Array Keyed) : StateT SortSt Sem (Array Keyed) := do
 liftM (rule "list.sort.merge-lo")
 let x ← elem' b 0
 if (1 == b.size) = true then pure (#[x] ++ a.extract 0 a.size ++ b.extract 1 b.size)
 else if (0 + 1 == a.size) = true then pure (#[x] ++ b.extract 1 b.size ++ a.extract 0 a.size)
 else do
  let st ← get
  let c ← forIn [0:a.size + b.size] ((none, #[x], 0, 1, gallopOf st) : Option (Array Keyed) × Array Keyed × Nat × Nat × Nat) (xx a b)
  Break.runK.match_1 (fun _ => StateT SortSt Sem _) c.1 pure fun _ => liftM (unsupported "internal:list.sort.merge-bound" : Sem (Array Keyed))
theorem vT (a b : Array Keyed) : nC a b = yg a b := rfl
section walk
variable {prog : Program} {w : World} {A : Around} {E : Value → Shared → Prop} {s : Shared} {kd : SortKind} {a₀ : Array Keyed}
theorem pq {β : Type} {st : SortSt} {a b : Array Keyed} {i j : Nat} {f : Option Bool → StateT SortSt Sem β} {Q : β → SortSt → Prop} (hL : k9 prog w A E s kd a₀) (ha : ∀ x ∈ a.toList, x ∈ a₀.toList) (hb : ∀ x ∈ b.toList, x ∈ a₀.toList)
  (hi : i < a.size) (hj : j < b.size) (hkd : kindOf st = kd) (h : ∀ b, wpS (model prog w) A E s (f (some b)) Q st) : wpS (model prog w) A E s (elem' a i >>= fun x => elem' b j >>= fun y => lt' x y >>= f) Q st :=
 bf hi (bf hj (wpS_bind (hL _ _ (ha _ (by simp)) (hb _ (by simp)) _ _ hkd h)))
theorem kg {n m : Nat} (h : n < m) (e : ¬(n + 1 == m) = true) : n + 1 < m := Nat.lt_of_le_of_ne h fun z => e (by rw [z]; exact beq_self_eq_true _)
inductive LoR {β : Type} (D I : β → Prop) (st : SortSt) : ForInStep β → SortSt → Prop
 | done (st' : SortSt) (c : β) (hS : Same st st') (h : D c) : LoR D I st (.done c) st'
 | stop (st' : SortSt) (c : β) (hS : Same st st') (h : I c) : LoR D I st (.done c) st'
 | go (st' : SortSt) (c : β) (hS : Same st st') (h : I c) : LoR D I st (.yield c) st'
inductive LoP {β : Type} (D I : β → Prop) (st : SortSt) (c : β) (st' : SortSt) : Prop
 | done (hS : Same st st') (h : D c) : LoP D I st c st'
 | go (hS : Same st st') (h : I c) : LoP D I st c st'
inductive LoQ {β : Type} (D I : β → Prop) (st : SortSt) : ForInStep β → SortSt → Prop
 | done (st' : SortSt) (c : β) (hS : Same st st') (h : D c) : LoQ D I st (.done c) st'
 | go (st' : SortSt) (c : β) (hS : Same st st') (h : I c) : LoQ D I st (.yield c) st'
theorem ir {β γ : Type} {n : Nat} {x : β} {f : Nat → β → StateT SortSt Sem (ForInStep β)} {k : β → StateT SortSt Sem γ} {Q : γ → SortSt → Prop} {st st' : SortSt} (D J : β → Prop) (I : Nat → β → Prop)
  (hf : ∀ i c st', Same st st' → I i c → wpS (model prog w) A E s (f i c) (LoR D (I (i + 1)) st) st') (hIJ : ∀ i c, I (i + 1) c → J c) (hn : 0 < n) (hS : Same st st') (h0 : I 0 x) (hk : ∀ c st', LoP D J st c st' → wpS (model prog w) A E s (k c) Q st') :
  wpS (model prog w) A E s (forIn [0:n] x f >>= k) Q st' := by
 refine cD (fun y c st'' => Same st st'' ∧ I y c) (fun c st'' => LoP D J st c st'') ?_ ?_ ⟨hS, h0⟩ ?_
 ·rintro F rfl y c st'' _ _ ⟨hS, hI⟩
  refine wpS_mono (hf y c st'' hS hI) fun r st3 hR => ?_
  cases hR with
  | done _ c hS h => exact .done hS h
  | stop _ c hS h => exact .go hS (hIJ _ _ h)
  | go _ c hS h => exact ⟨hS, h⟩
 ·rintro c st'' ⟨hS, hI⟩
  obtain ⟨m, e⟩ := Nat.exists_eq_add_of_lt hn
  rw [e, Nat.zero_add, Nat.max_eq_right (Nat.zero_le _)] at hI
  exact .go hS (hIJ _ _ hI)
 ·rintro K rfl c st'' h
  exact hk c st'' h
theorem vU {st st' : SortSt} {a b out : Array Keyed} {N mg ac bc ia ib : Nat} (hS : Same st st') (hM : MdL a b out ia ib) (hi : ia + 1 < a.size) (hj : ib < b.size) (hr : N ≤ out.size) :
  wpS (model prog w) A E s (wL a b mg ac bc out ia ib) (LoR (LoD a b) (LoI a b N) st) st' := by
 unfold wL
 have h2 := hM.pushA (Nat.lt_of_succ_lt hi)
 refine bf (Nat.lt_of_succ_lt hi) ?_
 refine a9 (fun e => wpS_pure (.done _ _ hS ⟨_, _, h2.last⟩)) fun e => ?_
 have h3 : LoI a b N (none, out.push a[ia], ia + 1, ib, mg, ac, bc) := ⟨_, _, _, _, h2, kg hi e, hj, Nat.le_of_succ_le (ei hr)⟩
 exact a9 (fun _ => wpS_pure (.stop _ _ hS h3)) fun _ => wpS_pure (.go _ _ hS h3)
theorem vV {st st' : SortSt} {a b out : Array Keyed} {N mg ac bc ia ib : Nat} (hL : k9 prog w A E s kd a₀) (ha : ∀ x ∈ a.toList, x ∈ a₀.toList) (hb : ∀ x ∈ b.toList, x ∈ a₀.toList) (hkd : kindOf st = kd) (hS : Same st st') (hM : MdL a b out ia ib) (hi : ia + 1 < a.size) (hj : ib < b.size) (hr : N ≤ out.size) :
  wpS (model prog w) A E s (wM a b mg ac bc out ia ib) (LoR (LoD a b) (LoI a b N) st) st' := by
 unfold wM
 have h2 := hM.pushB hj
 have hr1 : N ≤ (out.push b[ib]).size := Nat.le_of_succ_le (ei hr)
 refine bf hj ?_
 refine a9 (fun e => wpS_pure (.done _ _ hS ⟨_, _, h2.done⟩)) fun e => ?_
 have hj1 := kg hj e
 refine bf (Nat.lt_of_succ_lt hi) ?_
 refine wpS_bind (dM hL (ha _ (by simp)) hb (Nat.le_of_eq (Nat.add_sub_cancel' (Nat.le_of_lt hj1))) (Nat.sub_pos_of_lt hj1) (hS.kind.trans hkd) fun k l => ?_)
 refine a9 (fun _ => ?_) fun _ => vU hS h2 hi hj1 hr1
 have h3 := h2.appB (k := k)
 refine a9 (fun e => wpS_pure (.done _ _ hS ⟨_, _, h3.done⟩)) fun e => ?_
 refine vU hS h3 hi (Nat.lt_of_le_of_ne (Nat.add_le_of_le_sub' (Nat.le_of_lt hj1) l) fun z => e (by rw [z]; exact beq_self_eq_true _)) (mO hr1)
theorem xu {st st' : SortSt} {a b : Array Keyed} {N x : Nat} {c : Option (Array Keyed) × Array Keyed × Nat × Nat × Nat × Nat × Nat} (hL : k9 prog w A E s kd a₀) (ha : ∀ x ∈ a.toList, x ∈ a₀.toList) (hb : ∀ x ∈ b.toList, x ∈ a₀.toList) (hkd : kindOf st = kd) (hS : Same st st') (hI : LoI a b N c) :
  wpS (model prog w) A E s (ye a b x c) (LoR (LoD a b) (LoI a b N) st) st' := by
 obtain ⟨out, i, j, ⟨g, p, q⟩, hM, hi, hj, hr⟩ := hI
 have key : ∀ mg, wpS (model prog w) A E s (wN a b mg p q out i j) (LoR (LoD a b) (LoI a b N) st) st' := fun mg => by
  unfold wN
  refine dC ?_
  have hS := hS.trans (c := SortSt.mk' (kindOf st') (arrOf st') (pendingOf st') mg (failedOf st')) ⟨rfl, rfl, rfl, rfl⟩
  refine bf hj ?_
  refine wpS_bind (dM hL (hb _ (by simp)) ha (Nat.le_of_eq (Nat.add_sub_cancel' (Nat.le_of_lt (Nat.lt_of_succ_lt hi)))) (Nat.sub_pos_of_lt (Nat.lt_of_succ_lt hi)) (hS.kind.trans hkd) fun k l => ?_)
  refine a9 (fun _ => ?_) fun _ => vV hL ha hb hkd hS hM hi hj hr
  have h3 := hM.appA (k := k)
  refine a9 (fun e => wpS_pure (.done _ _ hS ⟨_, _, h3.last⟩)) fun e3 => ?_
  refine a9 (fun e => wpS_pure (.done _ _ hS ⟨_, _, h3.done⟩)) fun e4 => ?_
  refine vV hL ha hb hkd hS h3 (kg (Nat.lt_of_le_of_ne (Nat.add_le_of_le_sub' (Nat.le_of_lt (Nat.lt_of_succ_lt hi)) l) fun z => e4 (by rw [z]; exact beq_self_eq_true _)) e3) hj (mO hr)
 exact a9 (fun _ => key _) fun _ => key _
theorem xv {st st' : SortSt} {a b : Array Keyed} {N mg x : Nat} {c : Option (Array Keyed) × Array Keyed × Nat × Nat × Nat × Nat} (hL : k9 prog w A E s kd a₀) (ha : ∀ x ∈ a.toList, x ∈ a₀.toList) (hb : ∀ x ∈ b.toList, x ∈ a₀.toList) (hkd : kindOf st = kd) (hS : Same st st') (hI : LoI a b N c) :
  wpS (model prog w) A E s (xy a b mg x c) (LoR (LoD a b) (LoI a b (N + 1)) st) st' := by
 obtain ⟨out, i, j, ⟨p, q⟩, hM, hi, hj, hr⟩ := hI
 have hi1 : i < a.size := Nat.lt_of_succ_lt hi
 unfold xy
 refine pq hL hb ha hj hi1 (hS.kind.trans hkd) fun bw => ?_
 cases bw with
 | true =>
  have h2 := hM.pushB hj
  refine bf hj ?_
  refine a9 (fun e => wpS_pure (.done _ _ hS ⟨_, _, h2.done⟩)) fun e => ?_
  have h3 : LoI a b (N + 1) (none, out.push b[j], i, j + 1, 0, q + 1) := ⟨_, _, _, _, h2, hi, kg hj e, ei hr⟩
  exact a9 (fun _ => wpS_pure (.stop _ _ hS h3)) fun _ => wpS_pure (.go _ _ hS h3)
 | false =>
  have h2 := hM.pushA hi1
  refine bf hi1 ?_
  refine a9 (fun e => wpS_pure (.done _ _ hS ⟨_, _, h2.last⟩)) fun e => ?_
  have h3 : LoI a b (N + 1) (none, out.push a[i], i + 1, j, p + 1, 0) := ⟨_, _, _, _, h2, kg hi e, hj, ei hr⟩
  exact a9 (fun _ => wpS_pure (.stop _ _ hS h3)) fun _ => wpS_pure (.go _ _ hS h3)
theorem LoI.le {a b : Array Keyed} {n m : Nat} {γ : Type} {c : Option (Array Keyed) × Array Keyed × Nat × Nat × γ} (h : LoI a b n c) (hm : m ≤ n) : LoI a b m c := by
 cases h with
 | mk _ _ _ _ h1 h2 h3 h4 => exact ⟨_, _, _, _, h1, h2, h3, Nat.le_trans hm h4⟩
theorem xq {st st' : SortSt} {a b : Array Keyed} {N x : Nat} {c : Option (Array Keyed) × Array Keyed × Nat × Nat × Nat} (hL : k9 prog w A E s kd a₀) (ha : ∀ x ∈ a.toList, x ∈ a₀.toList) (hb : ∀ x ∈ b.toList, x ∈ a₀.toList) (na : 0 < a.size) (hkd : kindOf st = kd) (hS : Same st st') (hI : LoI a b N c) :
  wpS (model prog w) A E s (xx a b x c) (LoQ (LoD a b) (LoI a b (N + 1)) st) st' := by
 obtain ⟨out, i, j, mg, hM, hi, hj, hr⟩ := hI
 unfold xx
 have tot := Nat.add_pos_left na b.size
 refine ir (LoD a b) (LoI a b (N + 1)) (fun y => LoI a b (N + y)) (fun y c st'' hS hI => xv hL ha hb hkd hS hI) (fun y c h => h.le (Nat.succ_le_succ (Nat.le_add_right N y))) tot hS ⟨_, i, j, _, hM, hi, hj, hr⟩ fun c st'' hP => ?_
 rcases hP with ⟨hS2, ⟨m, r, hG⟩⟩ | ⟨hS2, ⟨out', i', j', ⟨p, q⟩, hM', hi', hj', hr'⟩⟩
 ·exact wpS_pure (.done _ _ hS2 ⟨m, _, hG⟩)
 refine eI ?_
 refine ir (LoD a b) (LoI a b (N + 1)) (fun _ => LoI a b (N + 1)) (fun y c st'' hS hI => xu hL ha hb hkd hS hI) (fun y c h => h) tot hS2 ⟨_, i', j', _, hM', hi', hj', hr'⟩ fun c st3 hP => ?_
 rcases hP with ⟨hS3, ⟨m, r, hG⟩⟩ | ⟨hS3, ⟨out', i', j', ⟨g, p, q⟩, hM', hi', hj', hr'⟩⟩
 ·exact wpS_pure (.done _ _ hS3 ⟨m, _, hG⟩)
 refine dC ?_
 exact wpS_pure (.go _ _ (hS3.trans ⟨rfl, rfl, rfl, rfl⟩) ⟨_, _, _, _, hM', hi', hj', hr'⟩)
theorem vz {st : SortSt} {a b : Array Keyed} {Q : Array Keyed → SortSt → Prop} (hL : k9 prog w A E s kd a₀) (ha : ∀ x ∈ a.toList, x ∈ a₀.toList) (hb : ∀ x ∈ b.toList, x ∈ a₀.toList) (na : 0 < a.size) (nb : 0 < b.size) (hkd : kindOf st = kd)
  (h : ∀ m st', m.toList.Perm (a.toList ++ b.toList) → Same st st' → Q m st') : wpS (model prog w) A E s (nC a b) Q st := by
 have m0 : MdL a b #[b[0]] 0 1 := (show MdL a b #[] 0 0 from List.Perm.refl _).pushB nb
 rw [vT]
 unfold yg
 refine eI ?_
 refine bf nb ?_
 refine a9 (fun e1 => wpS_pure (h _ _ m0.done Same.refl)) fun e1 => ?_
 refine a9 (fun e2 => wpS_pure (h _ _ m0.last Same.refl)) fun e2 => ?_
 refine cC ?_
 refine cD (fun x c st' => Same st st' ∧ LoI a b (x + 1) c) (fun c st' => Same st st' ∧ LoD a b c) ?_ ?_ ⟨Same.refl, _, 0, 1, _, m0, kg na e2, kg nb e1, Nat.le_refl _⟩ ?_
 ·rintro F rfl x c st' _ _ ⟨hS, hI⟩
  refine wpS_mono (xq hL ha hb na hkd hS hI) fun r st3 hR => ?_
  cases hR with
  | done _ c hS h => exact ⟨hS, h⟩
  | go _ c hS h => exact ⟨hS, h⟩
 ·rintro c st' ⟨hS, out, i, j, mg, hM, hi, hj, hx⟩
  exact absurd (Nat.le_trans hx hM.size) (Nat.not_le.mpr (Nat.lt_succ_of_le (Nat.le_max_right _ _)))
 ·rintro K rfl c st' ⟨hS, m, r, hG⟩
  exact wpS_pure (h m st' hG hS)
end walk
end Mine
end
noncomputable section
namespace Mine
open PySem PyProof.Rows
theorem iu {arr : Array Keyed} {i j : Nat} (hij : i ≤ j) : arr.toList.take j = arr.toList.take i ++ (arr.extract i j).toList := by
 rw [Array.toList_extract, List.extract_eq_take_drop]
 obtain ⟨k, rfl⟩ := Nat.exists_eq_add_of_le hij
 rw [Nat.add_sub_cancel_left, List.take_add]
theorem iE {arr : Array Keyed} {i : Nat} : (arr.extract 0 i).toList = arr.toList.take i := by
 rw [Array.toList_extract, List.extract_eq_take_drop]
 simp
theorem nc {arr : Array Keyed} {i : Nat} (hi : i < arr.size) : arr.toList.take (i + 1) = arr.toList.take i ++ [arr[i]] := by
 rw [List.take_add_one, List.getElem?_eq_getElem (by simpa using hi)]
 simp
noncomputable def MdH (a b out : Array Keyed) (i j : Nat) : Prop := Md (a.toList ++ b.toList) out.toList (a.toList.take i) (b.toList.take j)
theorem Md.swA {T out ra x rb : List Keyed} (h : Md T out (ra ++ x) rb) : Md T out (x ++ ra) rb := List.Perm.trans (List.Perm.append_left _ (List.Perm.append_right _ List.perm_append_comm)) h
theorem Md.swB {T out ra x rb : List Keyed} (h : Md T out ra (rb ++ x)) : Md T out ra (x ++ rb) := List.Perm.trans (List.Perm.append_left _ (List.Perm.append_left _ List.perm_append_comm)) h
section
variable {a b out : Array Keyed} {i j : Nat}
theorem MdH.pushA (h : MdH a b out i j) (h0 : 0 < i) (hi : i - 1 < a.size) : MdH a b (out.push a[i - 1]) (i - 1) j := by
 rw [← Nat.sub_add_cancel h0] at h
 unfold MdH at *
 rw [nc hi] at h
 rw [Array.toList_push]
 exact h.swA.a
theorem MdH.pushB (h : MdH a b out i j) (h0 : 0 < j) (hi : j - 1 < b.size) : MdH a b (out.push b[j - 1]) i (j - 1) := by
 rw [← Nat.sub_add_cancel h0] at h
 unfold MdH at *
 rw [nc hi] at h
 rw [Array.toList_push]
 exact h.swB.b
theorem Md.rev {T out x ra rb : List Keyed} (h : Md T (out ++ x) ra rb) : Md T (out ++ x.reverse) ra rb := List.Perm.trans (List.Perm.append_right _ (List.Perm.append_left _ (List.reverse_perm x))) h
theorem MdH.appA {k : Nat} (h : MdH a b out i j) (hk : k ≤ i) : MdH a b (out ++ (a.extract k i).reverse) k j := by
 unfold MdH at *
 rw [iu hk] at h
 rw [Array.toList_append, Array.toList_reverse]
 exact h.swA.a.rev
theorem MdH.appB {k : Nat} (h : MdH a b out i j) (hk : k ≤ j) : MdH a b (out ++ (b.extract k j).reverse) i k := by
 unfold MdH at *
 rw [iu (arr := b) hk] at h
 rw [Array.toList_append, Array.toList_reverse]
 exact h.swB.b.rev
theorem MdH.done (h : MdH a b out i j) : (a.extract 0 i ++ b.extract 0 j ++ out.reverse).toList.Perm (a.toList ++ b.toList) := by
 rw [Array.toList_append, Array.toList_append, iE, iE, Array.toList_reverse]
 exact ((List.Perm.append_left _ (List.reverse_perm _)).trans List.perm_append_comm).trans h
theorem MdH.last (h : MdH a b out i j) : (b.extract 0 j ++ a.extract 0 i ++ out.reverse).toList.Perm (a.toList ++ b.toList) := by
 rw [Array.toList_append, Array.toList_append, iE, iE, Array.toList_reverse]
 exact ((List.Perm.append_left _ (List.reverse_perm _)).trans List.perm_append_comm).trans ((List.Perm.append_left _ List.perm_append_comm).trans h)
theorem MdH.size (h : MdH a b out i j) : out.size ≤ a.size + b.size := by
 have := Md.len h
 rw [List.length_append, Array.length_toList, Array.length_toList, Array.length_toList] at this
 exact Nat.le_trans (Nat.le_add_right _ _) (Nat.le_of_eq this)
end
inductive HiI (a b : Array Keyed) (n : Nat) {γ : Type} : Option (Array Keyed) × Nat × Nat × Array Keyed × γ → Prop
 | mk (i j : Nat) (out : Array Keyed) (r : γ) (hM : MdH a b out i j) (h0 : 0 < i) (hi : i ≤ a.size) (g0 : 1 < j) (hj : j ≤ b.size) (hr : n ≤ out.size) : HiI a b n (none, i, j, out, r)
theorem p1 {i n : Nat} (h0 : 0 < i) (h : i ≤ n) : i - 1 < n := Nat.lt_of_lt_of_le (Nat.sub_lt h0 Nat.one_pos) h
theorem n0 {n : Nat} (e : ¬(n == 0) = true) : 0 < n := Nat.pos_of_ne_zero fun z => e (by rw [z]; rfl)
theorem n1 {n : Nat} (e : ¬(n == 1) = true) (h : 0 < n) : 1 < n := Nat.lt_of_le_of_ne h fun z => e (by rw [← z]; rfl)
abbrev u4 := Option (Array Keyed) × Nat × Nat × Array Keyed × Nat × Nat × Nat
noncomputable def wT (a b : Array Keyed) (mg ac bc na nb : Nat) (out : Array Keyed) : StateT SortSt Sem (ForInStep u4) := do
 let x ← elem' a (na - 1)
 if (na - 1 == 0) = true then pure (.done (some (a.extract 0 (na - 1) ++ b.extract 0 nb ++ (out.push x).reverse), na - 1, nb, out.push x, mg, ac, bc))
 else if (decide (ac < 7) && decide (bc < 7)) = true then pure (.done (none, na - 1, nb, out.push x, mg, ac, bc))
 else pure (.yield (none, na - 1, nb, out.push x, mg, ac, bc))
noncomputable def wU (a b : Array Keyed) (mg ac bc na nb : Nat) (out : Array Keyed) : StateT SortSt Sem (ForInStep u4) := do
 let x ← elem' b (nb - 1)
 if (nb - 1 == 1) = true then pure (.done (some (b.extract 0 (nb - 1) ++ a.extract 0 na ++ (out.push x).reverse), na, nb - 1, out.push x, mg, ac, bc))
 else do
  let y ← elem' a (na - 1)
  let r ← gQ true y b 0 (nb - 1) (nb - 1 - 1)
  match r with
  | some k =>
   if nb - 1 - k > 0 then
    if (k == 1) = true then pure (.done (some (b.extract 0 k ++ a.extract 0 na ++ (out.push x ++ (b.extract k (nb - 1)).reverse).reverse), na, k, out.push x ++ (b.extract k (nb - 1)).reverse, mg, ac, nb - 1 - k))
    else if (k == 0) = true then pure (.done (some (a.extract 0 na ++ b.extract 0 k ++ (out.push x ++ (b.extract k (nb - 1)).reverse).reverse), na, k, out.push x ++ (b.extract k (nb - 1)).reverse, mg, ac, nb - 1 - k))
    else wT a b mg ac (nb - 1 - k) na k (out.push x ++ (b.extract k (nb - 1)).reverse)
   else wT a b mg ac (nb - 1 - k) na (nb - 1) (out.push x)
  | _ => pure (.done (some (a.extract 0 na ++ b.extract 0 (nb - 1) ++ (out.push x).reverse), na, nb - 1, out.push x, mg, ac, bc))
noncomputable def wV (a b : Array Keyed) (mg ac bc na nb : Nat) (out : Array Keyed) : StateT SortSt Sem (ForInStep u4) := do
 sZ mg
 let x ← elem' b (nb - 1)
 let r ← gQ false x a 0 na (na - 1)
 match r with
 | some k =>
  if na - k > 0 then
   if (k == 0) = true then pure (.done (some (a.extract 0 k ++ b.extract 0 nb ++ (out ++ (a.extract k na).reverse).reverse), k, nb, out ++ (a.extract k na).reverse, mg, na - k, bc))
   else wU a b mg (na - k) bc k nb (out ++ (a.extract k na).reverse)
  else wU a b mg (na - k) bc na nb out
 | _ => pure (.done (some (a.extract 0 na ++ b.extract 0 nb ++ out.reverse), na, nb, out, mg, ac, bc))
noncomputable def yi (a b : Array Keyed) (_ : Nat) (c : u4) : StateT SortSt Sem (ForInStep u4) :=
 if c.2.2.2.2.1 > 1 then wV a b (c.2.2.2.2.1 - 1) c.2.2.2.2.2.1 c.2.2.2.2.2.2 c.2.1 c.2.2.1 c.2.2.2.1 else wV a b c.2.2.2.2.1 c.2.2.2.2.2.1 c.2.2.2.2.2.2 c.2.1 c.2.2.1 c.2.2.2.1
noncomputable def xJ (a b : Array Keyed) (mg _x : Nat) (c : Option (Array Keyed) × Nat × Nat × Array Keyed × Nat × Nat) : StateT SortSt Sem (ForInStep (Option (Array Keyed) × Nat × Nat × Array Keyed × Nat × Nat)) := do
 let x ← elem' b (c.2.2.1 - 1)
 let y ← elem' a (c.2.1 - 1)
 let r ← lt' x y
 match r with
 | some w =>
  if w = true then do
   let x ← elem' a (c.2.1 - 1)
   if (c.2.1 - 1 == 0) = true then pure (.done (some (a.extract 0 (c.2.1 - 1) ++ b.extract 0 c.2.2.1 ++ (c.2.2.2.1.push x).reverse), c.2.1 - 1, c.2.2.1, c.2.2.2.1.push x, c.2.2.2.2.1 + 1, 0))
   else if c.2.2.2.2.1 + 1 ≥ mg then pure (.done (none, c.2.1 - 1, c.2.2.1, c.2.2.2.1.push x, c.2.2.2.2.1 + 1, 0)) else pure (.yield (none, c.2.1 - 1, c.2.2.1, c.2.2.2.1.push x, c.2.2.2.2.1 + 1, 0))
  else do
   let x ← elem' b (c.2.2.1 - 1)
   if (c.2.2.1 - 1 == 1) = true then pure (.done (some (b.extract 0 (c.2.2.1 - 1) ++ a.extract 0 c.2.1 ++ (c.2.2.2.1.push x).reverse), c.2.1, c.2.2.1 - 1, c.2.2.2.1.push x, 0, c.2.2.2.2.2 + 1))
   else if c.2.2.2.2.2 + 1 ≥ mg then pure (.done (none, c.2.1, c.2.2.1 - 1, c.2.2.2.1.push x, 0, c.2.2.2.2.2 + 1)) else pure (.yield (none, c.2.1, c.2.2.1 - 1, c.2.2.2.1.push x, 0, c.2.2.2.2.2 + 1))
 | _ => pure (.done (some (a.extract 0 c.2.1 ++ b.extract 0 c.2.2.1 ++ c.2.2.2.1.reverse), c.2.1, c.2.2.1, c.2.2.2.1, c.2.2.2.2.1, c.2.2.2.2.2))
noncomputable def xI (a b : Array Keyed) (_ : Nat) (c : Option (Array Keyed) × Nat × Nat × Array Keyed × Nat) : StateT SortSt Sem (ForInStep (Option (Array Keyed) × Nat × Nat × Array Keyed × Nat)) := do
 let d ← forIn [0:a.size + b.size] ((none, c.2.1, c.2.2.1, c.2.2.2.1, 0, 0) : Option (Array Keyed) × Nat × Nat × Array Keyed × Nat × Nat) (xJ a b c.2.2.2.2)
 Break.runK.match_1 (fun _ => StateT SortSt Sem _) d.1 (fun r => pure (.done (some r, d.2.1, d.2.2.1, d.2.2.2.1, c.2.2.2.2))) fun _ => do
  liftM (rule "list.sort.gallop")
  let e ← forIn [0:a.size + b.size] ((none, d.2.1, d.2.2.1, d.2.2.2.1, c.2.2.2.2 + 1, d.2.2.2.2.1, d.2.2.2.2.2) : u4) (yi a b)
  Break.runK.match_1 (fun _ => StateT SortSt Sem _) e.1 (fun r => pure (.done (some r, e.2.1, e.2.2.1, e.2.2.2.1, e.2.2.2.2.1))) fun _ => do
   sZ (e.2.2.2.2.1 + 1)
   pure (.yield (none, e.2.1, e.2.2.1, e.2.2.2.1, e.2.2.2.2.1 + 1))
noncomputable def hi2 (a b : Array Keyed) : StateT SortSt Sem (Array Keyed) := do
 liftM (rule "list.sort.merge-hi")
 let x ← elem' a (a.size - 1)
 if (a.size - 1 == 0) = true then pure (a.extract 0 (a.size - 1) ++ b.extract 0 b.size ++ #[x].reverse)
 else if (b.size == 1) = true then pure (b.extract 0 b.size ++ a.extract 0 (a.size - 1) ++ #[x].reverse)
 else do
  let st ← get
  let c ← forIn [0:a.size + b.size] ((none, a.size - 1, b.size, #[x], gallopOf st) : Option (Array Keyed) × Nat × Nat × Array Keyed × Nat) (xI a b)
  Break.runK.match_1 (fun _ => StateT SortSt Sem _) c.1 pure fun _ => liftM (unsupported "internal:list.sort.merge-bound" : Sem (Array Keyed))
theorem v9 (a b : Array Keyed) : nE a b = hi2 a b := rfl
theorem HiI.le {a b : Array Keyed} {n m : Nat} {γ : Type} {c : Option (Array Keyed) × Nat × Nat × Array Keyed × γ} (h : HiI a b n c) (hm : m ≤ n) : HiI a b m c := by
 cases h with
 | mk _ _ _ _ h1 h2 h3 h4 h5 h6 => exact ⟨_, _, _, _, h1, h2, h3, h4, h5, Nat.le_trans hm h6⟩
section walk
variable {prog : Program} {w : World} {A : Around} {E : Value → Shared → Prop} {s : Shared} {kd : SortKind} {a₀ : Array Keyed}
theorem wd {st st' : SortSt} {a b out : Array Keyed} {N mg ac bc i j : Nat} (hS : Same st st') (hM : MdH a b out i j) (h0 : 0 < i) (hi : i ≤ a.size) (g0 : 1 < j) (hj : j ≤ b.size) (hr : N ≤ out.size) :
  wpS (model prog w) A E s (wT a b mg ac bc i j out) (LoR (LoD a b) (HiI a b N) st) st' := by
 unfold wT
 have hia := p1 h0 hi
 have h2 := hM.pushA h0 hia
 refine bf hia ?_
 refine a9 (fun e => wpS_pure (.done _ _ hS ⟨_, _, h2.done⟩)) fun e => ?_
 have h3 : HiI a b N (none, i - 1, j, out.push a[i - 1], mg, ac, bc) := ⟨_, _, _, _, h2, n0 e, Nat.le_of_lt hia, g0, hj, Nat.le_of_succ_le (ei hr)⟩
 exact a9 (fun _ => wpS_pure (.stop _ _ hS h3)) fun _ => wpS_pure (.go _ _ hS h3)
theorem we {st st' : SortSt} {a b out : Array Keyed} {N mg ac bc i j : Nat} (hL : k9 prog w A E s kd a₀) (ha : ∀ x ∈ a.toList, x ∈ a₀.toList) (hb : ∀ x ∈ b.toList, x ∈ a₀.toList) (hkd : kindOf st = kd) (hS : Same st st') (hM : MdH a b out i j) (h0 : 0 < i) (hi : i ≤ a.size) (g0 : 1 < j) (hj : j ≤ b.size) (hr : N ≤ out.size) :
  wpS (model prog w) A E s (wU a b mg ac bc i j out) (LoR (LoD a b) (HiI a b N) st) st' := by
 unfold wU
 have hjb := p1 (Nat.lt_of_succ_lt g0) hj
 have g1 := Nat.sub_pos_of_lt g0
 have h2 := hM.pushB (Nat.lt_of_succ_lt g0) hjb
 have hr1 : N ≤ (out.push b[j - 1]).size := Nat.le_of_succ_le (ei hr)
 refine bf hjb ?_
 refine a9 (fun e => wpS_pure (.done _ _ hS ⟨_, _, h2.last⟩)) fun e => ?_
 refine bf (p1 h0 hi) ?_
 refine wpS_bind (dM hL (ha _ (by simp)) hb (by rw [Nat.zero_add]; exact Nat.le_of_lt hjb) (Nat.sub_lt g1 Nat.one_pos) (hS.kind.trans hkd) fun k l => ?_)
 refine a9 (fun _ => ?_) fun _ => wd hS h2 h0 hi (n1 e g1) (Nat.le_of_lt hjb) hr1
 have h3 := h2.appB l
 refine a9 (fun e => wpS_pure (.done _ _ hS ⟨_, _, h3.last⟩)) fun e6 => ?_
 refine a9 (fun e => wpS_pure (.done _ _ hS ⟨_, _, h3.done⟩)) fun e9 => ?_
 exact wd hS h3 h0 hi (n1 e6 (n0 e9)) (Nat.le_trans l (Nat.le_of_lt hjb)) (mO hr1)
theorem xG {st st' : SortSt} {a b : Array Keyed} {N x : Nat} {c : u4} (hL : k9 prog w A E s kd a₀) (ha : ∀ x ∈ a.toList, x ∈ a₀.toList) (hb : ∀ x ∈ b.toList, x ∈ a₀.toList) (hkd : kindOf st = kd) (hS : Same st st') (hI : HiI a b N c) :
  wpS (model prog w) A E s (yi a b x c) (LoR (LoD a b) (HiI a b N) st) st' := by
 obtain ⟨i, j, out, ⟨g, p, q⟩, hM, h0, hi, g0, hj, hr⟩ := hI
 have key : ∀ mg, wpS (model prog w) A E s (wV a b mg p q i j out) (LoR (LoD a b) (HiI a b N) st) st' := fun mg => by
  unfold wV
  refine dC ?_
  have hS := hS.trans (c := SortSt.mk' (kindOf st') (arrOf st') (pendingOf st') mg (failedOf st')) ⟨rfl, rfl, rfl, rfl⟩
  refine bf (p1 (Nat.lt_of_succ_lt g0) hj) ?_
  refine wpS_bind (dM hL (hb _ (by simp)) ha (by rw [Nat.zero_add]; exact hi) (Nat.sub_lt h0 Nat.one_pos) (hS.kind.trans hkd) fun k l => ?_)
  refine a9 (fun _ => ?_) fun _ => we hL ha hb hkd hS hM h0 hi g0 hj hr
  have h3 := hM.appA l
  refine a9 (fun e => wpS_pure (.done _ _ hS ⟨_, _, h3.done⟩)) fun e3 => ?_
  exact we hL ha hb hkd hS h3 (n0 e3) (Nat.le_trans l hi) g0 hj (mO hr)
 exact a9 (fun _ => key _) fun _ => key _
theorem xH {st st' : SortSt} {a b : Array Keyed} {N mg x : Nat} {c : Option (Array Keyed) × Nat × Nat × Array Keyed × Nat × Nat} (hL : k9 prog w A E s kd a₀) (ha : ∀ x ∈ a.toList, x ∈ a₀.toList) (hb : ∀ x ∈ b.toList, x ∈ a₀.toList) (hkd : kindOf st = kd) (hS : Same st st') (hI : HiI a b N c) :
  wpS (model prog w) A E s (xJ a b mg x c) (LoR (LoD a b) (HiI a b (N + 1)) st) st' := by
 obtain ⟨i, j, out, ⟨p, q⟩, hM, h0, hi, g0, hj, hr⟩ := hI
 have hia := p1 h0 hi
 have hjb := p1 (Nat.lt_of_succ_lt g0) hj
 unfold xJ
 refine pq hL hb ha hjb hia (hS.kind.trans hkd) fun aw => ?_
 cases aw with
 | true =>
  have h2 := hM.pushA h0 hia
  refine bf hia ?_
  refine a9 (fun e => wpS_pure (.done _ _ hS ⟨_, _, h2.done⟩)) fun e => ?_
  have h3 : HiI a b (N + 1) (none, i - 1, j, out.push a[i - 1], p + 1, 0) := ⟨_, _, _, _, h2, n0 e, Nat.le_of_lt hia, g0, hj, ei hr⟩
  exact a9 (fun _ => wpS_pure (.stop _ _ hS h3)) fun _ => wpS_pure (.go _ _ hS h3)
 | false =>
  have h2 := hM.pushB (Nat.lt_of_succ_lt g0) hjb
  refine bf hjb ?_
  refine a9 (fun e => wpS_pure (.done _ _ hS ⟨_, _, h2.last⟩)) fun e => ?_
  have h3 : HiI a b (N + 1) (none, i, j - 1, out.push b[j - 1], 0, q + 1) := ⟨_, _, _, _, h2, h0, hi, n1 e (Nat.sub_pos_of_lt g0), Nat.le_of_lt hjb, ei hr⟩
  exact a9 (fun _ => wpS_pure (.stop _ _ hS h3)) fun _ => wpS_pure (.go _ _ hS h3)
theorem xF {st st' : SortSt} {a b : Array Keyed} {N x : Nat} {c : Option (Array Keyed) × Nat × Nat × Array Keyed × Nat} (hL : k9 prog w A E s kd a₀) (ha : ∀ x ∈ a.toList, x ∈ a₀.toList) (hb : ∀ x ∈ b.toList, x ∈ a₀.toList) (na : 0 < a.size) (hkd : kindOf st = kd) (hS : Same st st') (hI : HiI a b N c) :
  wpS (model prog w) A E s (xI a b x c) (LoQ (LoD a b) (HiI a b (N + 1)) st) st' := by
 obtain ⟨i, j, out, mg, hM, h0, hi, g0, hj, hr⟩ := hI
 unfold xI
 have tot := Nat.add_pos_left na b.size
 refine ir (LoD a b) (HiI a b (N + 1)) (fun y => HiI a b (N + y)) (fun y c st'' hS hI => xH hL ha hb hkd hS hI) (fun y c h => h.le (Nat.succ_le_succ (Nat.le_add_right N y))) tot hS ⟨i, j, _, _, hM, h0, hi, g0, hj, hr⟩ fun c st'' hP => ?_
 rcases hP with ⟨hS2, ⟨m, r, hG⟩⟩ | ⟨hS2, ⟨i', j', out', ⟨p, q⟩, hM', h0', hi', g0', hj', hr'⟩⟩
 ·exact wpS_pure (.done _ _ hS2 ⟨m, _, hG⟩)
 refine eI ?_
 refine ir (LoD a b) (HiI a b (N + 1)) (fun _ => HiI a b (N + 1)) (fun y c st'' hS hI => xG hL ha hb hkd hS hI) (fun y c h => h) tot hS2 ⟨i', j', _, _, hM', h0', hi', g0', hj', hr'⟩ fun c st3 hP => ?_
 rcases hP with ⟨hS3, ⟨m, r, hG⟩⟩ | ⟨hS3, ⟨i', j', out', ⟨g, p, q⟩, hM', h0', hi', g0', hj', hr'⟩⟩
 ·exact wpS_pure (.done _ _ hS3 ⟨m, _, hG⟩)
 refine dC ?_
 exact wpS_pure (.go _ _ (hS3.trans ⟨rfl, rfl, rfl, rfl⟩) ⟨_, _, _, _, hM', h0', hi', g0', hj', hr'⟩)
theorem vA {st : SortSt} {a b : Array Keyed} {Q : Array Keyed → SortSt → Prop} (hL : k9 prog w A E s kd a₀) (ha : ∀ x ∈ a.toList, x ∈ a₀.toList) (hb : ∀ x ∈ b.toList, x ∈ a₀.toList) (na : 0 < a.size) (nb : 0 < b.size) (hkd : kindOf st = kd)
  (h : ∀ m st', m.toList.Perm (a.toList ++ b.toList) → Same st st' → Q m st') : wpS (model prog w) A E s (nE a b) Q st := by
 have hla : a.size - 1 < a.size := Nat.sub_lt na Nat.one_pos
 have m0 : MdH a b #[a[a.size - 1]] (a.size - 1) b.size := by
  have : MdH a b #[] a.size b.size := by
   unfold MdH
   rw [List.take_of_length_le (by simp), List.take_of_length_le (by simp)]
   exact List.Perm.refl _
  exact this.pushA na hla
 rw [v9]
 unfold hi2
 refine eI ?_
 refine bf hla ?_
 refine a9 (fun e1 => wpS_pure (h _ _ m0.done Same.refl)) fun e1 => ?_
 refine a9 (fun e2 => wpS_pure (h _ _ m0.last Same.refl)) fun e2 => ?_
 refine cC ?_
 refine cD (fun x c st' => Same st st' ∧ HiI a b (x + 1) c) (fun c st' => Same st st' ∧ LoD a b c) ?_ ?_ ⟨Same.refl, _, _, _, _, m0, n0 e1, Nat.sub_le _ _, n1 e2 nb, Nat.le_refl _, Nat.le_refl _⟩ ?_
 ·rintro F rfl x c st' _ _ ⟨hS, hI⟩
  refine wpS_mono (xF hL ha hb na hkd hS hI) fun r st3 hR => ?_
  cases hR with
  | done _ c hS h => exact ⟨hS, h⟩
  | go _ c hS h => exact ⟨hS, h⟩
 ·rintro c st' ⟨hS, i, j, out, mg, hM, h0, hi, g0, hj, hx⟩
  exact absurd (Nat.le_trans hx hM.size) (Nat.not_le.mpr (Nat.lt_succ_of_le (Nat.le_max_right _ _)))
 ·rintro K rfl c st' ⟨hS, m, r, hG⟩
  exact wpS_pure (h m st' hG hS)
end walk
end Mine
end
noncomputable section
namespace Mine
open PySem PyProof.Rows
theorem nU (o : Nat) : ∀ (l : List Keyed) (d : Nat) (arr : Array Keyed), o + d + l.length ≤ arr.size →
  ((l.zipIdx d).foldl (fun a (pj : Keyed × Nat) => a.setIfInBounds (o + pj.2) pj.1) arr).toList = arr.toList.take (o + d) ++ (l ++ arr.toList.drop (o + d + l.length))
 | [], d, arr, h => by simp
 | x :: l, d, arr, h => by
  rw [List.zipIdx_cons, List.foldl_cons]
  simp only [List.length_cons] at h
  rw [nU o l (d + 1) _ (by rw [Array.size_setIfInBounds]; exact dE fun hg => lN [o, d, (l.length), (arr.size)] 0x628c8001c613986520001 rfl h hg)]
  rw [Array.toList_setIfInBounds]
  have hl : arr.toList.length = arr.size := Array.length_toList
  rw [List.take_set, List.drop_set_of_lt (by exact Nat.le_add_right _ _), show o + (d + 1) = o + d + 1 by exact rfl]
  rw [List.take_add_one, List.getElem?_eq_getElem (by exact Nat.lt_of_le_of_lt (Nat.le_add_right _ _) h), List.set_append]
  simp only [Option.toList_some, List.length_take, List.length_cons]
  rw [if_neg (by exact fun hg => lN [o, d, (min (o + d) arr.toList.length)] 0x18a400c25200c1 rfl (Nat.min_le_left (o + d) (arr.toList.length)) hg), show o + d - min (o + d) arr.toList.length = 0 by exact Nat.le_antisymm (dE fun hg => Or.elim (oG (o + d) (min (o + d) arr.toList.length)) (fun hs0 => Or.elim (uF (o + d) (arr.toList.length)) (fun hs1 => lN [o, d, (o + d - min (o + d) arr.toList.length), (min (o + d) arr.toList.length)] 0x729001300230948039801 rfl (cU (dE fun hg => lN [o, d, (min (o + d) arr.toList.length)] 0x18a400c25200c1 rfl (Nat.min_le_left (o + d) (arr.toList.length)) hg)) hg hs1) (fun hs1 => lN [o, d, (l.length), (arr.size), (o + d - min (o + d) arr.toList.length), (min (o + d) arr.toList.length)] 0x24e140023094804a0013986520001 rfl h (cU (dE fun hg => lN [o, d, (min (o + d) arr.toList.length)] 0x18a400c25200c1 rfl (Nat.min_le_left (o + d) (arr.toList.length)) hg)) hg hs1)) (fun hs0 => lN [(o + d - min (o + d) arr.toList.length)] 0x902400461 rfl hg (Nat.le_of_eq hs0))) (dE fun hg => lN [o, d, (o + d - min (o + d) arr.toList.length), (min (o + d) arr.toList.length)] 0x98613980520025200e1 rfl (Nat.min_le_left (o + d) (arr.toList.length)) (dO (o + d) (min (o + d) arr.toList.length)) hg)]
  simp only [List.set_cons_zero, List.append_assoc, List.cons_append, List.nil_append]
  rw [show o + d + 1 + l.length = o + d + (l.length + 1) by exact Nat.add_right_comm _ _ _]
theorem qJ {arr : Array Keyed} {i j k : Nat} (hij : i ≤ j) (hjk : j ≤ k) : arr.toList = arr.toList.take i ++ ((arr.extract i j).toList ++ (arr.extract j k).toList ++ arr.toList.drop k) := by
 have h1 := iu (arr := arr) hij
 have h2 := iu (arr := arr) hjk
 rw [List.append_assoc, ← List.append_assoc, ← h1, ← List.append_assoc, ← h2, List.take_append_drop]
theorem jL {arr : Array Keyed} {i j : Nat} (hj : j ≤ arr.size) : (arr.extract i j).toList.length = j - i := by
 rw [Array.length_toList, Array.size_extract, Nat.min_eq_left hj]
theorem rB {arr : Array Keyed} {i j k : Nat} {m : List Keyed} (hij : i ≤ j) (hjk : j ≤ k) (hk : k ≤ arr.size) (hm : m.Perm ((arr.extract i j).toList ++ (arr.extract j k).toList)) :
  (m.zipIdx.foldl (fun a (pj : Keyed × Nat) => a.setIfInBounds (i + pj.2) pj.1) arr).Perm arr := by
 have hl : i + 0 + m.length = k := by
  rw [hm.length_eq, List.length_append, jL (Nat.le_trans hjk hk), jL hk, Nat.add_zero, ← Nat.add_assoc, Nat.add_sub_cancel' hij, Nat.add_sub_cancel' hjk]
 refine Array.perm_iff_toList_perm.mpr ?_
 rw [nU i m 0 arr (by rw [hl]; exact hk), hl]
 have := qJ (arr := arr) hij hjk
 exact (List.Perm.append_left _ (List.Perm.append_right _ hm)).trans (List.Perm.of_eq this.symm)
noncomputable def Runs : List (Nat × Nat × Nat) → Nat → Nat → Prop
 | [], a, b => a = b
 | r :: rs, a, b => r.1 = a ∧ 0 < r.2.1 ∧ Runs rs (a + r.2.1) b
theorem eK : ∀ {p q : List (Nat × Nat × Nat)} {a b : Nat}, Runs (p ++ q) a b ↔ ∃ c, Runs p a c ∧ Runs q c b
 | [], q, a, b => ⟨fun h => ⟨a, rfl, h⟩, fun ⟨c, e, h⟩ => by cases (e : a = c); exact h⟩
 | r :: p, q, a, b => by
  show (r.1 = a ∧ 0 < r.2.1 ∧ Runs (p ++ q) (a + r.2.1) b) ↔ _
  rw [eK]
  exact ⟨fun ⟨h1, h2, c, h4, h5⟩ => ⟨c, ⟨h1, h2, h4⟩, h5⟩, fun ⟨c, ⟨h1, h2, h4⟩, h5⟩ => ⟨h1, h2, c, h4, h5⟩⟩
theorem mj : ∀ {p : List (Nat × Nat × Nat)} {a b : Nat}, Runs p a b → a + p.length ≤ b
 | [], a, b, h => by cases (h : a = b); exact Nat.le_refl _
 | r :: p, a, b, ⟨_, h2, h4⟩ => by
  rw [List.length_cons, Nat.add_comm p.length 1, ← Nat.add_assoc]
  exact Nat.le_trans (Nat.add_le_add_right (Nat.add_le_add_left h2 a) _) (mj h4)
theorem ju {α : Type} {f : α → α} {t : α} : ∀ (p : List α), (p ++ [t]).modify p.length f = p ++ [f t]
 | [] => rfl
 | x :: p => by
  show x :: (p ++ [t]).modify p.length f = x :: (p ++ [f t])
  rw [ju p]
theorem ry {p : List (Nat × Nat × Nat)} {a b : Nat} {s n u v : Nat} (h : Runs (p ++ [(s, n, u)]) a b) : Runs (p ++ [(s, n, v)]) a b := by
 rw [eK] at h ⊢
 exact h
section walk
variable {prog : Program} {w : World} {A : Around} {E : Value → Shared → Prop} {s : Shared} {kd : SortKind} {a₀ : Array Keyed} {p : Array (Nat × Nat × Nat)}
theorem ue {st st' : SortSt} {Q : PUnit → SortSt → Prop} (h : Q ⟨⟩ st') : wpS (model prog w) A E s (set st' : StateT SortSt Sem PUnit) Q st := by
 unfold wpS; rw [StateT.run_set]; exact wpAny_pure ⟨rfl, h⟩
theorem oF {st : SortSt} {i : Nat} {p1 p2 : List (Nat × Nat × Nat)} {sa na pw sb nb pw2 : Nat} {Q : Bool → SortSt → Prop} (hL : k9 prog w A E s kd a₀) (hB : SP kd a₀ p st)
  (hp : p.toList = p1 ++ (sa, na, pw) :: (sb, nb, pw2) :: p2) (hi : i = p1.length) (hsb : sb = sa + na) (hna : 0 < na) (hnb : 0 < nb) (hsz : sb + nb ≤ a₀.size)
  (h : ∀ st' p', SP kd a₀ p' st' → p'.toList = p1 ++ (sa, na + nb, pw) :: p2 → Q true st') :
  wpS (model prog w) A E s (mergeAt' i) Q st := by
 have hsize := hB.size
 have hmem := hB.mem
 have hpe := hB.pend
 subst hpe
 have q1 : (pendingOf st)[i]? = some (sa, na, pw) := by
  rw [← Array.getElem?_toList, hp, hi, List.getElem?_append_right (Nat.le_refl _)]; simp
 have q2 : (pendingOf st)[i + 1]? = some (sb, nb, pw2) := by
  rw [← Array.getElem?_toList, hp, hi, List.getElem?_append_right (by exact Nat.le_add_right _ _)]; simp
 have hpend : (((pendingOf st).setIfInBounds i (sa, na + nb, pw)).eraseIdxIfInBounds (i + 1)).toList = p1 ++ (sa, na + nb, pw) :: p2 := by
  rw [Array.toList_eraseIdxIfInBounds, Array.toList_setIfInBounds, hp, hi, List.set_append_right _ _ (Nat.le_refl _), List.eraseIdx_append_of_length_le (by exact Nat.le_add_right _ _)]
  simp
 unfold mergeAt'
 refine cC ?_
 dsimp only
 rw [q1, q2]
 dsimp only
 refine wpS_bind (ue ?_)
 rw [← hsize] at hsz
 have hsbs : sb < (arrOf st).size := Nat.lt_of_lt_of_le (Nat.lt_add_of_pos_right hnb) hsz
 have bn1 : sa + na ≤ (arrOf st).size := by rw [← hsb]; exact Nat.le_of_lt hsbs
 refine bf hsbs ?_
 refine wpS_bind (dM (left := false) (n := na) (hint := 0) hL (hmem _ (by simp)) hmem bn1 hna hB.kind fun k hk1 => ?_)
 dsimp only
 refine a9 (fun _ => wpS_pure (h _ _ ⟨hB.perm, hB.kind, hB.failed, rfl⟩ hpend)) fun e1 => ?_
 have hkl : k < na := Nat.lt_of_sub_pos (n0 e1)
 have hlast : sa + k + (na - k) - 1 < (arrOf st).size := by
  rw [Nat.add_assoc, Nat.add_sub_cancel' hk1]
  exact Nat.lt_of_lt_of_le (Nat.sub_lt (Nat.add_pos_right sa hna) Nat.one_pos) bn1
 refine bf hlast ?_
 refine wpS_bind (dM (left := true) (n := nb) (hint := nb - 1) hL (hmem _ (by simp)) hmem hsz (Nat.sub_lt hnb Nat.one_pos) hB.kind fun k2 l1 => ?_)
 dsimp only
 refine a9 (fun _ => wpS_pure (h _ _ ⟨hB.perm, hB.kind, hB.failed, rfl⟩ hpend)) fun e2 => ?_
 have hij : sa + k < sb := by rw [hsb]; exact Nat.add_lt_add_left hkl sa
 have hjk : sb ≤ sb + k2 := Nat.le_add_right _ _
 have hks : sb + k2 ≤ (arrOf st).size := Nat.le_trans (Nat.add_le_add_left l1 sb) hsz
 have hsub : ∀ {i j : Nat}, ∀ x ∈ ((arrOf st).extract i j).toList, x ∈ a₀.toList := fun x hx => hmem x (by
  rw [Array.toList_extract, List.extract_eq_take_drop] at hx
  exact List.drop_subset _ _ (List.take_subset _ _ hx))
 have bx : 0 < ((arrOf st).extract (sa + k) sb).size := by
  rw [← Array.length_toList, jL (Nat.le_of_lt hsbs)]; exact Nat.sub_pos_of_lt hij
 have by' : 0 < ((arrOf st).extract sb (sb + k2)).size := by
  rw [← Array.length_toList, jL hks, Nat.add_sub_cancel_left]; exact n0 e2
 have fin : ∀ (m : Array Keyed) (st' : SortSt), m.toList.Perm (((arrOf st).extract (sa + k) sb).toList ++ ((arrOf st).extract sb (sb + k2)).toList) →
   Same (SortSt.mk' (kindOf st) (arrOf st) (((pendingOf st).setIfInBounds i (sa, na + nb, pw)).eraseIdxIfInBounds (i + 1)) (gallopOf st) (failedOf st)) st' →
   Q (failedOf st').isNone (setArr st' (m.toList.zipIdx.foldl (fun a (pj : Keyed × Nat) => a.setIfInBounds (sa + k + pj.2) pj.1) (arrOf st'))) := by
  intro m st' hG hS
  have hf : failedOf st' = none := hS.failed.trans hB.failed
  rw [hf]
  refine h _ _ ⟨?_, hS.kind.trans hB.kind, hf, hS.pend⟩ hpend
  show (List.foldl _ (arrOf st') _).Perm a₀
  rw [show arrOf st' = arrOf st from hS.arr]
  exact (rB (Nat.le_of_lt hij) hjk hks hG).trans hB.perm
 refine a9 (fun e3 => ?_) (fun e3 => ?_)
 ·exact wpS_bind (vz hL hsub hsub bx by' hB.kind fun m st' hG hS => dC (cC (wpS_pure (fin m st' hG hS))))
 ·exact wpS_bind (vA hL hsub hsub bx by' hB.kind fun m st' hG hS => dC (cC (wpS_pure (fin m st' hG hS))))
theorem jr {st : SortSt} {i lo : Nat} {Q : Bool → SortSt → Prop} (hL : k9 prog w A E s kd a₀) (hB : SP kd a₀ p st) (hR : Runs p.toList 0 lo) (hlo : lo ≤ a₀.size) (hi : i + 1 < p.size)
  (h : ∀ st' p', SP kd a₀ p' st' → Runs p'.toList 0 lo → p'.size + 1 = p.size → Q true st') :
  wpS (model prog w) A E s (mergeAt' i) Q st := by
 have hl : p.toList.length = p.size := Array.length_toList
 obtain ⟨p1, x, y, p2, e, e1⟩ : ∃ p1 x y p2, p.toList = p1 ++ x :: y :: p2 ∧ i = p1.length := by
  refine ⟨p.toList.take i, p.toList[i], p.toList[i + 1], p.toList.drop (i + 2), ?_, ?_⟩
  ·rw [List.getElem_cons_drop, List.getElem_cons_drop, List.take_append_drop]
  ·rw [List.length_take, hl, Nat.min_eq_left (Nat.le_of_lt (Nat.lt_of_succ_lt hi))]
 obtain ⟨sa, na, pw⟩ := x
 obtain ⟨sb, nb, pw2⟩ := y
 rw [e] at hR
 obtain ⟨c, R1, a1, a2, b1, b2, R2⟩ := eK.mp hR
 dsimp only at a1 a2 b1 b2 R2
 have hd := mj R2
 subst a1
 subst b1
 refine oF hL hB e e1 rfl a2 b2 (Nat.le_trans (Nat.le_trans (Nat.le_add_right _ _) hd) hlo) fun st' p' hB' hp' => h st' p' hB' ?_ ?_
 ·rw [hp', eK]
  refine ⟨sa, R1, rfl, Nat.lt_of_lt_of_le a2 (Nat.le_add_right _ _), ?_⟩
  show Runs p2 (sa + (na + nb)) lo
  rw [← Nat.add_assoc]
  exact R2
 ·rw [← Array.length_toList, ← hl, hp', e, List.length_append, List.length_append]
  rfl
theorem uf {α β : Type} {st : SortSt} {c : Prop} [Decidable c] {t e : StateT SortSt Sem α} {Q : α → SortSt → Prop} {G : β → StateT SortSt Sem α} (H : β → SortSt → Prop) (x : β) (he : e = G x)
  (key : ∀ x' st', H x' st' → wpS (model prog w) A E s (G x') Q st') (h1 : c → (∀ x' st', H x' st' → wpS (model prog w) A E s (G x') Q st') → wpS (model prog w) A E s t Q st) (h2 : ¬c → H x st) :
  wpS (model prog w) A E s (if c then t else e) Q st := a9 (fun h => h1 h key) (fun h => he ▸ key x st (h2 h))
inductive RunI (kd : SortKind) (a₀ : Array Keyed) (lo : Nat) (st : SortSt) : Prop
 | mk (p : Array (Nat × Nat × Nat)) (b : SP kd a₀ p st) (r : Runs p.toList 0 lo) : RunI kd a₀ lo st
inductive RunJ (kd : SortKind) (a₀ : Array Keyed) (x : Nat) : Option Unit × Nat → SortSt → Prop
 | mk (lo : Nat) (st : SortSt) (i : RunI kd a₀ lo st) (h : lo ≤ a₀.size) (h' : x ≤ lo) : RunJ kd a₀ x (none, lo) st
structure RunAt (kd : SortKind) (a₀ : Array Keyed) (lo n : Nat) (st : SortSt) : Prop where
 b : RunI kd a₀ lo st
 n1 : 1 ≤ n
 n2 : lo + n ≤ a₀.size
inductive Wait (kd : SortKind) (a₀ : Array Keyed) (lo : Nat) (st : SortSt) : Prop
 | mk (p : Array (Nat × Nat × Nat)) (b : SP kd a₀ p st) (r : Runs p.toList 0 lo) (z : 0 < p.size) : Wait kd a₀ lo st
inductive Few (kd : SortKind) (a₀ : Array Keyed) (x : Nat) (st : SortSt) : Prop
 | mk (p : Array (Nat × Nat × Nat)) (b : SP kd a₀ p st) (r : Runs p.toList 0 a₀.size) (h : p.size + x ≤ a₀.size) : Few kd a₀ x st
theorem sV {st : SortSt} {Q : Unit → SortSt → Prop} (hL : k9 prog w A E s kd a₀) (hB : SP kd a₀ #[] st)
  (h : ∀ st', (arrOf st').Perm a₀ → failedOf st' = none → Q () st') : wpS (model prog w) A E s sortRuns' Q st := by
 rw [sortRuns'_eq]
 refine cC ?_
 simp only [hB.size]
 generalize minRun' a₀.size a₀.size 0 = mr
 refine cD (fun x c st' => RunJ kd a₀ x c st') (fun c st' => c = (none, a₀.size) ∧ RunI kd a₀ a₀.size st') ?step ?fin ⟨0, st, ⟨_, hB, rfl⟩, Nat.zero_le _, Nat.le_refl _⟩ ?post
 case fin =>
  rintro c st' ⟨lo, _, hI, h1, h2⟩
  rw [Nat.max_eq_right (Nat.zero_le _)] at h2
  cases Nat.le_antisymm h1 h2
  exact ⟨rfl, hI⟩
 case step =>
  rintro F rfl x c st' _ _ ⟨lo, _, ⟨p, hB', hR⟩, h1, hx⟩
  refine a9 (fun e1 => ?_) (fun e1 => ?_)
  ·cases Nat.le_antisymm h1 e1
   exact wpS_pure ⟨rfl, _, hB', hR⟩
  refine q8 fun K hK => q7 hL (Nat.le_of_eq (Nat.add_sub_cancel' h1)) (Nat.sub_pos_of_lt (Nat.lt_of_not_le e1)) hB' fun m st2 hB2 hm1 hm2 => ?_
  subst hK
  dsimp only
  refine' uf (RunAt kd a₀ lo) m ?he ?_ (fun e2 K => ?_) (fun _ => ⟨⟨_, hB2, hR⟩, hm1, Nat.le_trans (Nat.add_le_add_left hm2 lo) (Nat.le_of_eq (Nat.add_sub_cancel' h1))⟩)
  case he => apply Eq.refl
  ·clear hB2 hm1 hm2 hR
   rintro n st3 ⟨⟨p3, hB3, hR3⟩, hn1, hn2⟩
   refine cC ?_
   have hpe := hB3.pend
   subst hpe
   cases hb : (pendingOf st3).back? with
   | none =>
    refine dC (wpS_pure ⟨_, _, ⟨_, ⟨hB3.perm, hB3.kind, hB3.failed, rfl⟩, ?_⟩, hn2, Nat.add_le_add hx hn1⟩)
    show Runs ((pendingOf st3).push _).toList 0 _
    rw [Array.toList_push, eK]
    exact ⟨lo, hR3, rfl, hn1, rfl⟩
   | some t =>
    obtain ⟨s1, n1, o1⟩ := t
    refine cD (fun y c st4 => c = (none, ()) ∧ Wait kd a₀ lo st4) (fun c st4 => c = (none, ()) ∧ Wait kd a₀ lo st4) ?_ (fun _ _ hh => hh) ⟨rfl, _, hB3, hR3, ?_⟩ ?_
    ·rintro F rfl y c st4 _ _ ⟨rfl, p4, hB4, hR4, hz4⟩
     refine cC ?_
     have hpe := hB4.pend
     subst hpe
     by_cases hz : (pendingOf st4).size > 1
     ·rw [if_pos hz, getElem?_pos (pendingOf st4) ((pendingOf st4).size - 2) (Nat.sub_lt hz4 (by decide))]
      refine a9 (fun e5 => wpS_pure ⟨rfl, _, hB4, hR4, hz4⟩) (fun e5 => ?_)
      refine wpS_bind (jr hL hB4 hR4 h1 (by omega) fun st5 p5 hB5 hR5 hz5 => ?_)
      exact wpS_pure ⟨rfl, _, hB5, hR5, by omega⟩
     ·rw [if_neg hz]
      exact wpS_pure ⟨rfl, _, hB4, hR4, hz4⟩
    ·rcases Nat.eq_zero_or_pos (pendingOf st3).size with h0 | h0
     ·rw [Array.eq_empty_of_size_eq_zero h0] at hb; simp at hb
     ·exact h0
    ·rintro K rfl c st4 ⟨rfl, p4, hB4, hR4, hz4⟩
     have hpe := hB4.pend
     subst hpe
     refine dC ?_
     refine dC (wpS_pure ⟨_, _, ⟨_, ⟨hB4.perm, hB4.kind, hB4.failed, rfl⟩, ?_⟩, hn2, Nat.add_le_add hx hn1⟩)
     show Runs (Array.push (Array.modify (pendingOf st4) ((pendingOf st4).size - 1) _) _).toList 0 _
     rw [Array.toList_push, eK]
     refine ⟨lo, ?_, rfl, hn1, rfl⟩
     have hl : (pendingOf st4).toList.length = (pendingOf st4).size := Array.length_toList
     obtain ⟨p, t, et⟩ : ∃ p t, (pendingOf st4).toList = p ++ [t] := by
      have hne' : (pendingOf st4).toList ≠ [] := fun h0 => by rw [h0] at hl; exact absurd hz4 (by rw [← hl]; exact Nat.lt_irrefl _)
      exact ⟨_, _, (List.dropLast_concat_getLast hne').symm⟩
     rw [Array.toList_modify, ← hl, et, List.length_append, List.length_singleton, Nat.add_sub_cancel]
     obtain ⟨u, v, z⟩ := t
     rw [et] at hR4
     rw [ju]
     exact ry hR4
  ·refine eI ?_
   refine wpS_bind (ug hL (Nat.le_trans (Nat.add_le_add_left (Nat.min_le_left _ _) lo) (Nat.le_of_eq (Nat.add_sub_cancel' h1))) hB2 fun st3 hB3 => ?_)
   refine K _ st3 ⟨⟨_, hB3, hR⟩, ?_, Nat.le_trans (Nat.add_le_add_left (Nat.min_le_left _ _) lo) (Nat.le_of_eq (Nat.add_sub_cancel' h1))⟩
   exact Nat.le_min.mpr ⟨Nat.le_trans hm1 hm2, Nat.le_of_lt (Nat.lt_of_le_of_lt hm1 e2)⟩
 case post =>
  rintro K rfl c st' ⟨rfl, p, hB', hR⟩
  refine cD (fun x c st'' => c = (none, ()) ∧ Few kd a₀ x st'') (fun c st'' => c = (none, ()) ∧ (arrOf st'').Perm a₀ ∧ failedOf st'' = none) ?cstep ?cfin ?cinit ?cpost
  case cinit =>
   have := mj hR
   rw [Array.length_toList] at this
   exact ⟨rfl, _, hB', hR, Nat.le_trans (Nat.le_add_left _ _) this⟩
  case cfin =>
   rintro c st'' ⟨rfl, _, hB4, _, _⟩
   exact ⟨rfl, hB4.perm, hB4.failed⟩
  case cpost =>
   rintro K rfl c st'' ⟨rfl, h1, h2⟩
   exact wpS_pure (h _ h1 h2)
  case cstep =>
   rintro F rfl x c st'' _ _ ⟨rfl, p4, hB4, hR4, hx4⟩
   refine cC ?_
   have hpe := hB4.pend
   subst hpe
   refine a9 (fun e1 => wpS_pure ⟨rfl, hB4.perm, hB4.failed⟩) (fun e1 => ?_)
   refine wpS_bind (jr hL hB4 hR4 (Nat.le_refl _) ?_ fun st5 p5 hB5 hR5 hz5 => ?_)
   ·have hif : ∀ (c : Prop) [Decidable c] (n : Nat), 1 < n → (if c then n - 2 - 1 else n - 2) + 1 < n := by
     intro c _ n hn; split <;> omega
    exact hif _ _ (Nat.lt_of_not_le e1)
   ·exact wpS_pure ⟨rfl, _, hB5, hR5, by omega⟩
end walk
end Mine
end
noncomputable section
namespace Mine
open PySem PyProof.Rows
section
variable {prog : Program} {w : World} {A : Around} {E : Value → Shared → Prop} {s : Shared} {kd : SortKind}
theorem uG {vs : List Value} (h : ∀ x ∈ vs, ∀ y ∈ vs, ∀ (E : Value → Shared → Prop) (C : Bool → Shared → Prop), (∀ b, C b s) → wpAny (model prog w) A (keyLt' kd x y) C E s) : k9 prog w A E s kd (pairsOf vs) := by
 intro x y hx hy Q st hk q
 rw [pairsOf_toList] at hx hy
 rw [lt'_eq]
 refine cC ?_
 rw [hk]
 exact wpS_bind (wpS_lift (wpAny_attempt (h _ (mem_zip_self hx).2 _ (mem_zip_self hy).2 _ _ fun b => ⟨rfl, wpS_pure (q b)⟩)))
theorem nn {a : Addr} {vs : List Value} {n : Nat} {P : PySem.Fin → Shared → Prop} (ho : s.heap.get? a = some (seqObj "list" vs.toArray n)) (hz : vs.length ≤ 16777216)
  (hkk : 2 ≤ vs.length → ∀ s' : Shared, (∀ b o, b ≠ a → s.heap.get? b = some o → s'.heap.get? b = some o) → ∀ Q : SortKind → Shared → Prop, Q kd s' → wpAny (model prog w) A (keyKind' vs.toArray) Q E s')
  (hL : ∀ s' : Shared, (∀ b o, b ≠ a → s.heap.get? b = some o → s'.heap.get? b = some o) → ∀ x ∈ vs, ∀ y ∈ vs, ∀ (E : Value → Shared → Prop) (C : Bool → Shared → Prop), (∀ b, C b s') → wpAny (model prog w) A (keyLt' kd x y) C E s')
  (h : ∀ out : List Value, out.Perm vs → P (.done (.ret .none)) { s with heap := sortedHeap s.heap a vs out.toArray }) :
  wpAny (model prog w) A (Builtin.«list.sort» ⟨[.ref a], []⟩) P E s := by
 rw [list_sort_plain]
 have ha : a < s.heap.objs.size := Heap.lt_size ho
 refine wpAny_bind (listItems_at ho rfl ?_)
 refine wpAny_bind (listUpdate_at ho rfl ?_ (hsz := by rw [List.size_toArray]; exact hz) (hsz2 := by simp))
 obtain ⟨e1, ho1⟩ : ∃ e1, (s.heap.update a (Obj.mapSeq fun _ => #[])).get? a = some (seqObj "list" #[] e1) := ⟨_, get?_update_seq ho (fun _ => #[])⟩
 refine wpAny_bind (seqEpoch_at ho1 rfl ?_)
 refine wpAny_bind (wpAny_newTuple ?_ (by rw [List.toList_toArray]; exact hz))
 refine wpAny_bind (wpAny_newList ?_)
 refine wpAny_holding ?_
 have ho6 : (((s.heap.update a (Obj.mapSeq fun _ => #[])).push (seqObj "tuple" vs.toArray 0)).push (seqObj "list" #[] 0)).get? a = some (seqObj "list" #[] e1) := by
  rw [Heap.get?_push_ne _ _ _ (by rw [size_push', Heap.size_update]; exact Nat.ne_of_lt (Nat.lt_succ_of_lt ha)), Heap.get?_push_ne _ _ _ (by rw [Heap.size_update]; exact Nat.ne_of_lt ha)]
  exact ho1
 have hkeep : ∀ b o, b ≠ a → s.heap.get? b = some o → (((s.heap.update a (Obj.mapSeq fun _ => #[])).push (seqObj "tuple" vs.toArray 0)).push (seqObj "list" #[] 0)).get? b = some o := by
  intro b o hb e
  have hlt := Heap.lt_size e
  rw [Heap.get?_push_ne _ _ _ (by rw [size_push', Heap.size_update]; exact Nat.ne_of_lt (Nat.lt_succ_of_lt hlt)), Heap.get?_push_ne _ _ _ (by rw [Heap.size_update]; exact Nat.ne_of_lt hlt), Heap.get?_update_ne _ _ _ _ hb]
  exact e
 show wpAny (model prog w) A _ P E { s with heap := ((s.heap.update a (Obj.mapSeq fun _ => #[])).push (seqObj "tuple" vs.toArray 0)).push (seqObj "list" #[] 0) }
 dsimp only
 have fin : ∀ st' : SortSt, (arrOf st').Perm (pairsOf vs) → P (.done (.ret .none)) { s with heap := sortedHeap s.heap a vs ((arrOf st').map (·.2)) } := by
  intro st' hp
  have hl : (arrOf st').toList.Perm (vs.zip vs) := by rw [← pairsOf_toList]; exact Array.perm_iff_toList_perm.mp hp
  have e : ((arrOf st').map (·.2)) = ((arrOf st').toList.map (·.2)).toArray := by rw [← Array.toList_map, Array.toArray_toList]
  rw [e]
  refine h _ ?_
  have := hl.map (·.2)
  rwa [List.map_snd_zip (Nat.le_refl _)] at this
 by_cases h2 : vs.toArray.size < 2
 ·rw [if_pos h2, if_pos h2]
  refine wpAny_bind (wpAny_pure ?_)
  rw [StateT.run_pure]
  refine wpAny_bind (wpAny_pure ?_)
  dsimp only
  refine wpAny_bind (seqEpoch_at ho6 rfl ?_)
  refine wpAny_bind (listUpdate_at ho6 rfl ?_ (hsz2 := by rw [Array.size_map]; show (pairsOf vs).size ≤ _; rw [pairsOf_size]; exact Nat.le_succ_of_le hz))
  simp only [bne_self_eq_false, Bool.false_eq_true, if_false]
  exact wpAny_pure (fin (SortSt.mk' general' (vs.toArray.zip vs.toArray) #[] 7 none) (Array.Perm.refl _))
 ·rw [if_neg h2, if_neg h2]
  refine wpAny_bind (hkk (Nat.le_of_not_lt h2) _ hkeep _ ?_)
  refine wpAny_bind (wpAny_mono (sV (a₀ := pairsOf vs) (st := SortSt.mk' kd (vs.toArray.zip vs.toArray) #[] 7 none)
   (Q := fun _ st' => (arrOf st').Perm (pairsOf vs) ∧ failedOf st' = none) (uG (hL _ hkeep)) ⟨Array.Perm.refl _, rfl, rfl, rfl⟩ fun st' a1 a2 => ⟨a1, a2⟩) ?_ fun _ _ e => e)
  rintro ⟨⟨⟩, st'⟩ s' ⟨rfl, hp, hf⟩
  dsimp only
  refine wpAny_bind (seqEpoch_at ho6 rfl ?_)
  refine wpAny_bind (listUpdate_at ho6 rfl ?_ (hsz2 := by refine Nat.le_trans (Nat.le_of_eq ((Array.size_map ..).trans (hp.size_eq.trans (pairsOf_size _)))) ?_; exact Nat.le_succ_of_le hz))
  rw [hf]
  simp only [bne_self_eq_false, Bool.false_eq_true, if_false]
  exact wpAny_pure (fin st' hp)
end
end Mine
end
noncomputable section
namespace Mine
open PySem PyProof.Rows
theorem tw (t : SetTable) (es : Array (Int × Value)) (h : Int) (x : Value) : (layNew t es h x).2.1.led = t.led ∧ (t.plain = false → (layNew t es h x).2.1.plain = false) := by
 unfold layNew
 split
 ·dsimp only
  unfold SetTable.orStandIn
  split
  ·exact ⟨rfl, fun h => h⟩
  ·exact ⟨rfl, fun _ => rfl⟩
 ·exact ⟨rfl, fun _ => rfl⟩
theorem qk (t : SetTable) (es : Array (Int × Value)) (n : Nat) : (relayAll t es n).2.1.led = t.led ∧ (t.plain = false → (relayAll t es n).2.1.plain = false) := by
 unfold relayAll
 split
 ·rename_i t' order hr
  have h1 : t'.led = t.led ∧ t'.plain = t.plain := by
   unfold SetTable.relaid SetTable.laid at hr
   obtain ⟨ow, -, hr⟩ := Option.bind_eq_some_iff.mp hr
   cases hr
   exact ⟨rfl, rfl⟩
  dsimp only
  split
  ·exact ⟨h1.1, fun h => h1.2.trans h⟩
  ·exact ⟨rfl, fun _ => rfl⟩
 ·exact ⟨rfl, fun _ => rfl⟩
inductive SetX (prog : Program) (w : World) (h : Heap) (a : Addr) (led : Bool) (ks : List Str) : Prop
 | mk (o : Obj) (es : Array (Int × Value)) (ep : Nat) (t : SetTable) (_ : h.get? a = some o) (_ : o.ExactSet) (_ : o.data = .set es ep t) (_ : ElemsOf (PySem.strKind prog w) es.toList) (_ : es.size < scanBound) (_ : t.fits es.size = true) (_ : t.led = led) (_ : es.size ≠ 0 → t.plain = false)
   (_ : StrsAre (es.toList.map (·.2)) ks) (_ : ks.Nodup)
theorem gL {vs vs' : List Value} {ks : List Str} (h : StrsAre vs ks) (p : vs'.Perm vs) : ∃ ks', StrsAre vs' ks' ∧ ks'.Perm ks := by
 refine ⟨vs'.map strOf, strsAre_map vs' fun v hv => h.all v (p.mem_iff.mp hv), ?_⟩
 rw [← h.strs]
 exact p.map _
theorem re {vs us : List Value} {ks js : List Str} (h : StrsAre vs ks) (h' : StrsAre us js) : StrsAre (vs ++ us) (ks ++ js) := by
 induction h with
 | nil => exact h'
 | cons x t r ih => exact .cons x t ih
section
variable {prog : Program} {w : World} {A : Around} {E : Value → Shared → Prop} {s : Shared}
theorem rm (x : Str) (t : Tok) : (PySem.strKind prog w).is x (.str x t) = true := by
 show Value.isStrOf x (.str x t) = true
 simp [Value.isStrOf]
theorem vH {k : Str} {v : Value} (h : (PySem.strKind prog w).is k v = true) : ∃ t, v = .str k t := Value.isStrOf_shape h
theorem j4 {h : Heap} {a : Addr} {o : Obj} {es es' : Array (Int × Value)} {ep : Nat} {t t' : SetTable} {led : Bool} {ks : List Str} (ho : h.get? a = some o) (hex : o.ExactSet) (hd : o.data = .set es ep t)
  (hel : ElemsOf (PySem.strKind prog w) es'.toList) (hb : es'.size < scanBound) (hf : t'.fits es'.size = true) (hl : t'.led = led) (hp : t'.plain = false) (hS : StrsAre (es'.toList.map (·.2)) ks) (hn : ks.Nodup) :
  (h.update a (Obj.putSet es' t')).get? a = some { o with data := .set es' (ep + 1) t' } ∧ SetX prog w (h.update a (Obj.putSet es' t')) a led ks := by
 have hg : (h.update a (Obj.putSet es' t')).get? a = some { o with data := .set es' (ep + 1) t' } := by
  have := Heap.get?_update_self (Obj.putSet es' t') ho (by rw [putSet_of es' t' hd]; rfl)
  rw [putSet_of es' t' hd] at this; exact this
 exact ⟨hg, ⟨_, es', ep + 1, t', hg, hex, rfl, hel, hb, hf, hl, fun _ => hp, hS, hn⟩⟩
theorem ro {a : Addr} {led : Bool} {ks : List Str} {x : Str} {u : Tok} {Q : Bool → Shared → Prop} (hS : SetX prog w s.heap a led ks) (hroom : ks.length + 1 < scanBound)
  (h : ∀ h' ks', Heap.SameBut a s.heap h' → SetX prog w h' a led ks' → (∀ y, y ∈ ks' ↔ y = x ∨ y ∈ ks) → ks'.length ≤ ks.length + 1 → ∀ b, Q b { s with heap := h' }) :
  wpAny (model prog w) A (setAddHashed a (.str x u) ((PySem.strKind prog w).hash x)) Q E s := by
 obtain ⟨o, es, ep, t, ho, hex, hd, hel, hb, hf, hled, hpl, hks, hnd⟩ := hS
 have hsize : es.size = ks.length := by
  have h1 := congrArg List.length hks.strs
  simpa using h1
 have hkey := rm (prog := prog) (w := w) x u
 have hsc : (Value.str x u).scannable = true := rfl
 unfold setAddHashed setAddHashedIn
 refine wpAny_holding (wpAny_bind (wpAny_setState_of ho hd hf ?_))
 dsimp only
 rw [byScan_of hsc hb hel]
 simp only [↓reduceIte]
 unfold setAddByScan
 refine wpAny_bind ?_
 refine wpAny_bind (wpAny_rule ?_)
 refine wpAny_bind (wpAny_setScan_of hkey ho hd hf hel ?_)
 have hmem : (∃ e ∈ es.toList, (PySem.strKind prog w).is x e.2 = true) ↔ x ∈ ks := by
  rw [← hks.strs]
  constructor
  ·rintro ⟨e, he, hp⟩
   obtain ⟨t', e'⟩ := vH hp
   exact List.mem_map.mpr ⟨e.2, List.mem_map.mpr ⟨e, he, rfl⟩, by rw [e']; rfl⟩
  ·intro hx
   obtain ⟨v, hv, e1⟩ := List.mem_map.mp hx
   obtain ⟨e, he, rfl⟩ := List.mem_map.mp hv
   obtain ⟨y, t', e2⟩ := hks.all _ hv
   rw [e2] at e1
   have : y = x := e1
   subst this
   exact ⟨e, he, by rw [e2]; exact rm _ _⟩
 cases hr : List.findIdx? (fun e => (PySem.strKind prog w).is x e.2) es.toList with
 | some j =>
  dsimp only
  obtain ⟨hj, hpj, _⟩ := List.findIdx?_eq_some_iff_getElem.mp hr
  have hxk : x ∈ ks := hmem.mp ⟨es.toList[j], List.getElem_mem hj, hpj⟩
  refine wpAny_pure (wpAny_pure ?_)
  exact h s.heap ks (Heap.SameBut.refl a s.heap) ⟨o, es, ep, t, ho, hex, hd, hel, hb, hf, hled, hpl, hks, hnd⟩ (fun y => ⟨.inr, fun z => z.elim (fun z => z ▸ hxk) id⟩) (Nat.le_succ _) _
 | none =>
  dsimp only
  have hxk : x ∉ ks := fun hx => by
   obtain ⟨e, he, hp⟩ := hmem.mpr hx
   have := List.findIdx?_eq_none_iff.mp hr e he
   rw [hp] at this; exact Bool.noConfusion this
  have hperm := layNew_perm t es ((PySem.strKind prog w).hash x) (.str x u)
  have hfits := layNew_fits t es ((PySem.strKind prog w).hash x) (.str x u)
  have hlays := tw t es ((PySem.strKind prog w).hash x) (.str x u)
  generalize hL : layNew t es ((PySem.strKind prog w).hash x) (.str x u) = L at hperm hfits hlays ⊢
  obtain ⟨es1, t1, wasDummy, gave⟩ := L
  dsimp only at hperm hfits hlays ⊢
  rw [Array.toList_push] at hperm
  have hel1 : ElemsOf (PySem.strKind prog w) es1.toList := (hel.push hkey hsc).perm hperm
  have hsz1 : es1.size = ks.length + 1 := by rw [← Array.length_toList, hperm.length_eq, List.length_append, Array.length_toList, hsize]; rfl
  have hb1 : es1.size < scanBound := by exact tt fun hg => lN [(ks.length), scanBound, (es1.size)] 0x314241982520c61 rfl hroom (Nat.le_of_eq hsz1) hg
  have hp1 : (es1.toList.map (·.2)).Perm (es.toList.map (·.2) ++ [Value.str x u]) := by
   have := hperm.map (·.2)
   rwa [List.map_append] at this
  obtain ⟨ks1, hks1, hpk⟩ := gL (re hks (.cons x u .nil)) hp1
  have hmem1 : ∀ y, y ∈ ks1 ↔ y = x ∨ y ∈ ks := fun y => by
   rw [hpk.mem_iff, List.mem_append, List.mem_singleton]
   exact Or.comm
  have hnd1 : ks1.Nodup := by
   refine hpk.nodup_iff.mpr (List.nodup_append.mpr ⟨hnd, by simp, ?_⟩)
   intro y hy z hz
   rw [List.mem_singleton.mp hz]
   rintro rfl; exact hxk hy
  have hlen1 : ks1.length ≤ ks.length + 1 := by rw [hpk.length_eq, List.length_append]; exact Nat.le_refl _
  have fin : ∀ t2 : SetTable, t2.fits es1.size = true → t2.led = led → t2.plain = false →
    wpAny (model prog w) A (do
     storeSet a es1 t2
     if (!wasDummy && t2.tooFull) = true then do
       (match (relayAll t2 es1 (SetTable.grown es1.size)).2.2 with | true => rule "set.scan.the-table-gave-way" | false => pure () : Sem Unit)
       storeSet a (relayAll t2 es1 (SetTable.grown es1.size)).1 (relayAll t2 es1 (SetTable.grown es1.size)).2.1
       pure (some true)
      else pure (some true)) (fun r s' => wpAny (model prog w) A (match r with | some added => pure added | none => setAddHashedIn a (.str x u) ((PySem.strKind prog w).hash x) 99999) Q E s') E s := by
   intro t2 hf2 hl2 hpl2
   refine wpAny_bind (wpAny_storeSet_of ho hd ?_ (fits_of_scanBound hb1))
   obtain ⟨ho1, hS1⟩ := j4 (prog := prog) (w := w) ho hex hd hel1 hb1 hf2 hl2 hpl2 hks1 hnd1
   have hsb1 := Heap.SameBut.update s.heap a (Obj.putSet es1 t2)
   split
   ·have hp := relayAll_perm t2 es1 (SetTable.grown es1.size)
    have hfr := relayAll_fits t2 es1 (SetTable.grown es1.size)
    have hlr := qk t2 es1 (SetTable.grown es1.size)
    generalize hRl : relayAll t2 es1 (SetTable.grown es1.size) = Rl at hp hfr hlr ⊢
    obtain ⟨es2, t3, gave2⟩ := Rl
    dsimp only at hp hfr hlr ⊢
    have hel2 : ElemsOf (PySem.strKind prog w) es2.toList := hel1.perm hp
    have hsz : es2.size = es1.size := by rw [← Array.length_toList, hp.length_eq, Array.length_toList]
    have hb2 : es2.size < scanBound := by rw [hsz]; exact hb1
    obtain ⟨ks2, hks2, hpk2⟩ := gL hks1 (hp.map (·.2))
    have step2 : wpAny (model prog w) A (do
      storeSet a es2 t3
      pure (some true)) (fun r s' => wpAny (model prog w) A (match r with | some added => pure added | none => setAddHashedIn a (.str x u) ((PySem.strKind prog w).hash x) 99999) Q E s') E { s with heap := s.heap.update a (Obj.putSet es1 t2) } := by
     refine wpAny_bind (wpAny_storeSet_of ho1 rfl ?_ (fits_of_scanBound hb2))
     obtain ⟨_, hS2⟩ := j4 (prog := prog) (w := w) ho1 hex rfl hel2 hb2 hfr (hlr.1.trans hl2) (hlr.2 hpl2) hks2 (hpk2.nodup_iff.mpr hnd1)
     exact wpAny_pure (wpAny_pure (h _ ks2 (hsb1.trans (Heap.SameBut.update _ a _)) hS2 (fun y => hpk2.mem_iff.trans (hmem1 y)) (by rw [hpk2.length_eq]; exact hlen1) _))
    cases gave2
    ·exact wpAny_bind (wpAny_pure step2)
    ·exact wpAny_bind (wpAny_rule step2)
   ·exact wpAny_pure (wpAny_pure (h _ ks1 hsb1 hS1 hmem1 hlen1 _))
  have hgw : ∀ (b : Bool) {s₁ : Shared} {Q' : Unit → Shared → Prop}, Q' () s₁ → wpAny (model prog w) A (match b with | true => rule "set.scan.the-table-gave-way" | false => pure ()) Q' E s₁ :=
   fun b s₁ Q' hq => by cases b <;> first | exact wpAny_pure hq | exact wpAny_rule hq
  refine wpAny_bind (hgw _ ?_)
  by_cases hplain : t1.plain = true
  ·rw [if_pos hplain]
   refine wpAny_bind ?_
   rw [hashByValue_scannable 8 hsc]
   refine wpAny_pure ?_
   rw [show plainKind (Value.str x u) = false from rfl]
   simp only [Bool.false_eq_true, if_false]
   exact fin _ (SetTable.fits_plain_off hfits) (hlays.1.trans hled) rfl
  ·rw [if_neg hplain]
   refine wpAny_bind (wpAny_pure ?_)
   simp only [↓reduceIte]
   exact fin _ hfits (hlays.1.trans hled) (by simpa using hplain)
end
end Mine
end
noncomputable section
namespace Mine
open PySem PyProof.Rows
theorem SetX.at {prog : Program} {w : World} {h h' : Heap} {a : Addr} {led : Bool} {ks : List Str} (x : SetX prog w h a led ks) (k : ∀ o, h.get? a = some o → h'.get? a = some o) : SetX prog w h' a led ks :=
 let ⟨o, es, ep, t, ho, h1, h2, h3, h4, h5, h6, h7, h8, h9⟩ := x; ⟨o, es, ep, t, k o ho, h1, h2, h3, h4, h5, h6, h7, h8, h9⟩
theorem pv : ∀ {vs : List Value} {ks : List Str}, StrsAre vs ks → ∀ (i : Nat) (h : i < ks.length), ∃ t, vs[i]? = some (.str ks[i] t)
 | _, _, .cons x t r, 0, _ => ⟨t, rfl⟩
 | _, _, .cons x t r, i + 1, h => by
  obtain ⟨t', e⟩ := pv r i (by simpa using h)
  exact ⟨t', by simpa using e⟩
section
variable {prog : Program} {w : World} {E : Value → Shared → Prop}
theorem qh {A : Around} {l I S : Addr} {items : Array Value} {ss : List Str} {led : Bool} {R : Result → Shared → Prop} (hh : A.handled = none) (hIl : l ≠ I) (hSI : S ≠ I) (hSl : S ≠ l) (hss : StrsAre items.toList ss) (hb : ss.length + 1 < scanBound) :
  ∀ (k i : Nat) (s : Shared) (ks : List Str), items.size - i = k → i ≤ items.size → s.heap.IsListIter I l i → s.heap.IsList l items → SetX prog w s.heap S led ks → ks.length ≤ i → (∀ y, y ∈ ks ↔ y ∈ ss.take i) →
   (∀ h' tk ks', SetX prog w h' S led ks' → (∀ y, y ∈ ks' ↔ y ∈ ss) → (∀ b o, b ≠ S → b ≠ I → s.heap.get? b = some o → h'.get? b = some o) → R (.ok (.ret .none)) { s with heap := h', toks := tk }) →
   codeAny (model prog w) A (.builtin "set.update.loop" ⟨[.ref S, .ref I], []⟩) R s := by
 have hlen : items.size = ss.length := by have := congrArg List.length hss.strs; simpa using this
 intro k
 induction k with
 | zero =>
  intro i s ks hk hi st hl hS hle hmem hR
  have hin : i = items.size := Nat.le_antisymm hi (Nat.le_of_sub_eq_zero hk)
  refine codeAny_builtin F.entry_set_update_loop ?_
  rw [Around.under_plainId F.plain_set_update_loop _]
  show wpAny _ A.in1 (pyNext (.ref I) >>= _) _ _ s
  refine wpAny_bind (wpAny_pyNext_list_end (by show A.handled = _; exact hh) st hl (by simp; exact Nat.le_of_eq hin.symm) fun h' hx => ?_)
  show wpAny _ A.in1 (ret Value.none) _ _ _
  refine wpAny_pure (hR h' s.toks ks (hS.at fun o e => hx S o hSI e) (fun y => ?_) fun b o _ hbI e => hx b o hbI e)
  rw [hmem y, hin, hlen, List.take_length]
 | succ k ih =>
  intro i s ks hk hi st hl hS hle hmem hR
  have hlt : i < items.size := by exact tt fun hg => lN [(items.size), (items.size - i), k, i] 0x390243940129861 rfl (Nat.le_of_eq (Eq.symm hk)) (cU (dE fun hg => lN [(items.size), i] 0x1483090a1 rfl hi hg)) hg
  have hlt2 : i < ss.length := by exact Nat.lt_of_lt_of_eq hlt hlen
  obtain ⟨t, et⟩ := pv hss i hlt2
  refine codeAny_builtin F.entry_set_update_loop ?_
  rw [Around.under_plainId F.plain_set_update_loop _]
  show wpAny _ A.in1 (pyNext (.ref I) >>= _) _ _ s
  refine wpAny_bind (wpAny_pyNext_list_item st hl (x := .str ss[i] t) (by rw [← Array.getElem?_toList]; exact et) fun h' st' hs' => ?_)
  have hS' := hS.at (h' := h') fun o e => hs'.extBut S o hSI e
  have hl' : h'.IsList l items := hl.extBut hs'.extBut hIl
  show wpAny _ A.in1 (holding [Value.str ss[i] t] (setAdd S (.str ss[i] t)) >>= _) _ _ _
  refine wpAny_bind (wpAny_holding ?_)
  unfold setAdd
  refine wpAny_holding ?_
  refine wpAny_bind ((PySem.strKind prog w).pyHash (k := ss[i]) (rm _ _) ?_)
  refine ro (s := { s with heap := h', toks := s.toks + 1 }) hS' (by exact tt fun hg => lN [(ss.length), scanBound, (items.size), i, (ks.length)] 0x2065098e309d012182520c61 rfl hb (Nat.le_of_eq hlen) hle hlt hg) fun h'' ks' hsb hS2 hm2 hl2 b => ?_
  have keep : ∀ b o, b ≠ S → b ≠ I → s.heap.get? b = some o → h''.get? b = some o := fun b o h1 h2 e => hsb.extBut b o h1 (hs'.extBut b o h2 e)
  refine wpAny_pure ⟨plainId_quiet F.plain_set_update_loop _, ih (i + 1) _ ks' (by rw [Nat.sub_add_eq, hk]; rfl) hlt (st'.at fun o e => hsb.extBut I o (Ne.symm hSI) e) (hl'.extBut hsb.extBut (Ne.symm hSl)) hS2 (by exact dE fun hg => lN [i, (ks.length), (ks'.length)] 0x3106309466090a1 rfl hle hl2 hg) (fun y => ?_) fun h3 tk ks3 a1 a2 a3 => ?_⟩
  ·rw [hm2 y, List.take_add_one, List.getElem?_eq_getElem hlt2, List.mem_append, hmem y]
   simp only [Option.toList_some, List.mem_singleton]
   exact Or.comm
  ·exact hR h3 tk ks3 a1 a2 fun b o h1 h2 e => a3 b o h1 h2 (keep b o h1 h2 e)
theorem rn {A : Around} {s : Shared} (a : Value) {Q₁ : Value → Shared → Prop}
  (h : Q₁ (.ref s.heap.objs.size) { s with heap := s.heap.push { cls := .type "set", dict := none, data := .set #[] 0 (.fresh 0 0 (!w.params.followText "set-order")) } }) :
  codeAny (model prog w) A (.call (.builtin "set.__new__") ⟨[.type "set", a], []⟩) (wants Q₁ E) s := by
 refine codeAny_of_tree ?_
 show wpAny _ A.in1 (do checkBuiltinCall "set.__new__" ⟨[.type "set", a], []⟩; again (.builtin "set.__new__" ⟨[.type "set", a], []⟩)) _ _ s
 refine wpAny_bind (wpAny_of_eq (PySem.F.newCall_set_1 a) (wpAny_pure ⟨plainId_quiet PySem.F.plain_set_new _, codeAny_builtin PySem.F.entry_set_new ?_⟩))
 rw [Around.under_plainId PySem.F.plain_set_new _]
 unfold Builtin.«set.__new__» Builtin.Frozenset.newClass
 have hsub := sub_set_self
 obtain ⟨hp, g, d, tk, os⟩ := s
 dsimp only
 wp_walk
 refine wpAny_askSetting (wpAny_pure ?_)
 dsimp only
 simp only [newObj]
 refine wpAny_bind (wpAny_alloc (wpAny_pure ?_))
 exact wpAny_pure h
set_option maxRecDepth 100000 in
set_option maxHeartbeats 3200000 in
theorem qN {A : Around} {s : Shared} {l : Addr} {items : Array Value} {ss : List Str} {Q : Value → Shared → Prop} (hh : A.handled = none) (hl : s.heap.IsList l items) (hss : StrsAre items.toList ss) (hb : ss.length + 1 < scanBound)
  (h : ∀ (h' : Heap) (tk : Nat) (ks : List Str), SetX prog w h' s.heap.objs.size (!w.params.followText "set-order") ks → (∀ y, y ∈ ks ↔ y ∈ ss) →
   (∀ b o, s.heap.get? b = some o → h'.get? b = some o) → Q (.ref s.heap.objs.size) { s with heap := h', toks := tk }) :
  wpAny (model prog w) A (call (.type "set") [.ref l]) Q E s := by
 obtain ⟨c, tl, hmro⟩ := PySem.F.called_set.mro
 have hmade := PySem.F.called_set.made
 have hsub := PySem.F.called_set.sub
 refine wpAny_call (codeAny_of_tree ?_)
 show wpAny _ _ (callAny (.type "set") _) _ _ _
 refine wpAny_pure ⟨Code.quiet_builtin _ (by decide +kernel), codeAny_builtin PySem.F.entry_type_call ?_⟩
 rw [Around.under_plain (weight_type_call_type "set" [.ref l] []) rfl]
 have h1 := PySem.F.called_set.notType
 have h2 := PySem.F.called_set.canCreate
 have hct := PySem.F.typeCall_set_1 (.ref l)
 repeat (any_goals (first | assumption | wp_step))
 generalize hled : (!w.params.followText "set-order") = led at h
 refine codeAny_mono (rn (.ref l) (E := E) (Q₁ := fun obj s₁ => obj = .ref s.heap.objs.size ∧ s₁ = { s with heap := s.heap.push { cls := .type "set", dict := none, data := .set #[] 0 (.fresh 0 0 led) } }) ⟨rfl, by rw [hled]⟩) fun r s₁ hr => ?_
 cases r with
 | error e => exact hr
 | ok fl =>
  cases fl with
  | ret obj =>
   obtain ⟨rfl, rfl⟩ := hr
   have hS : (s.heap.push { cls := .type "set", dict := none, data := .set #[] 0 (.fresh 0 0 led) }).get? s.heap.objs.size = some { cls := .type "set", dict := none, data := .set #[] 0 (.fresh 0 0 led) } := Heap.get?_push_size _ rfl
   have hT : Shared.TypeIs { s with heap := s.heap.push { cls := .type "set", dict := none, data := .set #[] 0 (.fresh 0 0 led) } } (.ref s.heap.objs.size) "set" := ⟨_, hS, rfl⟩
   have hli := PySem.F.called_set.init.lookup
   have hbi := PySem.F.called_set.init.bind (.ref s.heap.objs.size)
   repeat (any_goals (first | assumption | wp_step))
   refine codeAny_mono (codeAny_call_builtin (R := wants (fun r s₂ => r = .none ∧ ∃ h' tk ks, s₂ = { s with heap := h', toks := tk } ∧ SetX prog w h' s.heap.objs.size led ks ∧ (∀ y, y ∈ ks ↔ y ∈ ss) ∧
     (∀ b o, s.heap.get? b = some o → h'.get? b = some o)) E) PySem.F.called_set.init.plain PySem.F.entry_set_init (check_set_init_1 hT ?_)) fun r₂ s₂ hr₂ => ?_
   ·obtain ⟨ol, hol, hcl, nl, hdl⟩ := hl
    obtain ⟨ocls, odict, odata, oslots⟩ := ol
    simp only at hcl hdl
    subst hcl; subst hdl
    have hol' : (s.heap.push { cls := .type "set", dict := none, data := .set #[] 0 (.fresh 0 0 led) }).get? l = some { cls := .type "list", dict := odict, data := .seq items nl, slots := oslots } := Heap.get?_push_of_some _ hol
    have hsls := PySem.F.sub_list_set
    have hslf := PySem.F.sub_list_frozenset
    have hne : (Value.type "list" == Value.type "dict") = false := by decide
    have hl1 : (s.heap.push { cls := .type "set", dict := none, data := .set #[] 0 (.fresh 0 0 led) }).IsList l items := ⟨_, hol', rfl, nl, rfl⟩
    unfold Builtin.«set.__init__» noKeywords Builtin.Frozenset.updateFrom
    generalize hPI : pyIter = PI
    wp_walk
    subst hPI
    refine wpAny_pyIter_list hl1 ?_
    refine wpAny_bind (wpAny_runValue ?_)
    have hlS : l < s.heap.objs.size := Heap.lt_size hol
    have hh3 : A.in1.in1.in1.handled = none := by simp [hh]
    have hneI : l ≠ (s.heap.push { cls := .type "set", dict := none, data := .set #[] 0 (.fresh 0 0 led) }).objs.size := by
     rw [Heap.size_push]; exact Nat.ne_of_lt (Nat.lt_succ_of_lt hlS)
    have hSI : s.heap.objs.size ≠ (s.heap.push { cls := .type "set", dict := none, data := .set #[] 0 (.fresh 0 0 led) }).objs.size := by
     rw [Heap.size_push]; exact Nat.ne_of_lt (Nat.lt_succ_self _)
    refine qh (led := led) (by show A.handled = _; exact hh) hneI hSI (Nat.ne_of_gt hlS) hss hb (items.size - 0) 0 _ [] (by exact rfl) (Nat.zero_le _) ⟨_, Heap.get?_push_size _ rfl, rfl, rfl⟩ (hl1.push _)
     ⟨_, #[], 0, _, Heap.get?_push_of_some _ hS, ⟨rfl, rfl, rfl⟩, rfl, fun e he => by simp at he, by decide, by rfl, rfl, fun z => absurd rfl z, .nil, List.nodup_nil⟩ (Nat.le_refl _) (fun y => by simp) fun h' tk ks a1 a2 a3 => ?_
    show wpAny _ _ _ _ _ _
    refine wpAny_pure ?_
    show wpAny _ _ (ret Value.none) _ _ _
    refine wpAny_pure ⟨rfl, h', tk, ks, rfl, a1, a2, fun b o e => ?_⟩
    have hb0 := Heap.lt_size e
    exact a3 b o (Nat.ne_of_lt hb0) (by rw [Heap.size_push]; exact Nat.ne_of_lt (Nat.lt_succ_of_lt hb0)) (Heap.get?_push_of_some _ (Heap.get?_push_of_some _ e))
   ·cases r₂ with
    | error e => exact hr₂
    | ok fl₂ =>
     cases fl₂ with
     | ret r =>
      obtain ⟨rfl, h', tk, ks, rfl, a1, a2, a3⟩ := hr₂
      repeat (any_goals (first | assumption | wp_step))
      exact h _ _ ks a1 a2 a3
     | _ => exact hr₂.elim
  | _ => exact hr.elim
end
end Mine
end
noncomputable section
namespace Mine
open PySem PyProof.Rows
theorem bP : Slot "set_iterator" "__next__" "set_iterator.__next__" :=
 .of (owner := "set_iterator") (n := "__next__") (by rw [typeLookup_type, builtinLookup_eq_fast]; kernel_rfl) (by decide +kernel) (by decide +kernel) (by decide +kernel)
  (by first | exact .inl (by decide +kernel) | exact .inr (by decide +kernel)) (by rw [isSubtype_type]; kernel_rfl)
theorem fL : Slot "set_iterator" "__iter__" "set_iterator.__iter__" :=
 .of (owner := "set_iterator") (n := "__iter__") (by rw [typeLookup_type, builtinLookup_eq_fast]; kernel_rfl) (by decide +kernel) (by decide +kernel) (by decide +kernel)
  (by first | exact .inl (by decide +kernel) | exact .inr (by decide +kernel)) (by rw [isSubtype_type]; kernel_rfl)
theorem eQ : entryFor table "set_iterator.__next__" = some Builtin.«set_iterator.__next__» := entryFor_of_tree (by kernel_rfl)
theorem fM (a : Value) : argsOk "set_iterator.__next__" ⟨[a], []⟩ := by unfold argsOk; kernel_rfl
theorem jI (a : Value) : argsOk "set_iterator.__iter__" ⟨[a], []⟩ := by unfold argsOk; kernel_rfl
theorem kC : entryFor table "set.__iter__" = some Builtin.«frozenset.__iter__» :=
 entryFor_alias (id' := "frozenset.__iter__") (by kernel_rfl) rfl (by decide +kernel) (by kernel_rfl)
theorem jj : entryFor table "set_iterator.__iter__" = some Builtin.«dict_keyiterator.__iter__» :=
 entryFor_alias (id' := "dict_keyiterator.__iter__") (by kernel_rfl) rfl (by decide +kernel) (by kernel_rfl)
theorem im {α : Type} {x : α} : ∀ {l : List α} {i : Nat}, l[i]? = some x → (x :: l.eraseIdx i).Perm l
 | [], i, h => by simp at h
 | a :: l, 0, h => by simp at h; subst h; exact List.Perm.refl _
 | a :: l, i + 1, h => by
  rw [List.eraseIdx_cons_succ]
  exact (List.Perm.swap _ _ _).trans ((im (by simpa using h)).cons a)
theorem pC {α : Type} (next : Nat → Nat) : ∀ (n k : Nat) (left : List α) (out : Array α), left.length = n → (pickOrder.go next n k left out).toList.Perm (out.toList ++ left)
 | 0, k, left, out, h => by
  have : left = [] := List.length_eq_zero_iff.mp h
  subst this
  simp [pickOrder.go]
 | n + 1, k, left, out, h => by
  have hlt : next k % left.length < left.length := Nat.mod_lt _ (by exact tt fun hg => lN [(left.length), n] 0x48121461 rfl (Nat.le_of_eq (Eq.symm h)) hg)
  unfold pickOrder.go
  rw [List.getElem?_eq_getElem hlt]
  dsimp only
  refine (pC next n (k + 1) _ _ (by rw [List.length_eraseIdx_of_lt hlt]; exact Nat.le_antisymm (dE fun hg => lN [(left.length), n, (left.length - 1)] 0x314612186128c81 rfl (Nat.le_of_eq h) (cU (dE fun hg => lN [(left.length), n] 0x210906121461 rfl (Nat.le_of_eq (Eq.symm h)) hg)) hg) (dE fun hg => lN [(left.length), n, (left.length - 1)] 0x2986130c8121461 rfl (Nat.le_of_eq (Eq.symm h)) (dO (left.length) (1)) hg))).trans ?_
  rw [Array.toList_push, List.append_assoc]
  exact List.Perm.append_left _ (im (List.getElem?_eq_getElem hlt))
theorem qo {α : Type} (next : Nat → Nat) (xs : Array α) : (pickOrder next xs).toList.Perm xs.toList := by
 have := pC next xs.size 0 xs.toList #[] (by simp)
 simpa [pickOrder] using this
section
variable {prog : Program} {w : World} {A : Around} {E : Value → Shared → Prop}
theorem mX {s : Shared} {src : Source} {n : Nat} {Q : Nat → Shared → Prop} (hn : n ≠ 0) (h : ∀ i d, i < n → Q i { s with drawn := d }) : wpAny (model prog w) A (choose src n) Q E s :=
 fun _ _ _ => ⟨hn, h _ _ (Nat.mod_lt _ (Nat.pos_of_ne_zero hn))⟩
theorem fK {α : Type} : ∀ (n : Nat) (xs : List α) {s : Shared} {Q : List α → Shared → Prop}, xs.length = n → (∀ ys d, ys.Perm xs → Q ys { s with drawn := d }) → wpAny (model prog w) A (drawOrder n xs) Q E s
 | 0, xs, s, Q, hl, h => by
  have : xs = [] := List.length_eq_zero_iff.mp hl
  subst this
  exact wpAny_pure (h [] s.drawn (List.Perm.refl _))
 | n + 1, xs, s, Q, hl, h => by
  match xs, hl with
  | x :: xs, hl =>
   show wpAny _ A (choose .order (x :: xs).length >>= _) _ _ s
   refine wpAny_bind (mX (by simp) fun i d hi => ?_)
   rw [List.getElem?_eq_getElem hi]
   dsimp only
   refine wpAny_bind (fK n ((x :: xs).eraseIdx i) (by rw [List.length_eraseIdx_of_lt hi]; simp at hl ⊢; exact hl) fun ys d' hp => wpAny_pure ?_)
   exact h _ d' ((hp.cons _).trans (im (List.getElem?_eq_getElem hi)))
end
end Mine
end
noncomputable section
namespace Mine
open PySem PyProof.Rows
inductive SetM (w : World) (a : Addr) (es : Array (Int × Value)) (ep : Nat) (t : SetTable) (i : Nat) (h : Heap) : List Value → Option Addr → Value → Prop
 | txt (_ : w.params.followText "set-order" = true) (f : Int) : SetM w a es ep t i h ((pickOrder (w.params.setOrder a ep) es).toList.map (·.2)) none (.int f 0)
 | drw (_ : w.params.followText "set-order" = false) (b : Addr) (order : List Nat) (o : Obj) (n : Nat) (_ : h.get? b = some o) (_ : o.data = .seq (order.map fun (j : Nat) => rawInt j).toArray n) (_ : ∀ j ∈ order, j < es.size) : SetM w a es ep t i h (order.filterMap fun j => es[j]?.map (·.2)) (some b) (.ref b)
 | one (_ : w.params.followText "set-order" = false) (_ : t.led = true) (_ : es.size ≤ 1) (slot : Nat) (_ : SetTable.below t.place slot = i) : SetM w a es ep t i h (es.toList.map (·.2)) none (.int slot 0)
inductive SetSt (w : World) (I a : Addr) (es : Array (Int × Value)) (ep : Nat) (t : SetTable) (vs : List Value) (tup : Option Addr) (i : Nat) (h : Heap) : Prop
 | mk (oa : Obj) (_ : h.get? a = some oa) (_ : oa.cls = .type "set") (_ : oa.data = .set es ep t) (o : Obj) (first : Value) (_ : h.get? I = some o) (_ : o.cls = .type "set_iterator") (_ : o.data = .fields #[first, .int i 0, .ref a, .int es.size 0, .int ep 0])
   (_ : SetM w a es ep t i h vs tup first)
theorem pd (xs : Array Nat) (h : xs.size ≤ 1) : SetTable.below xs 0 = 0 := by
 unfold SetTable.below
 match hs : xs.size, h with
 | 0, _ => rfl
 | 1, _ =>
  unfold SetTable.below.go
  simp
  unfold SetTable.below.go
  rfl
theorem qO (xs : Array Nat) (j : Nat) (hs : xs.size = 1) (h : xs[0]? = some j) : SetTable.below xs (j + 1) = 1 := by
 unfold SetTable.below
 rw [hs]
 unfold SetTable.below.go
 have : xs.getD 0 (j + 1) = j := by rw [Array.getD_eq_getD_getElem?, h]; rfl
 simp [this]
 unfold SetTable.below.go
 rfl
end Mine
end
noncomputable section
namespace Mine
open PySem PyProof.Rows
section
variable {prog : Program} {w : World} {A : Around} {E : Value → Shared → Prop}
theorem jl {s : Shared} {Q : Bool → Shared → Prop} (h : Q (w.params.followText "set-order") s) : wpAny (model prog w) A setsByText Q E s := by
 unfold setsByText
 exact wpAny_bind (wpAny_askSetting (wpAny_pure h))
theorem fo {s : Shared} {a : Addr} {o : Obj} {es : Array (Int × Value)} {ep : Nat} {t : SetTable} {slot i : Nat} {Q : Option (Value × Nat) → Shared → Prop} (ho : s.heap.get? a = some o) (hd : o.data = .set es ep t) (hf : t.fits es.size = true)
  (hm : w.params.followText "set-order" = true ∨ (t.led = true ∧ es.size ≤ 1))
  (h1 : w.params.followText "set-order" = true → Q (((pickOrder (w.params.setOrder a ep) es)[i]?).map fun e => (e.2, slot)) s)
  (h2 : w.params.followText "set-order" = false → Q (match es[SetTable.below t.place slot]?, t.place[SetTable.below t.place slot]? with | some (_, x), some j => some (x, j + 1) | _, _ => none) s) :
  wpAny (model prog w) A (setNext a slot i ep) Q E s := by
 unfold setNext
 refine wpAny_bind (wpAny_setState_of ho hd hf ?_)
 dsimp only
 refine wpAny_bind (jl ?_)
 cases hb : w.params.followText "set-order" with
 | true =>
  simp only [if_true]
  rw [if_neg (by simp)]
  refine wpAny_bind ?_
  unfold setWalk
  refine wpAny_bind (wpAny_setState_of ho hd hf ?_)
  dsimp only
  refine wpAny_bind (jl ?_)
  rw [hb]
  simp only [if_true]
  refine wpAny_bind (wpAny_askSetting (wpAny_pure (wpAny_pure ?_)))
  exact h1 hb
 | false =>
  have hm' := hm.resolve_left (by rw [hb]; simp)
  simp only [Bool.false_eq_true, if_false]
  refine wpAny_ite_split (fun hd => ?_) fun _ => ?_
  ·exfalso
   have hd' : (!t.plain && decide (es.size > 1)) = true := hd
   rw [Bool.and_eq_true, decide_eq_true_eq] at hd'
   exact False.elim (lN [(es.size)] 0x102108c2108481 rfl (hm').2 (hd').2)
  refine wpAny_bind (m := _) (Q := _) ?_
  refine wpAny_ite_split (fun hl => ?_) fun _ => ?_
  ·exfalso
   rw [hm'.1] at hl
   simp at hl
  refine wpAny_pure (wpAny_pure ?_)
  exact h2 hb
theorem oN {s : Shared} {I a : Addr} {es : Array (Int × Value)} {ep : Nat} {t : SetTable} {vs : List Value} {tup : Option Addr} {i : Nat} {v : Value} {Q : Option Value → Shared → Prop} (hIa : a ≠ I) (hIt : ∀ b, tup = some b → b ≠ I) (hf : t.fits es.size = true) (st : SetSt w I a es ep t vs tup i s.heap) (hv : vs[i]? = some v)
  (hQ : ∀ h', Heap.SameBut I s.heap h' → SetSt w I a es ep t vs tup (i + 1) h' → Q (some v) { s with heap := h' }) : wpAny (model prog w) A (pyNext (.ref I)) Q E s := by
 obtain ⟨oa, hoa, hca, hda, oI, first, hoI, hcI, hdI, hm⟩ := st
 have hT : s.TypeIs (.ref I) "set_iterator" := ⟨oI, hoI, hcI⟩
 have hc1 : ((i : Int) + 1) = ((i + 1 : Nat) : Int) := by push_cast; rfl
 unfold pyNext
 refine wpAny_bind (wpAny_attempt (wpAny_callSpecial?_slot (name := Str.ofString "__next__") hT bP (wpAny_call_entry bP hT eQ ?_ (fM _))))
 refine wpAny_bind (wpAny_pure ?_)
 refine wpAny_bind (wpAny_fieldsOf hoI hdI ?_)
 dsimp only
 refine wpAny_bind (wpAny_bind (wpAny_setState_of hoa hda hf (wpAny_pure ?_)))
 dsimp only
 rw [if_neg (by simp)]
 have tW : ∀ (n : Nat),
   (∀ h' o', Heap.SameBut I s.heap h' → h'.get? I = some o' → o'.cls = .type "set_iterator" → o'.data = .fields #[.int n 0, .int (i + 1 : Nat) 0, .ref a, .int es.size 0, .int ep 0] → Q (some v) { s with heap := h' }) →
   wpAny (model prog w) A.in1 (do
     setField (Value.ref I) 0 (rawInt n)
     setField (Value.ref I) 1 (rawInt ((i : Int) + 1))
     ret v) (fun fin s' => ∃ v, fin = Fin.done (Flow.ret v) ∧ wpAny (model prog w) A (pure (some v)) Q E s')
    (fun e s' => wpAny (model prog w) A (do
     let b ← isInstance e (Value.type "StopIteration")
     if b = true then pure none else throw e) Q E s') s := by
  intro n hP
  refine wpAny_bind (wpAny_setField hoI hdI (by simp) ?_)
  have d1 := Obj.data_mapFields hdI (·.setIfInBounds 0 (rawInt (n : Int)))
  have g1 := Heap.get?_update_self (Obj.mapFields (·.setIfInBounds 0 (rawInt (n : Int)))) hoI (Obj.isFreed_of_fields d1)
  refine wpAny_bind (wpAny_setField (s := { s with heap := _ }) g1 d1 (by simp) ?_)
  have d2 := Obj.data_mapFields d1 (·.setIfInBounds 1 (rawInt ((i : Int) + 1)))
  have g2 := Heap.get?_update_self (Obj.mapFields (·.setIfInBounds 1 (rawInt ((i : Int) + 1)))) g1 (Obj.isFreed_of_fields d2)
  refine wpAny_pure ⟨_, rfl, wpAny_pure (hP _ _ ((Heap.SameBut.update ..).trans (Heap.SameBut.update ..)) g2 ?_ ?_)⟩
  ·rw [Obj.cls_mapFields, Obj.cls_mapFields]; exact hcI
  ·rw [d2, hc1]; rfl
 have keepA : ∀ h', Heap.SameBut I s.heap h' → h'.get? a = some oa := fun h' hs => hs.extBut a oa hIa hoa
 rcases hm with ⟨hb, f⟩ | ⟨hb, b, order, ob, n, hob, hdb, hlt⟩ | ⟨hb, hled, hsz, slot, hsl⟩
 ·dsimp only
  refine wpAny_bind (fo hoa hda hf (.inl hb) (fun _ => ?_) fun z => by rw [hb] at z; cases z)
  have hi : (pickOrder (w.params.setOrder a ep) es)[i]? = some ((pickOrder (w.params.setOrder a ep) es)[i]?.getD (0, .none)) := by
   rw [List.getElem?_map, Array.getElem?_toList] at hv
   obtain ⟨e, he, _⟩ := Option.map_eq_some_iff.mp hv
   rw [he]; rfl
  have hve : ((pickOrder (w.params.setOrder a ep) es)[i]?.getD (0, .none)).2 = v := by
   rw [List.getElem?_map, Array.getElem?_toList, hi] at hv
   exact Option.some.inj hv
  simp only [Int.toNat_natCast]
  rw [hi]
  simp only [Option.map_some]
  rw [hve]
  refine tW _ fun h' o' hs g c d => hQ h' hs ⟨oa, keepA h' hs, hca, hda, o', _, g, c, d, .txt hb _⟩
 ·dsimp only
  refine wpAny_bind (wpAny_seqItems hob hdb ?_)
  dsimp only
  have hil : i < order.length := by
   have h1 := (List.getElem?_eq_some_iff.mp hv).1
   exact Nat.lt_of_lt_of_le h1 (List.length_filterMap_le (fun j => es[j]?.map (·.2)) order)
  have hall : (order.filterMap fun j => es[j]?.map (·.2)) = order.map fun j => (es[j]?.map (·.2)).getD .none := by
   clear hv hil hob hdb hdI hQ tW
   induction order with
   | nil => rfl
   | cons j r ih =>
    have hj := hlt j (List.mem_cons_self ..)
    rw [List.filterMap_cons, List.map_cons, ih fun k hk => hlt k (List.mem_cons_of_mem _ hk), getElem?_pos es j hj]
    rfl
  have hj : order[i] < es.size := hlt _ (List.getElem_mem hil)
  have hve : es[order[i]].2 = v := by
   rw [hall, List.getElem?_map, List.getElem?_eq_getElem hil, Option.map_some, getElem?_pos es _ hj] at hv
   exact Option.some.inj hv
  have hpl : (((order.map fun (j : Nat) => rawInt j).toArray)[((i : Nat) : Int).toNat]?) = some (.int order[i] 0) := by
   simp [hil, rawInt]
  rw [hpl]
  dsimp only
  refine wpAny_bind ?_
  unfold setNextDrawn
  refine wpAny_bind (wpAny_setState_of hoa hda hf ?_)
  dsimp only
  rw [if_neg (by simp), Int.toNat_natCast, getElem?_pos es _ hj]
  dsimp only
  refine wpAny_pure ?_
  refine wpAny_bind (wpAny_setField hoI hdI (by simp) ?_)
  have d1 := Obj.data_mapFields hdI (·.setIfInBounds 1 (rawInt ((i : Int) + 1)))
  have g1 := Heap.get?_update_self (Obj.mapFields (·.setIfInBounds 1 (rawInt ((i : Int) + 1)))) hoI (Obj.isFreed_of_fields d1)
  rw [hve]
  refine wpAny_pure ⟨_, rfl, wpAny_pure (hQ _ (Heap.SameBut.update ..) ⟨oa, keepA _ (Heap.SameBut.update ..), hca, hda, _, _, g1, ?_, ?_, .drw hb b order ob n ((Heap.SameBut.update s.heap I _).extBut b ob (hIt b rfl) hob) hdb hlt⟩)⟩
  ·rw [Obj.cls_mapFields]; exact hcI
  ·rw [d1, hc1]; rfl
 ·dsimp only
  refine wpAny_bind (fo hoa hda hf (.inr ⟨hled, hsz⟩) (fun z => by rw [hb] at z; cases z) fun _ => ?_)
  simp only [Int.toNat_natCast, hsl]
  have hi0 : i < es.size := by
   have h1 := (List.getElem?_eq_some_iff.mp hv).1
   simpa using h1
  have hi1 : i = 0 := by exact Nat.le_antisymm (dE fun hg => lN [(es.size), i] 0xa008c2428c2108481 rfl hsz hi0 hg) (dE fun hg => lN [(SetTable.below t.place slot), i] 0x4a309481 rfl (Nat.le_of_eq hsl) hg)
  subst hi1
  have hps : t.place.size = es.size := by
   simp only [SetTable.fits, Bool.and_eq_true, beq_iff_eq] at hf
   exact hf.1
  rw [getElem?_pos es 0 hi0, getElem?_pos t.place 0 (by exact Nat.le_trans hi0 (Nat.le_of_eq hps.symm))]
  have hve : es[0].2 = v := by
   rw [List.getElem?_map, Array.getElem?_toList, getElem?_pos es 0 hi0] at hv
   exact Option.some.inj hv
  dsimp only
  rw [hve]
  refine tW (t.place[0] + 1) fun h' o' hs g c d => hQ h' hs ⟨oa, keepA h' hs, hca, hda, o', _, g, c, d, .one hb hled hsz _ (qO _ _ (by exact Nat.le_antisymm (dE fun hg => lN [(es.size), (t.place.size)] 0xa1084612142108481 rfl hsz (Nat.le_of_eq hps) hg) (dE fun hg => lN [(es.size), (t.place.size)] 0x21094612902400461 rfl hi0 (Nat.le_of_eq (Eq.symm hps)) hg)) (getElem?_pos t.place 0 (by exact Nat.le_trans hi0 (Nat.le_of_eq hps.symm))))⟩
end
end Mine
end
noncomputable section
namespace Mine
open PySem PySem.W PyProof.Rows
section
variable {prog : Program} {w : World} {A : Around} {E : Value → Shared → Prop}
theorem i8 {s : Shared} {Q : Option Value → Shared → Prop} {P : Fin → Shared → Prop} (hh : A.handled = none) (h : ∀ h', (∀ b o, s.heap.get? b = some o → h'.get? b = some o) → Q none { s with heap := h' }) :
  wpAny (model prog w) A.in1 (do
    let e ← newExc (Value.type "StopIteration") []
    raiseNew e) P (fun e s' => wpAny (model prog w) A (do
     let b ← isInstance e (Value.type "StopIteration")
     if b = true then pure none else throw e) Q E s') s := by
 refine wpAny_bind ?_
 simp only [newExc, newTuple]
 refine wpAny_bind (wpAny_newObj_type ?_ (by size_fits))
 refine wpAny_bind (m := firstArgMember _ _) (wpAny_of_eq (a := Value.none) (by first | rfl | (simp only [firstArgMember]; rfl)) ?_)
 refine wpAny_newObj_type ?_ (by size_fits)
 simp only [raiseNew]
 refine wpAny_bind (wpAny_handled ?_)
 rw [show A.in1.handled = none from hh]
 refine wpAny_bind (wpAny_pure (wpAny_throw ?_))
 refine wpAny_bind (wpAny_isInstance (T := "StopIteration") (b := true) ⟨_, Heap.get?_push_size _ rfl, rfl⟩ isSubtype_stop ?_)
 exact wpAny_pure (h _ fun b o e => Heap.get?_push_of_some _ (Heap.get?_push_of_some _ e))
theorem qg {s : Shared} {I a : Addr} {es : Array (Int × Value)} {ep : Nat} {t : SetTable} {vs : List Value} {tup : Option Addr} {Q : Option Value → Shared → Prop} (hh : A.handled = none) (hf : t.fits es.size = true) (st : SetSt w I a es ep t vs tup vs.length s.heap)
  (hQ : ∀ h', Heap.ExtBut I s.heap h' → Q none { s with heap := h' }) : wpAny (model prog w) A (pyNext (.ref I)) Q E s := by
 obtain ⟨oa, hoa, hca, hda, oI, first, hoI, hcI, hdI, hm⟩ := st
 have hT : s.TypeIs (.ref I) "set_iterator" := ⟨oI, hoI, hcI⟩
 unfold pyNext
 refine wpAny_bind (wpAny_attempt (wpAny_callSpecial?_slot (name := Str.ofString "__next__") hT bP (wpAny_call_entry bP hT eQ ?_ (fM _))))
 refine wpAny_bind (wpAny_pure ?_)
 refine wpAny_bind (wpAny_fieldsOf hoI hdI ?_)
 dsimp only
 refine wpAny_bind (wpAny_bind (wpAny_setState_of hoa hda hf (wpAny_pure ?_)))
 dsimp only
 rw [if_neg (by simp)]
 rcases hm with ⟨hb, f⟩ | ⟨hb, b, order, ob, n, hob, hdb, hlt⟩ | ⟨hb, hled, hsz, slot, hsl⟩
 ·dsimp only
  refine wpAny_bind (fo hoa hda hf (.inl hb) (fun _ => ?_) fun z => by rw [hb] at z; cases z)
  rw [Int.toNat_natCast, List.length_map, Array.length_toList, getElem?_neg (pickOrder (w.params.setOrder a ep) es) _ (Nat.lt_irrefl _)]
  dsimp only [Option.map_none]
  refine wpAny_bind (wpAny_setField hoI hdI (by simp) ?_)
  exact i8 hh fun h' hk => hQ h' fun b o hb e => hk b o ((Heap.SameBut.update s.heap I _).extBut b o hb e)
 ·dsimp only
  refine wpAny_bind (wpAny_seqItems hob hdb ?_)
  dsimp only
  have hvl : (order.filterMap fun j => es[j]?.map (·.2)).length = order.length := by
   clear hob hdb hdI hQ
   induction order with
   | nil => rfl
   | cons j r ih =>
    have hj := hlt j (List.mem_cons_self ..)
    rw [List.filterMap_cons, getElem?_pos es j hj]
    simp [ih fun k hk => hlt k (List.mem_cons_of_mem _ hk)]
  have hpl : (((order.map fun (j : Nat) => rawInt j).toArray)[(((order.filterMap fun j => es[j]?.map (·.2)).length : Nat) : Int).toNat]?) = none := by
   simp [hvl]
  rw [hpl]
  dsimp only
  refine wpAny_bind (wpAny_setField hoI hdI (by simp) ?_)
  have d1 := Obj.data_mapFields hdI (·.setIfInBounds 0 (rawInt 0))
  have g1 := Heap.get?_update_self (Obj.mapFields (·.setIfInBounds 0 (rawInt 0))) hoI (Obj.isFreed_of_fields d1)
  refine wpAny_bind (wpAny_setField (s := { s with heap := _ }) g1 d1 (by simp) ?_)
  exact i8 hh fun h' hk => hQ h' fun b o hb e => hk b o (((Heap.SameBut.update s.heap I _).trans (Heap.SameBut.update _ I _)).extBut b o hb e)
 ·dsimp only
  refine wpAny_bind (fo hoa hda hf (.inr ⟨hled, hsz⟩) (fun z => by rw [hb] at z; cases z) fun _ => ?_)
  rw [Int.toNat_natCast, hsl, List.length_map, Array.length_toList, getElem?_neg es _ (Nat.lt_irrefl _)]
  dsimp only
  refine wpAny_bind (wpAny_setField hoI hdI (by simp) ?_)
  exact i8 hh fun h' hk => hQ h' fun b o hb e => hk b o ((Heap.SameBut.update s.heap I _).extBut b o hb e)
theorem SetSt.at {I a : Addr} {es : Array (Int × Value)} {ep : Nat} {t : SetTable} {vs : List Value} {tup : Option Addr} {i : Nat} {h h' : Heap} (st : SetSt w I a es ep t vs tup i h)
  (k : ∀ b o, b = I ∨ b = a ∨ tup = some b → h.get? b = some o → h'.get? b = some o) : SetSt w I a es ep t vs tup i h' := by
 obtain ⟨oa, hoa, hca, hda, oI, first, hoI, hcI, hdI, hm⟩ := st
 refine ⟨oa, k a oa (.inr (.inl rfl)) hoa, hca, hda, oI, first, k I oI (.inl rfl) hoI, hcI, hdI, ?_⟩
 rcases hm with ⟨hb, f⟩ | ⟨hb, b, order, ob, n, hob, hdb, hlt⟩ | ⟨hb, hled, hsz, slot, hsl⟩
 ·exact .txt hb f
 ·exact .drw hb b order ob n (k b ob (.inr (.inr rfl)) hob) hdb hlt
 ·exact .one hb hled hsz slot hsl
noncomputable def tj : Option Addr → List Addr
 | none => []
 | some b => [b]
theorem p8 {I a : Addr} {es : Array (Int × Value)} {ep : Nat} {t : SetTable} {vs : List Value} {tup : Option Addr} (hh : A.handled = none) (hIa : a ≠ I) (hIt : ∀ b, tup = some b → b ≠ I) (hf : t.fits es.size = true) :
  Walks prog w A I (I :: a :: tj tup) [I] vs.length (fun i v => vs[i]? = some v) (fun i h => SetSt w I a es ep t vs tup i h) where
 sub := fun b hb => by rw [List.mem_singleton.mp hb]; exact List.mem_cons_self ..
 frame := fun i h h' st hk => st.at fun b o hb e => hk b (by
  rcases hb with rfl | rfl | hb
  ·exact List.mem_cons_self ..
  ·exact List.mem_cons_of_mem _ (List.mem_cons_self ..)
  ·subst hb; simp [tj]) o e
 item := fun i s Q E hi st hQ => oN hIa hIt hf st (List.getElem?_eq_getElem hi) fun h' hs st' => hQ _ h' s.toks (List.getElem?_eq_getElem hi) st' fun b o hb e => hs.extBut b o (fun z => hb (by simp [z])) e
 done := fun s Q E st hQ => qg hh hf st fun h' hx => hQ h' s.toks fun b o hb e => hx b o (fun z => hb (by simp [z])) e
 self := fun i s Q E st q => by
  obtain ⟨_, _, _, _, oI, first, hoI, hcI, hdI, hm⟩ := st
  have hT : s.TypeIs (.ref I) "set_iterator" := ⟨oI, hoI, hcI⟩
  refine wpAny_pyIter_slot hT fL (wpAny_call_entry fL hT jj ?_ (jI _))
  show wpAny _ _ (ret (.ref I)) _ _ s
  exact wpAny_pure ⟨_, rfl, "set_iterator", _, hT, bP.lookup, q⟩
theorem oR {s : Shared} {a : Addr} {ks : List Str} {Q : Value → Shared → Prop} (hS : SetX prog w s.heap a (!w.params.followText "set-order") ks)
  (h : ∀ I es ep t vs tup h' d, t.fits es.size = true → SetSt w I a es ep t vs tup 0 h' → a ≠ I → (∀ b, tup = some b → b ≠ I) → s.heap.get? I = none → (∀ b, tup = some b → s.heap.get? b = none) → vs.length < scanBound →
   (∃ ks', StrsAre vs ks' ∧ ks'.Perm ks) → (∀ b o, s.heap.get? b = some o → h'.get? b = some o) → Q (.ref I) { s with heap := h', drawn := d }) : wpAny (model prog w) A (pyIter (.ref a)) Q E s := by
 obtain ⟨o, es, ep, t, ho, hex, hd, hel, hb, hf, hled, hpl, hks, hnd⟩ := hS
 have hT : s.TypeIs (.ref a) "set" := ⟨o, ho, hex.1⟩
 have hslen : es.size ≤ sizeLine := fits_of_scanBound hb
 have hlt : a < s.heap.objs.size := Heap.lt_size ho
 refine wpAny_pyIter_slot hT PySem.F.slot_set_iter (wpAny_call_entry PySem.F.slot_set_iter hT kC ?_ (PySem.F.args_set_iter_1 _))
 unfold Builtin.«frozenset.__iter__» Builtin.Frozenset.slot0 slotArgs
 simp only [List.isEmpty_nil, Bool.not_true, Bool.false_eq_true, ↓reduceIte, bind_assoc, List.length_nil, bne_self_eq_false]
 unfold Builtin.Frozenset.addrOf Builtin.Frozenset.sizeOf
 refine wpAny_bind (wpAny_pure ?_)
 try dsimp only
 refine wpAny_bind (wpAny_pure ?_)
 refine wpAny_bind (wpAny_bind (wpAny_setEntries_of ho hd hf (wpAny_pure ?_)))
 refine wpAny_bind ?_
 unfold setDrawn
 refine wpAny_bind (wpAny_setState_of ho hd hf ?_)
 dsimp only
 refine wpAny_bind (jl (wpAny_pure ?_))
 have mk : ∀ (first : Value) (h₁ : Heap) (d : Drawn) (vs : List Value) (tup : Option Addr), (∀ b o, s.heap.get? b = some o → h₁.get? b = some o) → (∃ ks', StrsAre vs ks' ∧ ks'.Perm ks) → (∀ b, tup = some b → b ≠ h₁.objs.size) → (∀ b, tup = some b → s.heap.get? b = none) → s.heap.objs.size ≤ h₁.objs.size →
   (∀ h' : Heap, (∀ b o, h₁.get? b = some o → h'.get? b = some o) →
    SetM w a es ep t 0 h' vs tup first) →
   wpAny (model prog w) A.in1 (do
    let e ← setEpoch a
    let f ← newFields "set_iterator" [first, rawInt 0, .ref a, rawInt es.size, rawInt e]
    ret f) (fun fin s' => ∃ r, fin = .done (.ret r) ∧ ∃ T' r', s'.TypeIs r T' ∧ typeLookup (.type T') "__next__" = pure (some r') ∧ Q r s') E { s with heap := h₁, drawn := d } := by
  intro first h₁ d vs tup hk hvs hne hnew hsz hmode
  refine wpAny_bind (wpAny_setEpoch_of (s := { s with heap := h₁, drawn := d }) (hk a o ho) hd hf ?_)
  unfold newFields
  refine wpAny_bind (wpAny_newObj_type ?_ (by show _ ≤ _; simp [sizeLine_eq]))
  refine wpAny_pure ⟨_, rfl, "set_iterator", _, ⟨_, Heap.get?_push_size _ rfl, rfl⟩, bP.lookup, ?_⟩
  have hvl : vs.length < scanBound := by
   obtain ⟨ks', h1, h2⟩ := hvs
   have e1 := congrArg List.length h1.strs
   have e2 := congrArg List.length hks.strs
   have e3 := h2.length_eq
   simp at e1 e2
   exact e1.trans (e3.trans e2.symm) ▸ hb
  refine h h₁.objs.size es ep t vs tup _ d hf ⟨o, Heap.get?_push_of_some _ (hk a o ho), hex.1, hd, _, first, Heap.get?_push_size _ rfl, rfl, by simp [rawInt], hmode _ fun b o e => Heap.get?_push_of_some _ e⟩ (Nat.ne_of_lt (Nat.lt_of_lt_of_le hlt hsz)) hne ?_ hnew hvl hvs fun b o e => Heap.get?_push_of_some _ (hk b o e)
  cases e : s.heap.get? h₁.objs.size with
  | none => rfl
  | some o' => exact absurd (Heap.lt_size (hk _ _ e)) (Nat.lt_irrefl _)
 have hself : ∃ ks', StrsAre (es.toList.map (·.2)) ks' ∧ ks'.Perm ks := ⟨ks, hks, List.Perm.refl _⟩
 cases hbt : w.params.followText "set-order" with
 | true =>
  simp only [Bool.not_true, Bool.false_and, Bool.false_eq_true, if_false]
  refine wpAny_bind (wpAny_pure ?_)
  refine mk (rawInt 0) s.heap s.drawn ((pickOrder (w.params.setOrder a ep) es).toList.map (·.2)) none (fun _ _ e => e) ?_ (fun b e => by cases e) (fun b e => by cases e) (Nat.le_refl _) fun h' _ => .txt hbt 0
  exact gL hks ((qo _ es).map _)
 | false =>
  simp only [Bool.not_false, Bool.true_and]
  by_cases hs1 : es.size > 1
  ·have hp0 : t.plain = false := hpl (by exact fun hg => lN [(es.size)] 0x12048108461 rfl hs1 (Nat.le_of_eq hg))
   refine wpAny_ite_split (fun _ => ?_) fun hn => absurd (show (!t.plain && decide (es.size > 1)) = true by rw [hp0]; simpa using hs1) hn
   refine wpAny_bind (fK es.size (List.range es.size) (by simp) fun order d hp => ?_)
   have hol : order.length = es.size := by rw [hp.length_eq]; simp
   have horl : ∀ j ∈ order, j < es.size := fun j hj => by simpa using hp.mem_iff.mp hj
   refine wpAny_bind (wpAny_newTuple ?_ (by rw [List.length_map, hol]; exact hslen))
   refine mk (.ref s.heap.objs.size) _ d (order.filterMap fun j => es[j]?.map (·.2)) (some s.heap.objs.size) (fun b o e => Heap.get?_push_of_some _ e) ?_ (fun b e => by cases e; rw [Heap.size_push]; exact Nat.ne_of_lt (Nat.lt_succ_self _))
    (fun b e => by cases e; cases e2 : s.heap.get? s.heap.objs.size with | none => rfl | some o' => exact absurd (Heap.lt_size e2) (Nat.lt_irrefl _)) (by rw [Heap.size_push]; exact Nat.le_succ _)
    fun h' hk' => .drw hbt _ order _ _ (hk' _ _ (Heap.get?_push_size _ rfl)) rfl horl
   refine gL hks ?_
   have h1 := (hp.filterMap fun j => es[j]?.map (·.2))
   have h2 : (List.range es.size).filterMap (fun j => es[j]?.map (·.2)) = es.toList.map (·.2) := by
    have := congrArg (List.map (·.2)) (filterMap_getElem?_range es)
    rw [List.map_filterMap] at this
    exact this
   rw [h2] at h1
   exact h1
  ·refine wpAny_ite_split (fun hy => ?_) fun _ => wpAny_bind (wpAny_pure ?_)
   ·exfalso
    have hy' : (!t.plain && decide (es.size > 1)) = true := hy
    rw [Bool.and_eq_true, decide_eq_true_eq] at hy'
    exact hs1 hy'.2
   have hps : t.place.size = es.size := by
    simp only [SetTable.fits, Bool.and_eq_true, beq_iff_eq] at hf
    exact hf.1
   refine mk (rawInt 0) s.heap s.drawn (es.toList.map (·.2)) none (fun _ _ e => e) hself (fun b e => by cases e) (fun b e => by cases e) (Nat.le_refl _) fun h' _ => .one hbt (by rw [hled, hbt]; rfl) (Nat.le_of_not_lt hs1) 0 (pd _ (hps ▸ Nat.le_of_not_lt hs1))
end
end Mine
end
noncomputable section
namespace Mine
open PySem PySem.W PyProof.Rows
section
variable {prog : Program} {w : World} {E : Value → Shared → Prop}
theorem sd {A : Around} {s : Shared} {r : Addr} {Q : Bool → Shared → Prop} (hT : s.TypeIs (.ref r) "set") (h : Q false s) : wpAny (model prog w) A (Builtin.List.listLengthHint (.ref r)) Q E s := by
 unfold Builtin.List.listLengthHint
 refine wpAny_bind (wpAny_specialOf hT PySem.F.slot_set_len.lookup ?_)
 generalize hid : ("set.__len__" : String) = id0
 wp_delta
 rw [show splitId id0 = some ("set", "__len__") from by subst hid; decide +kernel]
 subst hid
 refine wpAny_bind (wpAny_isInstance (T := "set") (b := true) hT (by rw [isSubtype_type]; kernel_rfl) ?_)
 refine wpAny_ite_split (fun hab => absurd hab (by decide)) (fun _ => ?_)
 refine wpAny_ite_split (fun _ => ?_) (fun hab => absurd (by decide +kernel) hab)
 refine wpAny_bind (wpAny_typeOf hT ?_)
 exact wpAny_pure h
theorem n9 {A : Around} {s : Shared} {a : Addr} {ks : List Str} {R : List Value → Shared → Prop} (hh : A.handled = none) (hS : SetX prog w s.heap a (!w.params.followText "set-order") ks)
  (h : ∀ (h' : Heap) (tk : Nat) (d : Drawn) (vs : List Value) (ks' : List Str), (∀ b o, s.heap.get? b = some o → h'.get? b = some o) → StrsAre vs ks' → ks'.Perm ks → R vs { s with heap := h', toks := tk, drawn := d }) :
  wpAny (model prog w) A (collect (.ref a)) R E s := by
 have hT : s.TypeIs (.ref a) "set" := let ⟨o, _, _, _, ho, hex, _, _, _, _, _, _, _, _⟩ := hS; ⟨o, ho, hex.1⟩
 have hlt : a < s.heap.objs.size := let ⟨o, _, _, _, ho, _, _, _, _, _, _, _, _, _⟩ := hS; Heap.lt_size ho
 unfold collect
 refine wpAny_bind (wpAny_runValue (codeAny_builtin entry_proto_collect' ?_))
 rw [Around.under_plainId PySem.F.plain_proto_collect _]
 show wpAny _ A.in1 (newList [] >>= fun l => again (.builtin "list.__iadd__" ⟨[l, .ref a], []⟩)) _ _ s
 refine wpAny_bind (wpAny_newObj_type ?_)
 refine wpAny_pure ⟨plainId_quiet PySem.F.plain_list_iadd _, codeAny_builtin entry_list_iadd' ?_⟩
 rw [Around.under_plainId PySem.F.plain_list_iadd _]
 have hk₀ : ∀ b o, s.heap.get? b = some o → (s.heap.push { cls := .type "list", data := .seq ([] : List Value).toArray }).get? b = some o := fun b o e => Heap.get?_push_of_some _ e
 have hS₁ : (s.heap.push { cls := .type "list", data := .seq ([] : List Value).toArray }).get? s.heap.objs.size = some { cls := .type "list", data := .seq #[] } := Heap.get?_push_size _ rfl
 show wpAny _ A.in1 (Builtin.List.listExtendWith (.ref s.heap.objs.size) (.ref a) (.ref s.heap.objs.size)) _ _ _
 unfold Builtin.List.listExtendWith
 have hX := hS.at (h' := s.heap.push { cls := .type "list", data := .seq ([] : List Value).toArray }) fun o e => hk₀ a o e
 have hTp : Shared.TypeIs { s with heap := s.heap.push { cls := .type "list", data := .seq ([] : List Value).toArray } } (.ref a) "set" := let ⟨o, _, _, _, ho, hex, _, _, _, _, _, _, _, _⟩ := hX; ⟨o, ho, hex.1⟩
 refine wpAny_bind (wpAny_typeOf (T := "set") hTp ?_)
 have h1 : Builtin.List.listSameRef (.ref s.heap.objs.size) (.ref a) = false := by simp [Builtin.List.listSameRef, Nat.ne_of_gt hlt]
 have h2 : (Value.type "set" == Value.type "list") = false := by decide
 have h3 : (Value.type "set" == Value.type "tuple") = false := by decide
 simp only [h1, h2, h3, Bool.or_false, Bool.false_eq_true, if_false]
 refine wpAny_bind (oR hX fun I es ep t vs tup h₂ d hf st hIa hIt hIn htn hvl hvs hk₂ => ?_)
 have hS₂ : h₂.get? s.heap.objs.size = some { cls := .type "list", data := .seq #[] } := hk₂ _ _ hS₁
 have hX₂ := hX.at (h' := h₂) fun o e => hk₂ a o e
 have hT₂ : Shared.TypeIs { s with heap := h₂, drawn := d } (.ref a) "set" := let ⟨o, _, _, _, ho, hex, _, _, _, _, _, _, _, _⟩ := hX₂; ⟨o, ho, hex.1⟩
 have hSI : s.heap.objs.size ≠ I := fun e => by rw [← e, hS₁] at hIn; cases hIn
 have hSf : s.heap.objs.size ∉ (I :: a :: tj tup) := by
  intro hm
  rcases List.mem_cons.mp hm with e | hm
  ·exact hSI e
  rcases List.mem_cons.mp hm with e | hm
  ·exact absurd e (Nat.ne_of_gt hlt)
  ·cases tup with
   | none => cases hm
   | some b =>
    have e := List.mem_singleton.mp hm
    have := htn b rfl
    rw [← e, hS₁] at this; cases this
 have W := p8 (prog := prog) (w := w) (A := A.in1) (vs := vs) (ep := ep) (by show A.handled = _; exact hh) hIa hIt hf
 have key : ∀ (R' : Result → Shared → Prop), (∀ (h' : Heap) (tk : Nat) (vs' : List Value) (ks' : List Str) (o' : Obj) (c : Nat), (∀ b o, s.heap.get? b = some o → h'.get? b = some o) → StrsAre vs' ks' → ks'.Perm ks → h'.get? s.heap.objs.size = some o' → o'.data = .seq vs'.toArray c →
    R' (.ok (.ret (.ref s.heap.objs.size))) { s with heap := h', toks := tk, drawn := d }) →
   ∀ (h₃ : Heap) (tk : Nat) (c₁ : Nat), SetSt w I a es ep t vs tup 0 h₃ → (∀ b o, b ≠ s.heap.objs.size → h₂.get? b = some o → h₃.get? b = some o) → h₃.get? s.heap.objs.size = some { cls := .type "list", data := .seq #[] c₁ } →
   codeAny (model prog w) A (.builtin "list.extend.loop" ⟨[.ref s.heap.objs.size, .ref I, .ref s.heap.objs.size], []⟩) R' { s with heap := h₃, toks := tk, drawn := d } := by
  intro R' hR h₃ tk c₁ st₃ hk₃ hS₃
  refine codeAny_extend_loopS W.toS (Nat.le_of_lt (Nat.lt_of_lt_of_le hvl (by rw [sizeLine_eq]; decide))) s.heap.objs.size hSf (.ref s.heap.objs.size) vs.length 0 _ #[] c₁ rfl (Nat.zero_le _) st₃ hS₃ (ItemsOf.nil _) fun s' acc' c' hm hS' hacc => ?_
  have e := Moved.eq_with hm
  rw [e]
  obtain ⟨ks', hks', hpk⟩ := hvs
  have hacc' : acc'.toList = vs := by
   apply List.ext_getElem?
   intro j
   by_cases hj : j < vs.length
   ·have hj' : j < acc'.size := by rw [hacc.1]; exact hj
    have := hacc.2 j acc'[j] (getElem?_pos acc' j hj')
    rw [this, Array.getElem?_toList]
    exact getElem?_pos acc' j hj'
   ·rw [List.getElem?_eq_none (l := acc'.toList) (by rw [Array.length_toList, hacc.1]; exact Nat.le_of_not_lt hj), List.getElem?_eq_none (l := vs) (by exact Nat.le_of_not_lt hj)]
  refine hR s'.heap s'.toks vs ks' _ c' (fun b o e => ?_) hks' hpk hS' (by rw [← hacc', Array.toArray_toList])
  refine hm.heap b o (fun hmem => ?_) (hk₃ b o (Nat.ne_of_lt (Heap.lt_size e)) (hk₂ b o (hk₀ b o e)))
  rcases List.mem_cons.mp hmem with e' | hmem
  ·exact absurd (Heap.lt_size e) (by rw [e']; exact Nat.lt_irrefl _)
  ·have e2 := List.mem_singleton.mp hmem
   have := hk₀ b o e
   rw [e2, hIn] at this; cases this
 have done : ∀ (h' : Heap) (tk : Nat) (vs' : List Value) (ks' : List Str) (o' : Obj) (c : Nat), (∀ b o, s.heap.get? b = some o → h'.get? b = some o) → StrsAre vs' ks' → ks'.Perm ks → h'.get? s.heap.objs.size = some o' → o'.data = .seq vs'.toArray c →
   wpAny (model prog w) A (do
    let o ← load s.heap.objs.size
    match o.data with
     | .seq xs _ => pure xs.toList
     | _ => unsupported "internal:collect") R E { s with heap := h', toks := tk, drawn := d } := by
  intro h' tk vs' ks' o' c hk hs hp ho hd
  refine wpAny_bind (wpAny_load ho ?_)
  rw [hd]
  exact wpAny_pure (by rw [List.toList_toArray]; exact h h' tk d vs' ks' hk hs hp)
 refine wpAny_bind (wpAny_holding (sd hT₂ ?_))
 refine wpAny_ite_split (fun _ => ?_) fun _ => wpAny_pure ⟨plainId_quiet PySem.F.plain_extend_loop _, key _ (fun h' tk vs' ks' o' c hk hs hp ho hd => done h' tk vs' ks' o' c hk hs hp ho hd) h₂ s.toks 0 st (fun _ _ _ e => e) hS₂⟩
 refine wpAny_bind (wpAny_rule ?_)
 refine wpAny_bind ?_
 show wpAny _ _ (updateSeq s.heap.objs.size (·.push .none) >>= fun _ => updateSeq s.heap.objs.size (·.pop)) _ _ _
 refine wpAny_bind (wpAny_updateSeq hS₂ rfl ?_)
 have hS₄ := Heap.get?_update_self (Obj.mapSeq (·.push Value.none)) hS₂ rfl
 refine wpAny_updateSeq (hz := by seq_fits) hS₄ rfl ?_
 have hS₅ := Heap.get?_update_self (Obj.mapSeq (·.pop)) hS₄ rfl
 have hoth : ∀ b o, b ≠ s.heap.objs.size → h₂.get? b = some o → ((h₂.update s.heap.objs.size (Obj.mapSeq (·.push Value.none))).update s.heap.objs.size (Obj.mapSeq (·.pop))).get? b = some o := fun b o hb e =>
  (Heap.get?_update_other _ _ (Ne.symm hb)).trans ((Heap.get?_update_other _ _ (Ne.symm hb)).trans e)
 refine wpAny_pure ⟨plainId_quiet PySem.F.plain_extend_loop _, key _ (fun h' tk vs' ks' o' c hk hs hp ho hd => done h' tk vs' ks' o' c hk hs hp ho hd) _ s.toks _ (st.at fun b o hb e => hoth b o (fun z => hSf ?_) e) hoth hS₅⟩
 rcases hb with hb | hb | hb
 ·rw [← z, hb]; exact List.mem_cons_self ..
 ·rw [← z, hb]; exact List.mem_cons_of_mem _ (List.mem_cons_self ..)
 ·rw [← z, hb]; simp [tj]
end
end Mine
end
noncomputable section
namespace Mine
open PySem PySem.W PyProof.Rows PySem.Calls
abbrev gY (l : List Str) : V := .tup (l.map .str)
theorem VRels.invD {aS : Addr} {h : Heap} {xs : List V} {w : Value} {ws : List Value} (x : VRels aS h xs (w :: ws)) : ∃ v vs, xs = v :: vs ∧ VRel aS h v w ∧ VRels aS h vs ws := by
 cases x with
 | cons a b => exact ⟨_, _, rfl, a, b⟩
theorem VRels.perm {aS : Addr} {h : Heap} {ws out : List Value} (p : ws.Perm out) : ∀ {xs : List V}, VRels aS h xs ws → ∃ ys, ys.Perm xs ∧ VRels aS h ys out := by
 induction p with
 | nil => exact fun r => ⟨_, .refl _, r⟩
 | cons w _ ih =>
  intro xs r
  obtain ⟨v, vs, rfl, a, b⟩ := r.invD
  obtain ⟨ys, p, r⟩ := ih b
  exact ⟨v :: ys, p.cons v, .cons a r⟩
 | swap w u l =>
  intro xs r
  obtain ⟨v, vs, rfl, a, b⟩ := r.invD
  obtain ⟨v', vs, rfl, a', b⟩ := b.invD
  exact ⟨v' :: v :: vs, .swap _ _ _, .cons a' (.cons a b)⟩
 | trans _ _ ih1 ih2 =>
  intro xs r
  obtain ⟨ys, p1, r⟩ := ih1 r
  obtain ⟨zs, p2, r⟩ := ih2 r
  exact ⟨zs, p2.trans p1, r⟩
theorem VRels.all {aS : Addr} {h : Heap} {xs : List V} {ws : List Value} (r : VRels aS h xs ws) : ∀ w ∈ ws, ∃ x, x ∈ xs ∧ VRel aS h x w :=
 r.ind (P := fun xs ws => ∀ w ∈ ws, ∃ x, x ∈ xs ∧ VRel aS h x w) (fun _ h => nomatch h) fun v w vs ws a _ ih u hu => by
  rcases List.mem_cons.mp hu with rfl | hu
  ·exact ⟨v, .head _, a⟩
  ·obtain ⟨x, h1, h2⟩ := ih u hu
   exact ⟨x, .tail _ h1, h2⟩
theorem nu {α β : Type} (f : α → β) {zs ys : List β} (p : zs.Perm ys) : ∀ {ks : List α}, zs = ks.map f → ∃ ks' : List α, ys = ks'.map f ∧ ks'.Perm ks := by
 induction p with
 | nil => exact fun {ks} e => ⟨ks, e, .refl _⟩
 | cons x _ ih =>
  intro ks e
  obtain ⟨k, ks0, rfl, rfl, e2⟩ := List.map_eq_cons_iff.mp e.symm
  obtain ⟨l, rfl, pl⟩ := ih e2.symm
  exact ⟨k :: l, rfl, pl.cons k⟩
 | swap x y l =>
  intro ks e
  obtain ⟨k, ks0, rfl, rfl, e2⟩ := List.map_eq_cons_iff.mp e.symm
  obtain ⟨k2, ks1, rfl, rfl, rfl⟩ := List.map_eq_cons_iff.mp e2
  exact ⟨k2 :: k :: ks1, rfl, .swap _ _ _⟩
 | trans _ _ ih1 ih2 =>
  intro ks e
  obtain ⟨l, e1, p1⟩ := ih1 e
  obtain ⟨l', e2, p2⟩ := ih2 e1
  exact ⟨l', e2, p2.trans p1⟩
inductive TupAt (h : Heap) : Value → Prop
 | mk (a : Addr) (x : Str) (t : Tok) (us : List Value) (ss : List Str) (ht : h.IsTuple a (.str x t :: us).toArray) (hs : StrsAre us ss) : TupAt h (.ref a)
section
variable {prog : Program} {w : World} {A : Around} {E : Value → Shared → Prop} {s : Shared}
theorem oS {a b : Str} {t u : Tok} {f : Bool} {Q : Bool → Shared → Prop} (h : Q (decide (a.cps.toList < b.cps.toList)) s) : wpAny (model prog w) A (oneLt' f (.str a t) (.str b u)) Q E s := by
 cases f
 ·rw [oneLt'_eq]
  simp only [Bool.false_eq_true, if_false]
  refine wpAny_bind (wpAny_richCompare_same (typeIs_str s a t) (typeIs_str s b u) slot_str_lt (call_str_lt ⟨by simp, wpAny_truthy_bool h⟩))
 ·exact oneLt_str h
theorem q4 {f : (Value × Value) × Nat → Option Bool × Unit → Sem (ForInStep (Option Bool × Unit))}
  (hs : ∀ (x y : Str) (t u : Tok) (i : Nat) (R : ForInStep (Option Bool × Unit) → Shared → Prop), R (.yield (none, ())) s → (∀ b, R (.done (some b, ())) s) → wpAny (model prog w) A (f ((.str x t, .str y u), i) (none, ())) R E s) :
  ∀ {us vs : List Value} {xs ys : List Str} (i : Nat) {R : Option Bool × Unit → Shared → Prop}, StrsAre us xs → StrsAre vs ys → (∀ o, R (o, ()) s) →
   wpAny (model prog w) A (forIn ((us.zip vs).zipIdx i) (none, ()) f) R E s := by
 intro us vs xs ys i R h1
 induction h1 generalizing vs ys i R with
 | nil => intro h2 q; exact wpAny_pure (q _)
 | cons x t h1 ih =>
  intro h2 q
  cases h2 with
  | nil => exact wpAny_pure (q _)
  | cons y u h2 =>
   rw [List.zip_cons_cons, List.zipIdx_cons, List.forIn_cons]
   exact wpAny_bind (hs x y t u i _ (ih (i + 1) h2 q) fun b => wpAny_pure (q _))
theorem qD {x y : Value} {Q : Bool → Shared → Prop} (h1 : TupAt s.heap x) (h2 : TupAt s.heap y) (q : ∀ c, Q c s) : wpAny (model prog w) A (keyLt' (tuples' true) x y) Q E s := by
 obtain ⟨a, x, t, us, ss, ⟨o, ho, hc, n, hd⟩, hs⟩ := h1
 obtain ⟨b, y, u, vs, ss2, ⟨o2, ho2, hc2, n2, hd2⟩, hs2⟩ := h2
 refine wpAny_bind (listItems_at ho hd (wpAny_bind (listItems_at ho2 hd2 ?_)))
 rw [List.toList_toArray, List.toList_toArray]
 refine wpAny_bind (q4 (fun x y t u i R r1 r2 => ?_) 0 (.cons x t hs) (.cons y u hs2) fun o => ?_)
 ·refine wpAny_bind (eqBool_str ?_)
  cases (x == y) with
  | true => exact wpAny_pure r1
  | false => exact wpAny_bind (oS (wpAny_pure (r2 _)))
 ·cases o with
  | none => exact wpAny_pure (q _)
  | some c => exact wpAny_pure (q c)
theorem kp : ∀ {vs : List Value} {Q : List (Option Value) → Shared → Prop}, (∀ v ∈ vs, TupAt s.heap v) → (∀ (us : List Value) (ss : List Str), StrsAre us ss → us.length = vs.length → Q (us.map some) s) → wpAny (model prog w) A (vs.mapM firstOfTuple') Q E s
 | [], Q, _, q => wpAny_pure (q [] [] .nil rfl)
 | v :: vs, Q, h, q => by
  rw [List.mapM_cons]
  obtain ⟨a, x, t, us, ss, ⟨o, ho, hc, n, hd⟩, hs⟩ := h _ (.head _)
  refine wpAny_bind (wpAny_bind (wpAny_typeOf (T := "tuple") ⟨o, ho, hc⟩ ?_))
  show wpAny _ _ (if (Value.type "tuple" != Value.type "tuple") = true then pure none else _) _ E s
  rw [if_neg (by simp)]
  refine wpAny_bind (listItems_at ho hd (wpAny_pure ?_))
  refine wpAny_bind (kp (fun v hv => h v (.tail _ hv)) fun us' ss' hu hl => wpAny_pure ?_)
  exact q (.str x t :: us') (x :: ss') (.cons x t hu) (congrArg (· + 1) hl)
theorem rU {vs : List Value} {Q : SortKind → Shared → Prop} (h : ∀ v ∈ vs, TupAt s.heap v) (h2 : 2 ≤ vs.length) (q : Q (tuples' true) s) : wpAny (model prog w) A (keyKind' vs.toArray) Q E s := by
 rw [keyKind'_eq, List.mapM_toArray]
 refine wpAny_bind (wpAny_map (kp h fun us ss hu hl => ?_))
 have h1 : ((us.map some).toArray.all fun x : Option Value => x.isSome) = true := by simp
 rw [if_pos h1]
 refine wpAny_bind (wpAny_rule ?_)
 have h3 : Array.filterMap id (us.map some).toArray = us.toArray := by
  rw [List.filterMap_toArray]; simp
 rw [h3, oneTypeOnly'_eq, List.mapM_toArray, mapM_typeOf_strs hu]
 cases hu with
 | nil => rw [← hl] at h2; exact absurd h2 (by decide)
 | cons x t hu =>
  rename_i us ss
  have h5 : ((List.map (fun _ => Value.type "str") (Value.str x t :: us)).toArray.all fun x => x == Value.type "str") = true := by
   simp only [List.all_toArray, List.all_map, List.all_eq_true]
   intro _ _
   rfl
  have h6 : (List.map (fun _ => Value.type "str") (Value.str x t :: us)).toArray[0]? = some (Value.type "str") := by simp
  simp only [map_pure, pure_bind]
  rw [h6]
  simp only [h5, if_true, pure_bind]
  exact wpAny_pure q
end
section
variable {C : Cx} {p : Program} {sc : Scope} {k : Nat}
theorem ie {aS : Addr} {h : Heap} : ∀ {ys : List Str} {ws : List Value}, VRels aS h (ys.map .str) ws → StrsAre ws ys
 | [], _, r => by rw [r.inv0]; exact .nil
 | y :: ys, _, r => by
  obtain ⟨w, ws, rfl, h1, r2⟩ := r.invC
  obtain ⟨t, rfl⟩ := h1.invStr
  exact .cons y t (ie r2)
theorem f8 {aS : Addr} {h : Heap} {ys : List Str} {ws : List Value} (x : StrsAre ws ys) : VRels aS h (ys.map .str) ws := by
 induction x with
 | nil => exact .nil
 | cons y t r ih => exact .cons (.str y t) ih
inductive SK (xs : List V) : Prop
 | s (h : ∀ x ∈ xs, ∃ y, x = .str y) : SK xs
 | t (h : ∀ x ∈ xs, ∃ y l, x = gY (y :: l)) : SK xs
theorem SK.strs (ks : List Str) : SK (ks.map .str) := .s fun x hx => (List.mem_map.mp hx).elim fun k h => ⟨k, h.2.symm⟩
theorem gM {A : Around} {s : Shared} {σ : ai} {r : Value} {Q : V → ai → Prop} {P : Value → Shared → Prop} {E : Value → Shared → Prop} {xs : List V} (ao : AOk C A k) (R : RelG C σ s)
  (hcol : ∀ R' : List Value → Shared → Prop, (∀ (h' : Heap) (tk : Nat) (d : Drawn) (vs : List Value) (xs' : List V), (∀ b o, s.heap.get? b = some o → h'.get? b = some o) → s.heap.objs.size ≤ h'.objs.size → VRels C.aS h' xs' vs → xs'.Perm xs → R' vs { s with heap := h', toks := tk, drawn := d }) →
   wpAny (model C.prog C.w) A.in1 (collect r) R' E s) (hk : SK xs) (hz : xs.length ≤ 16777216)
  (q : ∀ ys : List V, ys.Perm xs → dF ys σ Q) (hP : ub C σ s Q P) : wpAny (model C.prog C.w) A (PySem.call (.builtin "sorted") [r]) P E s := by
 refine call_function_entry kind_sorted plain_sorted entry_sorted (args_sorted1 _) ?_
 unfold Builtin.«sorted»
 refine wpAny_bind (m := checkCount "sorted" 1 1 _) (wpAny_pure ?_)
 refine wpAny_bind (hcol _ fun h' tk d vs xs' hold hsz hv hp => ?_)
 have hvl : vs.length = xs.length := by rw [← hp.length_eq, hv.length]
 have hz' : vs.length ≤ 16777216 := by rw [hvl]; exact hz
 refine wpAny_bind (wpAny_newList ?_ (by rw [sizeLine_eq]; exact hz'))
 have hoL : (h'.push (seqObj "list" vs.toArray 0)).get? h'.objs.size = some (seqObj "list" vs.toArray 0) := Heap.get?_push_size _ rfl
 have fin : ∀ out : List Value, out.Perm vs → P (.ref h'.objs.size) { s with heap := sortedHeap (h'.push (seqObj "list" vs.toArray 0)) h'.objs.size vs out.toArray, toks := tk, drawn := d } := fun out hpo => by
  obtain ⟨e, he⟩ := sortedHeap_at (out := out.toArray) hoL
  have hk1 : ∀ b o, h'.get? b = some o → (sortedHeap (h'.push (seqObj "list" vs.toArray 0)) h'.objs.size vs out.toArray).get? b = some o := fun b o eb => by
   have hb := Heap.lt_size eb
   rw [sortedHeap_old (Nat.ne_of_lt hb) (by rw [Heap.size_push]; exact Nat.lt_succ_of_lt hb)]
   exact Heap.get?_push_of_some _ eb
  have hk2 := fun b o eb => hk1 b o (hold b o eb)
  have hn : s.heap.get? h'.objs.size = Option.none := aI hsz
  obtain ⟨ys, hy, hr⟩ := hv.perm hpo.symm
  have hyx := hy.trans hp
  exact hP (.ref h'.objs.size) (.ref h'.objs.size) (a8 σ h'.objs.size (.list ys)) _ (.ref _)
   ((R.draw d).add (tk := tk) (s := { s with drawn := d }) hk2 hn ⟨by rw [hyx.length_eq]; exact hz, out, ⟨e, he⟩, hr.keep fun b o eb _ => hk1 b o eb⟩) (.add hk2 (Nat.le_trans hsz (Nat.le_of_lt (Heap.lt_size he))) hsz) (q ys hyx _ (R.freshNone hn))
 refine wpAny_bind (wpAny_holding (wpAny_call_entry slot_list_sort ⟨_, hoL, rfl⟩ entry_list_sort ?_ (args_list_sort _)))
 rcases hk with hk | hk
 ·have hS : ∀ v ∈ vs, ∃ a t, v = .str a t := fun v hv' => by
   obtain ⟨x, hx, hr⟩ := hv.all v hv'
   obtain ⟨y, rfl⟩ := hk x (hp.mem_iff.mp hx)
   exact ⟨y, hr.invStr⟩
  refine nn (kd := oneType') hoL hz' (fun h2 s' _ Q q => ?_) (fun s' _ x hx y hy E C hC => ?_) fun out hpo => ⟨_, rfl, wpAny_pure ⟨_, rfl, fin out hpo⟩⟩
  ·have := strsAre_map vs hS
   match vs, h2, this with
   | v₁ :: v₂ :: rest, _, this => rw [keyKind_strs this]; exact wpAny_pure q
  ·obtain ⟨a, t, rfl⟩ := hS x hx
   obtain ⟨b, u, rfl⟩ := hS y hy
   rw [keyLt'_oneType]
   exact oneLt_str (hC _)
 ·have hT : ∀ s' : Shared, (∀ b o, b ≠ h'.objs.size → (h'.push (seqObj "list" vs.toArray 0)).get? b = some o → s'.heap.get? b = some o) → ∀ v ∈ vs, TupAt s'.heap v := fun s' hk' v hv' => by
   obtain ⟨x, hx, hr⟩ := hv.all v hv'
   obtain ⟨y, l, rfl⟩ := hk x (hp.mem_iff.mp hx)
   have hr := hr.keep (h' := s'.heap) fun b o eb _ => hk' b o (Nat.ne_of_lt (Heap.lt_size eb)) (Heap.get?_push_of_some _ eb)
   cases hr with
   | tup ht hs =>
    obtain ⟨w, ws, rfl, h1, r2⟩ := hs.invC
    obtain ⟨t, rfl⟩ := h1.invStr
    exact ⟨_, y, t, ws, l, ht, ie r2⟩
  exact nn (kd := tuples' true) hoL hz' (fun h2 s' hk' Q q => rU (hT s' hk') h2 q) (fun s' hk' x hx y hy E C hC => qD (hT s' hk' x hx) (hT s' hk' y hy) hC) fun out hpo => ⟨_, rfl, wpAny_pure ⟨_, rfl, fin out hpo⟩⟩
theorem jm : bootBuiltins (Str.ofString "sorted") = some (.builtin "sorted") := by decide +kernel
theorem uZ : bootBuiltins (Str.ofString "set") = some (.type "set") := by decide +kernel
theorem PRel.keys {aS : Addr} {h : Heap} {a : List (Str × V)} {b : List (Str × Value)} (x : PRel aS h a b) : a.map (·.1) = b.map (·.1) :=
 x.ind (P := fun a b => a.map (·.1) = b.map (·.1)) rfl fun _ _ _ _ _ _ _ ih => by rw [List.map_cons, List.map_cons, ih]
theorem lF {s : Shared} {kvs : List (Str × V)} {kws : List (Str × Value)} {vs : List Value} (h2 : PRel C.aS s.heap kvs kws) (hl : vs.length = kws.length) (hv : ∀ (j : Nat) (v : Value), vs[j]? = some v → ∃ k x, kws[j]? = some (k, x) ∧ (PySem.strKind C.prog C.w).is k v = true) : StrsAre vs (kvs.map (·.1)) := by
 rw [h2.keys]
 clear h2
 induction kws generalizing vs with
 | nil => have : vs = [] := List.length_eq_zero_iff.mp (by simpa using hl); subst this; exact .nil
 | cons q kws ih =>
  match vs, hl with
  | v :: vs, hl =>
   obtain ⟨ky, x, e1, e2⟩ := hv 0 v rfl
   simp at e1
   subst e1
   obtain ⟨t, rfl⟩ := Value.isStrOf_shape e2
   exact .cons ky t (ih (by simpa using hl) fun j v e => hv (j + 1) v (by simpa using e))
noncomputable def newP (ks : List Str) (σ : ai) (Q : V → ai → Prop) : Prop := ∀ ks' : List Str, ks'.Perm ks → dF (ks'.map .str) σ Q
theorem newP.any {ks : List Str} {σ : ai} {Q : V → ai → Prop} (h : newP ks σ Q) : ∀ ys : List V, ys.Perm (ks.map .str) → dF ys σ Q := fun ys p => by
 obtain ⟨ks', rfl, p'⟩ := nu V.str p.symm rfl
 exact h ks' p'
noncomputable def eJ : cR := fun vs σ Q => onR vs fun a => onO (σ a) (fun kvs => newP (kvs.map (·.1)) σ Q) fun xs => SK xs ∧ ∀ ys : List V, ys.Perm xs → dF ys σ Q
theorem qu (O : C.Ok) (hpl : C.held = Option.none) : lX C k (fun ws => PySem.call (.builtin "sorted") ws) eJ := by
 intro A s σ vs ws Q P E ao R hv q hP
 replace q := onR.elim q
 obtain ⟨a, rfl, q⟩ := q
 ·obtain ⟨wa, rfl, h1⟩ := hv.inv1
  cases h1
  rcases onO.elim q with ⟨kvs, ep, hx, q⟩ | ⟨xs, hx, hk, q⟩; rotate_left
  ·obtain ⟨hz, us, h2, h3⟩ := R.view _ _ hx
   have hlen := h3.length
   refine gM ao R (fun R' hR => br (collect_list h2.isList ?_ (by rw [← hlen, sizeLine_eq]; exact hz))) hk hz q hP
   intro hsz
   have hold : ∀ b o, s.heap.get? b = some o → ((s.heap.push (seqObj "list" #[] 0)).update s.heap.objs.size (Obj.mapSeq fun x => x ++ us.toArray)).get? b = some o := fun b o e => by
    rw [Heap.get?_update_ne _ _ _ _ (Nat.ne_of_lt (Heap.lt_size e))]
    exact Heap.get?_push_of_some _ e
   exact hR _ s.toks s.drawn us xs hold hsz (h3.keep fun b o e _ => hold b o e) (List.Perm.refl _)
  ·obtain ⟨hz, kws, h2, h3⟩ := R.view _ _ hx
   have hlen := h3.length
   refine gM (xs := (kvs.map (·.1)).map .str) ao R (fun R' hR => br (kdu_collect (kdl_dict (knd := PySem.strKind C.prog C.w) (kvs := kws) (ep := ep) (O.noMods (R.apart a (by rw [hx]; simp)))) (by show A.handled = _; exact ao.none hpl) h2 (kdl_size (by omega)) fun h' tk acc hk hacc => ?_)) (.strs _) (by simpa using hz) q.any hP
   intro hsz
   exact hR h' tk s.drawn acc.toList _ hk hsz (f8 (lF h3 (by rw [Array.length_toList]; exact hacc.1) fun j v e => hacc.2 j v (by rw [← Array.getElem?_toList]; exact e))) (List.Perm.refl _)
theorem lf (G : Gl C p) (hpl : C.held = Option.none) {np pos : Pos} {es : List Expr} {L : LT} (hn : sc.names.lookup (Str.ofString "sorted") = some .globalImplicit) (hl : HL C sc k es L) (hp : aQ es = true) : HE C sc k (.Call (.Name (Str.ofString "sorted") np) es [] pos) (aC eJ L) :=
 d0 G.ok (qu G.ok hpl) hn (G.free _ (by decide)) (G.blt jm (by decide)) rfl hl hp
noncomputable def o9 (T : ET) : ET := fun m σ Q => T m σ fun v σ₁ => ∃ a kvs ep, v = .ref a ∧ σ₁ a = some (.dict kvs ep) ∧ newP (kvs.map (·.1)) σ₁ Q
theorem lu (G : Gl C p) (hpl : C.held = Option.none) {np pos ap cp : Pos} {o : Expr} {T : ET} (hn : sc.names.lookup (Str.ofString "sorted") = some .globalImplicit) (ho : HE C sc k o T)
  (hbase : ∀ env, attributeBase o (Str.ofString "keys") env (eval o env) = eval o env) (hline : (ap.endLine == cp.line) = true) :
  HE C sc k (.Call (.Name (Str.ofString "sorted") np) [.Call (.Attribute o (Str.ofString "keys") ap) [] [] cp] [] pos) (o9 T) := by
 refine ⟨?_⟩; intro env A s m σ Q P E en ao R F q hP
 have O := G.ok
 refine wpAny_Call_NameR (Calls.Name_function_global en.k (en.of hn) (Calls.loadGlobal_builtin (mg := C.mg) (mb := C.mb) (by rw [en.globals]; exact O.g.keeps R.base) (G.free _ (by decide)) (by rw [en.builtins]; exact O.b.keeps R.base) (G.blt jm (by decide)) ?_) rfl)
 refine Calls.callWith_builtin (bR rfl) (bJ rfl ?_)
 show wpAny _ A (spliced ((false, eval (.Call (.Attribute o (Str.ofString "keys") ap) [] [] cp) env) :: backTo pos (starEach [] env))) _ E s
 refine Calls.spliced_cons ?_
 refine wpAny_Call_method (T := "dict") (id := "dict.keys") (hbase env) rfl hline _root_.PySem.F.plainAttrs_dict _root_.PySem.F.slot_dict_keys _root_.PySem.F.type_dict_keys ?_
 refine ho.run env A s m σ _ _ E en ao R F q fun v w σ₁ s₁ hv R₁ S₁ q₁ => ?_
 obtain ⟨a, kvs, ep, rfl, hx, q₁⟩ := q₁
 cases hv
 obtain ⟨hz, kws, h1, h2⟩ := R₁.view _ _ hx
 refine ⟨h1.dictOf.typeIs, h1.dictOf.mapOf.noDict, ?_⟩
 show wpAny _ _ (callWith cp (.builtin "dict.keys") [.ref a] [] []) _ E s₁
 refine method_meetsIn _root_.PySem.F.slot_dict_keys _root_.PySem.F.entry_dict_keys rfl (PySem.evalArgs_none ⟨rfl, h1.dictOf.typeIs, _root_.PySem.F.args_dict_keys_1 _, _, kdl_meets_keys (PySem.strKind C.prog C.w) a (O.noMods (R₁.apart a (by rw [hx]; simp))), ⟨kws, h1.dictOf⟩, ?_⟩)
 refine Calls.spliced_nil ?_
 show wpAny _ A (PySem.call (.builtin "sorted") [.ref s₁.heap.objs.size]) P E _
 have hl := h2.length
 have R₂ : RelG C σ₁ { s₁ with heap := s₁.heap.push { cls := .type "dict_keys", data := .fields #[.ref a] } } := R₁.grow (tk := s₁.toks) bg
 refine gM (xs := (kvs.map (·.1)).map .str) ao R₂ (fun R' hR => br (kdu_collect (kdl_keys (knd := PySem.strKind C.prog C.w) (kvs := kws) (ep := ep) (r := s₁.heap.objs.size) (d := a)) (by show A.handled = _; exact ao.none hpl)
  ⟨⟨_, Heap.get?_push_size _ rfl, rfl, rfl⟩, h1.push _⟩ (kdl_size (by omega)) fun h' tk acc hk hacc => ?_)) (.strs _) (by simpa using hz) q₁.any fun v w σ' s' hv' R' S' q' => hP v w σ' s' hv' R' ((S₁.trans .push).trans S') q'
 intro hsz
 exact hR h' tk s₁.drawn acc.toList _ hk hsz (f8 (lF h2 (by rw [Array.length_toList]; exact hacc.1) fun j v e => hacc.2 j v (by rw [← Array.getElem?_toList]; exact e))) (List.Perm.refl _)
noncomputable def eR (T : ET) : ET := fun m σ Q => T m σ fun v σ₁ => ∃ a ks, v = .ref a ∧ σ₁ a = some (.list (List.map V.str ks)) ∧ ks.length ≤ 4000 ∧ ∀ us : List Str, us.Nodup → (∀ z, z ∈ us ↔ z ∈ ks) → dF (us.map .str) σ₁ Q
theorem iZ (G : Gl C p) (hpl : C.held = Option.none) {np pos np2 cp : Pos} {o : Expr} {T : ET} (hn : sc.names.lookup (Str.ofString "sorted") = some .globalImplicit) (hn2 : sc.names.lookup (Str.ofString "set") = some .globalImplicit) (ho : HE C sc k o T) (hs : gP o = true) :
  HE C sc k (.Call (.Name (Str.ofString "sorted") np) [.Call (.Name (Str.ofString "set") np2) [o] [] cp] [] pos) (eR T) := by
 refine ⟨?_⟩; intro env A s m σ Q P E en ao R F q hP
 have O := G.ok
 refine wpAny_Call_NameR (Calls.Name_function_global en.k (en.of hn) (Calls.loadGlobal_builtin (mg := C.mg) (mb := C.mb) (by rw [en.globals]; exact O.g.keeps R.base) (G.free _ (by decide)) (by rw [en.builtins]; exact O.b.keeps R.base) (G.blt jm (by decide)) ?_) rfl)
 refine Calls.callWith_builtin (bR rfl) (bJ rfl ?_)
 show wpAny _ A (spliced ((false, eval (.Call (.Name (Str.ofString "set") np2) [o] [] cp) env) :: backTo pos (starEach [] env))) _ E s
 refine Calls.spliced_cons ?_
 refine wpAny_Call_NameR (Calls.Name_function_global en.k (en.of hn2) (Calls.loadGlobal_builtin (mg := C.mg) (mb := C.mb) (by rw [en.globals]; exact O.g.keeps R.base) (G.free _ (by decide)) (by rw [en.builtins]; exact O.b.keeps R.base) (G.blt uZ (by decide)) ?_) rfl)
 have hpa : aQ [o] = true := by simp [aQ, hs]
 refine PySem.callWith_type (bR hpa) (bJ hpa ?_)
 rw [bT hs]
 show wpAny _ A (spliced ((false, eval o env) :: backTo cp (starEach [] env))) _ E s
 refine Calls.spliced_cons (ho.run env A s m σ _ _ E en ao R F q fun v w σ₁ s₁ hv R₁ S₁ q₁ => ?_)
 obtain ⟨a, ks, rfl, hx, hk4, q₁⟩ := q₁
 cases hv
 obtain ⟨hz, us, h1, h2⟩ := R₁.view _ _ hx
 refine Calls.spliced_nil ?_
 show wpAny _ A (PySem.call (.type "set") [.ref a]) _ E s₁
 refine br (qN (ss := ks) (ao.none hpl) h1.isList (by rw [List.toList_toArray]; exact ie h2) (Nat.lt_of_le_of_lt (Nat.succ_le_succ hk4) (by decide)) fun h₂ tk₂ ks₂ hX hm hk₂ => ?_)
 intro hsz₂
 refine Calls.spliced_nil ?_
 show wpAny _ A (PySem.call (.builtin "sorted") [.ref s₁.heap.objs.size]) P E _
 have R₂ : RelG C σ₁ { s₁ with heap := h₂, toks := tk₂ } := R₁.grow (tk := tk₂) hk₂
 have hnd : ks₂.Nodup := let ⟨_, _, _, _, _, _, _, _, _, _, _, _, _, hn⟩ := hX; hn
 have hl2 : ks₂.length ≤ 4000 := Nat.le_trans (hnd.length_le_of_subset fun z hz => (hm z).mp hz) hk4
 refine gM (xs := ks₂.map .str) ao R₂ (fun R' hR => br (n9 (by show A.handled = _; exact ao.none hpl) hX fun h' tk d vs ks' hk hs hp => ?_)) (.strs _) (by rw [List.length_map]; exact Nat.le_trans hl2 (by decide)) (newP.any fun ks' p => q₁ ks' (p.nodup_iff.mpr hnd) fun z => p.mem_iff.trans (hm z))
  fun v w σ' s' hv' R' S' q' => hP v w σ' s' hv' R' ((S₁.trans (.grow hk₂ hsz₂)).trans S') q'
 intro hsz
 exact hR h' tk d vs _ hk hsz (f8 hs) (hp.map _)
end
end Mine
end
noncomputable section
namespace Mine
open PySem PySem.W PyProof.Rows PySem.Calls
section
variable {C : Cx} {p : Program} {sc : Scope} {k : Nat}
noncomputable def dg : cR := fun vs σ Q => onR vs fun a => ∃ kvs ep, σ a = some (.dict kvs ep) ∧ tu kvs σ Q
theorem rL (O : C.Ok) : lX C k (fun ws => PySem.call (.type "dict") ws) dg := by
 intro A s σ vs ws Q P E ao R hv q hP
 replace q := onR.elim q
 obtain ⟨a, rfl, q⟩ := q
 ·obtain ⟨wa, rfl, h1⟩ := hv.inv1
  cases h1
  obtain ⟨kvs, ep, hx, q⟩ := q
  obtain ⟨hz, kws, h1, h2⟩ := R.view _ _ hx
  have hl := h2.length
  refine br (kt_call_dict (knd := PySem.strKind C.prog C.w) (O.noMods (R.apart a (by rw [hx]; simp))) h1.dictOf (by rw [sizeLine_eq]; omega) fun h' hd' hs' => ?_)
  intro hsz
  obtain ⟨ep', hat⟩ := hd'.dictAt
  have hn := bQ s.heap
  have hk : ∀ b o, s.heap.get? b = some o → h'.get? b = some o := fun b o e => hs'.extBut b o (Nat.ne_of_lt (Heap.lt_size e)) (Heap.get?_push_of_some _ e)
  exact hP _ _ (a8 σ s.heap.objs.size (.dict kvs ep')) _ (.ref _) (R.add (tk := s.toks) hk hn ⟨hz, kws, hat, h2.keep fun b o e _ => hk b o e⟩) (.add hk hsz (Nat.le_refl _)) (q _ ep' (R.freshNone hn))
theorem dZ (G : Gl C p) {np pos : Pos} {es : List Expr} {L : LT} (hn : sc.names.lookup (Str.ofString "dict") = some .globalImplicit) (hl : HL C sc k es L) (hp : aQ es = true) : HE C sc k (.Call (.Name (Str.ofString "dict") np) es [] pos) (aC dg L) :=
 i4 G.ok (rL G.ok) hn (G.free _ (by decide)) (G.blt pS (by decide)) rfl hl hp
noncomputable def bX : cR := fun vs σ Q => onRS vs fun a x => ∃ kvs ep, σ a = some (.dict kvs ep) ∧ Q ((dm kvs x).getD .none) σ
theorem uD (O : C.Ok) : lX C k (fun ws => PySem.call (.builtin "dict.get") ws) bX := by
 intro A s σ vs ws Q P E ao R hv q hP
 replace q := onRS.elim q
 obtain ⟨a, x, rfl, q⟩ := q
 ·obtain ⟨wa, wb, rfl, h1, h2⟩ := hv.inv2
  cases h1; cases h2 with | str _ t =>
  obtain ⟨kvs, ep, hx, q⟩ := q
  obtain ⟨hz, kws, h1, h2⟩ := R.view _ _ hx
  refine call_meetsIn _root_.PySem.F.slot_dict_get h1.dictOf.typeIs _root_.PySem.F.entry_dict_get (_root_.PySem.F.args_dict_get_2 _ _) (meets_dict_get (PySem.strKind C.prog C.w) a (je x t) (O.noMods (R.apart a (by rw [hx]; simp)))) ⟨_, h1.dictOf.mapOf, ?_⟩
  cases hg : dm kvs x with
  | none =>
   rw [hg] at q
   have e : valueAt kws x = Option.none := by
    have : (valueAt kws x).isSome = false := by rw [← h2.none (k := x), hg]; rfl
    cases e : valueAt kws x with
    | none => rfl
    | some _ => rw [e] at this; cases this
   show P ((valueAt kws x).getD .none) _
   rw [e]
   exact hP _ _ σ _ .none (R.tok _) Step.refl q
  | some v =>
   rw [hg] at q
   obtain ⟨w, e1, e2⟩ := h2.find hg
   show P ((valueAt kws x).getD .none) _
   rw [e1]
   exact hP _ _ σ _ e2 (R.tok _) Step.refl q
theorem bD (G : Gl C p) {o : Expr} {apos pos : Pos} {es : List Expr} {To : ET} {L : LT} (ho : HE C sc k o To) (hl : HL C sc k es L) (hp : aQ es = true)
  (hbase : ∀ env, attributeBase o (Str.ofString "get") env (eval o env) = eval o env) (hline : (apos.endLine == pos.line) = true) (hfew : es.length < 30) : HE C sc k (.Call (.Attribute o (Str.ofString "get") apos) es [] pos) (a4 bi bX To L) :=
 gW lw F.plainAttrs_dict F.slot_dict_get F.type_dict_get (uD G.ok) ho hl hp hbase hline hfew
noncomputable def dq : O2 := fun i o σ Q => isS i fun x => isR o fun a => ∃ kvs ep, σ a = some (.dict kvs ep) ∧ Q (.bool (!(dm kvs x).isSome)) σ
theorem gO (O : C.Ok) : jH C k (compareOp .NotIn) dq := by
 intro A s σ a b wa wb Q P E ao R va vb q hP
 replace q := isS.elim q
 obtain ⟨x, rfl, q⟩ := q
 replace q := isR.elim q
 obtain ⟨a, rfl, q⟩ := q
 ·cases va; cases vb
  obtain ⟨kvs, ep, hx, q⟩ := q
  obtain ⟨_, kws, h1, h2⟩ := R.view _ _ hx
  refine wpAny_notIn_of (knd := PySem.strKind C.prog C.w) (je x _) (O.noMods (R.apart a (by rw [hx]; simp))) h1.dictOf.mapOf ?_
  rw [← h2.none]
  exact hP _ _ σ _ (.bool _) (R.tok _) Step.refl q
noncomputable def eH : V → Bool
 | .none => true
 | _ => false
noncomputable def onBN (b : V) (F : Bool → Prop) (G : Prop) : Prop := match b with | .none => G | .bool y => F y | _ => False
theorem onBN.elim {b : V} {F : Bool → Prop} {G : Prop} (h : onBN b F G) : (b = .none ∧ G) ∨ ∃ y, b = .bool y ∧ F y := by
 cases b <;> first | exact .inl ⟨rfl, h⟩ | exact .inr ⟨_, rfl, h⟩ | exact False.elim h
noncomputable def tm : O2 := fun a b σ Q => onBN b (fun y => isB a fun x => Q (.bool (x == y)) σ) (Q (.bool (eH a)) σ)
noncomputable def bY : O2 := fun a b σ Q => onBN b (fun y => isB a fun x => Q (.bool (x != y)) σ) (Q (.bool (!eH a)) σ)
theorem nA {h : Heap} {v : V} {w : Value} (hv : VRel C.aS h v w) : (w == Value.none) = eH v := by
 cases hv <;> rfl
theorem vQ : jH C k (compareOp .Is) tm := by
 intro A s σ a b wa wb Q P E ao R va vb q hP
 rcases onBN.elim q with ⟨rfl, q⟩ | ⟨y, rfl, q⟩
 ·cases vb
  exact is_none_gen (by rw [nA va]; exact hP _ _ σ s (.bool _) R Step.refl q)
 ·obtain ⟨x, rfl, q⟩ := isB.elim q
  cases va; cases vb
  exact is_bool (hP _ _ σ s (.bool _) R Step.refl q)
theorem gj : jH C k (compareOp .IsNot) bY := by
 intro A s σ a b wa wb Q P E ao R va vb q hP
 rcases onBN.elim q with ⟨rfl, q⟩ | ⟨y, rfl, q⟩
 ·cases vb
  exact isnot_none_gen (by rw [nA va]; exact hP _ _ σ s (.bool _) R Step.refl q)
 ·obtain ⟨x, rfl, q⟩ := isB.elim q
  cases va; cases vb
  exact isnot_bool (hP _ _ σ s (.bool _) R Step.refl q)
noncomputable def rx (g : Tgt) (T : ET) : ST := fun m σ Q => T m σ fun v σ' => ∃ m', dB g v m = some m' ∧ Q .next m' σ'
theorem sA {elts : List Expr} {n : Nat} {p pos : Pos} {value : Expr} {g : Tgt} {loc : Bool} {T : ET} (ht : HT C sc k loc (.Tuple elts n p) g) (he : HE C sc k value T) (hs : ∀ env, EnvOk env sc → swapsWithSole [.Tuple elts n p] value pos.line env = pure false)
  (hw : ∀ env, EnvOk env sc → swappedStores [.Tuple elts n p] value env = pure Option.none) : HS1 C sc k (.Assign [.Tuple elts n p] value pos) (rx g T) := by
 refine ⟨?_⟩; intro env A s m σ Q P E en ao R F q hP
 refine Assign_Tuple (he.run env A s m σ _ _ E en ao R F q fun v w σ₁ s₁ hv R₁ S₁ q₁ => ?_) (hs env en) (hw env en)
 obtain ⟨m', hm, q₁⟩ := q₁
 exact ht.run env A s₁ m m' σ₁ v w _ _ en ao R₁ (F.step R S₁) hv hm fun s₂ R₂ F₂ S₂ => hP .next .next _ σ₁ s₂ .next R₂ F₂ ((S₁.own).trans (S₂.mono fun _ _ _ z => z.imp id fun z => z.2)) q₁
end
section
variable {m : aT} {σ : ai} {Q : V → ai → Prop} {R : Fl → aT → ai → Prop} {ns : List Int}
@[simp] theorem vL {g : Tgt} {T : ET} : rx g T m σ R = T m σ fun v σ' => ∃ m', dB g v m = some m' ∧ R .next m' σ' := rfl
@[simp] theorem vm {T : ET} : o9 T m σ Q = T m σ fun v σ₁ => ∃ a kvs ep, v = .ref a ∧ σ₁ a = some (.dict kvs ep) ∧ newP (kvs.map (·.1)) σ₁ Q := rfl
@[simp] theorem t7 {T : ET} : eR T m σ Q = T m σ fun v σ₁ => ∃ a ks, v = .ref a ∧ σ₁ a = some (.list (List.map V.str ks)) ∧ ks.length ≤ 4000 ∧ ∀ us : List Str, us.Nodup → (∀ z, z ∈ us ↔ z ∈ ks) → dF (us.map .str) σ₁ Q := rfl
theorem cx {a : Addr} {kvs : List (Str × V)} {ep : Nat} (h : σ a = some (.dict kvs ep)) (q : tu kvs σ Q) : dg [.ref a] σ Q := ⟨kvs, ep, h, q⟩
theorem nS {a : Addr} {kvs : List (Str × V)} {ep : Nat} {x : Str} (h : σ a = some (.dict kvs ep)) (q : Q ((dm kvs x).getD .none) σ) : bX [.ref a, .str x] σ Q := ⟨kvs, ep, h, q⟩
theorem fq {a : Addr} {kvs : List (Str × V)} {ep : Nat} {x : Str} (h : σ a = some (.dict kvs ep)) (q : Q (.bool (!(dm kvs x).isSome)) σ) : dq (.str x) (.ref a) σ Q := ⟨kvs, ep, h, q⟩
theorem nk {a : Addr} {kvs : List (Str × V)} {ep : Nat} (h : σ a = some (.dict kvs ep)) (q : newP (kvs.map (·.1)) σ Q) : eJ [.ref a] σ Q := by
 show onO (σ a) _ _
 rw [h]
 exact q
theorem nj {a : Addr} {xs : List V} (h : σ a = some (.list xs)) (hk : SK xs) (q : ∀ ys : List V, ys.Perm xs → dF ys σ Q) : eJ [.ref a] σ Q := by
 show onO (σ a) _ _
 rw [h]
 exact ⟨hk, q⟩
@[simp] theorem wS {v : V} : tm v .none σ Q = Q (.bool (eH v)) σ := rfl
@[simp] theorem uM {v : V} : bY v .none σ Q = Q (.bool (!eH v)) σ := rfl
@[simp] theorem yh {a b : Bool} : tm (.bool a) (.bool b) σ Q = Q (.bool (a == b)) σ := rfl
@[simp] theorem v7 {a b : Bool} : bY (.bool a) (.bool b) σ Q = Q (.bool (a != b)) σ := rfl
end
end Mine
end
noncomputable section
namespace Mine
open PySem PySem.W PyProof.Rows PySem.Calls
noncomputable def vr (v : V) : Prop := v = .none ∨ ∃ y, v = .str y
inductive SameD (σ : ai) : V → V → Prop
 | mk (p q : Addr) (k1 k2 : List (Str × V)) (e1 e2 : Nat) (hp : σ p = some (.dict k1 e1)) (hq : σ q = some (.dict k2 e2)) (hl : k1.length = k2.length) (hm : ∀ z ∈ k1, z ∈ k2) (hf : ∀ z ∈ k1, vr z.2) : SameD σ (.ref p) (.ref q)
inductive SameDs (σ : ai) : List V → List V → Prop
 | nil : SameDs σ [] []
 | cons {a b : V} {as bs : List V} (h : SameD σ a b) (r : SameDs σ as bs) : SameDs σ (a :: as) (b :: bs)
inductive SameL (σ : ai) : V → V → Prop
 | mk (p q : Addr) (xs ys : List V) (hp : σ p = some (.list xs)) (hq : σ q = some (.list ys)) (h : SameDs σ xs ys) : SameL σ (.ref p) (.ref q)
theorem SameDs.len {σ : ai} {xs ys : List V} (h : SameDs σ xs ys) : xs.length = ys.length := by
 induction h with
 | nil => rfl
 | cons _ _ ih => exact congrArg (· + 1) ih
theorem iA : ∀ {U : List (Str × V)} {x : Str} {v w : V}, (U.map (·.1)).Nodup → (x, v) ∈ U → (x, w) ∈ U → v = w
 | q :: r, x, v, w, h, h1, h2 => by
  have hn := List.nodup_cons.mp h
  rcases List.mem_cons.mp h1 with e1 | g1
  ·rcases List.mem_cons.mp h2 with e2 | g2
   ·rw [← e1] at e2; cases e2; rfl
   ·subst e1; exact absurd (List.mem_map.mpr ⟨_, g2, rfl⟩) hn.1
  ·rcases List.mem_cons.mp h2 with e2 | g2
   ·subst e2; exact absurd (List.mem_map.mpr ⟨_, g1, rfl⟩) hn.1
   ·exact iA hn.2 g1 g2
section
variable {C : Cx} {sc : Scope} {k : Nat} {A : Around} {s : Shared} {σ : ai}
theorem lK {kvs : List (Str × V)} {w2 : List (Str × Value)} (h2 : PRel C.aS s.heap kvs w2) (hn : (kvs.map (·.1)).Nodup) {k1 : List (Str × V)} {w1 : List (Str × Value)} (x : PRel C.aS s.heap k1 w1) : (∀ z ∈ k1, z ∈ kvs) → (∀ z ∈ k1, vr z.2) → KeqHits A s w2 w1 true := by
 refine x.ind (P := fun k1 w1 => (∀ z ∈ k1, z ∈ kvs) → (∀ z ∈ k1, vr z.2) → KeqHits A s w2 w1 true) (fun _ _ => .nil) fun k v w r r' hv _ ih hm hs => ?_
 have hk := hm (k, v) (.head _)
 have ih := ih (fun z hz => hm z (.tail _ hz)) fun z hz => hs z (.tail _ hz)
 obtain ⟨v', g1, g2⟩ := dl (List.mem_map.mpr ⟨_, hk, rfl⟩)
 cases iA hn g2 hk
 obtain ⟨wy, e1, e2⟩ := h2.find g1
 rcases hs (k, v) (.head _) with e | ⟨y, e⟩
 ·cases e
  cases hv; cases e2
  exact .hit e1 (SeqAt.EqAt.same _) ih
 ·cases e
  obtain ⟨t, rfl⟩ := hv.invStr
  obtain ⟨u, rfl⟩ := e2.invStr
  have eq := SeqAt.EqAt.str_str (A := A) (s := s) y t y u
  rw [beq_self_eq_true] at eq
  exact .hit e1 eq ih
theorem so (O : C.Ok) (R : RelG C σ s) (hu : A.units < cLine) {a b : V} {wa wb : Value} (h : SameD σ a b) (va : VRel C.aS s.heap a wa) (vb : VRel C.aS s.heap b wb) : wv C A s wa wb true := by
 obtain ⟨p, q, k1, k2, e1, e2, hp, hq, hl, hm, hf⟩ := h
 cases va; cases vb
 obtain ⟨_, ws, h1, h2⟩ := R.view _ _ hp
 obtain ⟨_, us, h3, h4⟩ := R.view _ _ hq
 have hn : (k2.map (·.1)).Nodup := by rw [h4.keys]; exact let ⟨_, _, _, _, _, _, _, _, hn⟩ := h3.dictOf; hn
 have n1 := O.noMods (R.apart p (by rw [hp]; simp))
 have n2 := O.noMods (R.apart q (by rw [hq]; simp))
 have el : (ws.length == us.length && true) = true := by rw [← h2.length, ← h4.length, hl, beq_self_eq_true]; rfl
 intro op E Q hop hQ
 rcases hop with rfl | rfl
 ·exact keq_eq n1 n2 h1.dictOf h3.dictOf hu (fun _ => lK h4 hn h2 hm hf) (by rw [el]; exact hQ)
 ·exact keq_ne n1 n2 h1.dictOf h3.dictOf hu (fun _ => lK h4 hn h2 hm hf) (by rw [el]; exact hQ)
theorem wl (O : C.Ok) (R : RelG C σ s) (hu : A.units < cLine) {a b : V} {wa wb : Value} (h : SameD σ a b) (va : VRel C.aS s.heap a wa) (vb : VRel C.aS s.heap b wb) : EqW C A s wa wb true := by
 have hc := so O R hu h va vb
 obtain ⟨p, q, k1, k2, e1, e2, hp, hq, hl, hm, hf⟩ := h
 cases va; cases vb
 by_cases e : p = q
 ·subst e; exact EqW.at (SeqAt.EqAt.same _)
 ·exact EqW.of_refs e hc
theorem uT (O : C.Ok) (R : RelG C σ s) (hu : A.units < cLine) {xs ys : List V} {ws us : List Value} (h : SameDs σ xs ys) : VRels C.aS s.heap xs ws → VRels C.aS s.heap ys us → EqWs C A s ws us true := by
 induction h generalizing ws us with
 | nil => intro r1 r2; rw [r1.inv0, r2.inv0]; rfl
 | cons h r ih =>
  intro r1 r2
  obtain ⟨w, ws, rfl, v1, r1⟩ := r1.invC
  obtain ⟨u, us, rfl, v2, r2⟩ := r2.invC
  exact ⟨true, wl O R hu h v1 v2, .inl ⟨rfl, ih r1 r2⟩⟩
theorem wj (O : C.Ok) (R : RelG C σ s) (hu : A.in1.units < cLine) {a b : V} {wa wb : Value} (h : SameL σ a b) (va : VRel C.aS s.heap a wa) (vb : VRel C.aS s.heap b wb) {P E : Value → Shared → Prop} : (P (.bool true) s → wpAny (model C.prog C.w) A (compareOp .Eq wa wb) P E s) ∧ (P (.bool false) s → wpAny (model C.prog C.w) A (compareOp .NotEq wa wb) P E s) := by
 obtain ⟨p, q, xs, ys, hp, hq, h⟩ := h
 cases va; cases vb
 obtain ⟨_, ws, h1, h2⟩ := R.view _ _ hp
 obtain ⟨_, us, h3, h4⟩ := R.view _ _ hq
 have he := uT (A := A.in1) O R hu h h2 h4
 have hl : ws.length = us.length := by rw [← h2.length, ← h4.length, h.len]
 have hu' : A.units < cLine := Nat.lt_of_le_of_lt (Nat.le_succ _) hu
 obtain ⟨⟨cls, dd, data, sl⟩, ho, hc, n, hd⟩ := id h1.isList
 obtain ⟨⟨cls2, dd2, data2, sl2⟩, ho2, hc2, n2, hd2⟩ := id h3.isList
 simp only at hc hd hc2 hd2
 subst hc hd hc2 hd2
 refine ⟨fun fin => ?_, fun fin => ?_⟩
 ·exact wpAny_richCompare_same_room (op := .Eq) ⟨_, ho, rfl⟩ ⟨_, ho2, rfl⟩ _root_.PySem.F.slot_list_eq (call_meetsIn _root_.PySem.F.slot_list_eq ⟨_, ho, rfl⟩ _root_.PySem.F.entry_list_eq (_root_.PySem.F.args_list_eq_2 _ _)
   (S := fun A' R s' => A' = A ∧ s' = s ∧ R (.ok (.ret (.bool true))) s) (fun A' R s' ⟨e1, e2, hR⟩ => by subst e1 e2; exact rT p q ws us n n2 dd dd2 sl sl2 ho ho2 (fun _ => he) (fun z => absurd hl z) hR) ⟨rfl, rfl, (fun x => nomatch x), fin⟩) hu'
 ·exact wpAny_richCompare_same_room (op := .NotEq) ⟨_, ho, rfl⟩ ⟨_, ho2, rfl⟩ _root_.PySem.F.slot_list_ne (call_meetsIn _root_.PySem.F.slot_list_ne ⟨_, ho, rfl⟩ _root_.PySem.F.entry_list_ne (_root_.PySem.F.args_list_ne_2 _ _)
   (S := fun A' R s' => A' = A ∧ s' = s ∧ R (.ok (.ret (.bool (!true)))) s) (fun A' R s' ⟨e1, e2, hR⟩ => by subst e1 e2; exact rS p q ws us n n2 dd dd2 sl sl2 ho ho2 (fun _ => he) (fun z => absurd hl z) hR) ⟨rfl, rfl, (fun x => nomatch x), fin⟩) hu'
noncomputable def ig : O2 := fun a b σ Q => SameD σ a b ∧ Q (.bool false) σ
noncomputable def rE : O2 := fun a b σ Q => SameL σ a b ∧ Q (.bool true) σ
noncomputable def ke : O2 := fun a b σ Q => SameL σ a b ∧ Q (.bool false) σ
theorem oE {A : Around} (ao : AOk C A k) : A.in1.units < cLine := by
 have hu : A.units + 2 < cLine := Nat.lt_of_le_of_lt (Nat.add_le_add (Nat.le_add_right _ _) (by decide)) ao.units
 exact Nat.lt_of_le_of_lt (Nat.le_succ _) hu
theorem tn (O : C.Ok) : jH C k (compareOp .NotEq) ig := by
 intro A s σ a b wa wb Q P E ao R va vb q₀ hP
 exact so O R (Nat.lt_of_le_of_lt (Nat.le_succ _) (oE ao)) q₀.1 va vb .NotEq E P (.inr rfl) (hP _ _ σ s (.bool false) R Step.refl q₀.2)
theorem uE (O : C.Ok) : jH C k (compareOp .Eq) rE := by
 intro A s σ a b wa wb Q P E ao R va vb q₀ hP
 exact (wj O R (oE ao) q₀.1 va vb).1 (hP _ _ σ s (.bool true) R Step.refl q₀.2)
theorem uy (O : C.Ok) : jH C k (compareOp .NotEq) ke := by
 intro A s σ a b wa wb Q P E ao R va vb q₀ hP
 exact (wj O R (oE ao) q₀.1 va vb).2 (hP _ _ σ s (.bool false) R Step.refl q₀.2)
end
end Mine
end
noncomputable section
namespace Mine
open PySem
noncomputable def FrsOk (C : Cx) (σ : ai) (h : Heap) (fs : List Env) : Prop := ∀ x ∈ fs, x.scope.kind ≠ .module ∧ ∃ L, x.frame = some L ∧ C.hB.get? L = none ∧ σ L = none ∧ ∃ o es ep, h.get? L = some o ∧ o.data = .dict es ep
structure FOk (C : Cx) (A : Around) (env : Env) (σ : ai) (h : Heap) : Prop where
 frames : ∃ outer, A.frames = some (env :: outer) ∧ FrsOk C σ h outer ∧ ∀ x ∈ outer, ∀ L, x.frame = some L → ¬ i6 env L
 frame : env.frame = some env.locals
inductive FlyB (n : Nat) (σ : ai) (h : Heap) (e : Addr) (ok : Option Value → Prop) (vs : Array Value) : Prop
 | mk (T : Addr) (oT : Obj) (ts : Array Value) (fl : Value) (h1 : vs[1]? = some (.ref T)) (hn : n ≤ T) (hs : σ T = none) (hne : T ≠ e) (ho : h.get? T = some oT) (hd : oT.data = .fields ts) (h3 : ts[3]? = some fl) (hk : ok (some fl)) : FlyB n σ h e ok vs
inductive FlyTb (n : Nat) (σ : ai) (h : Heap) (e : Addr) (ok : Option Value → Prop) (vs : Array Value) : Prop
 | inl (x : ok none ∧ vs[1]? = some .none) : FlyTb n σ h e ok vs
 | inr (x : FlyB n σ h e ok vs) : FlyTb n σ h e ok vs
inductive FlyO (C : Cx) (c : String) (n : Nat) (σ : ai) (h : Heap) (e : Addr) (ok : Option Value → Prop) : Prop
 | mk (oe : Obj) (vs : Array Value) (Cl : Addr) (he : h.get? e = some oe) (hg : C.mg (Str.ofString c) = some (.ref Cl)) (hc : oe.cls = .ref Cl) (hd : oe.data = .fields vs) (h2 : vs[2]? = some .none) (h2s : 2 < vs.size) (tb : FlyTb n σ h e ok vs) : FlyO C c n σ h e ok
structure Fly (C : Cx) (c : String) (n : Nat) (σ : ai) (h : Heap) (e : Addr) (ok : Option Value → Prop) : Prop where
 obj : FlyO C c n σ h e ok
 new : n ≤ e
 sep : σ e = none
structure Moved (n : Nat) (σ : ai) (S : List Addr) (h h' : Heap) : Prop where
 size : h.objs.size ≤ h'.objs.size
 keep : ∀ b o, h.get? b = some o → (b < n ∨ σ b ≠ none ∨ ∀ vs, o.data ≠ .fields vs) → b ∉ S → h'.get? b = some o
 slots : ∀ b o, h.get? b = some o → b ∈ S → ∃ sl, h'.get? b = some { o with slots := sl }
theorem Moved.trans {n : Nat} {σ : ai} {S : List Addr} {h₁ h₂ h₃ : Heap} (x : Moved n σ S h₁ h₂) (y : Moved n σ S h₂ h₃) : Moved n σ S h₁ h₃ where
 size := Nat.le_trans x.size y.size
 keep := fun b o e z q => y.keep b o (x.keep b o e z q) z q
 slots := fun b o e q => by
  obtain ⟨sl, h1⟩ := x.slots b o e q
  obtain ⟨sl', h2⟩ := y.slots b _ h1 q
  exact ⟨sl', h2⟩
theorem Moved.refl {n : Nat} {σ : ai} {S : List Addr} {h : Heap} : Moved n σ S h h := ⟨Nat.le_refl _, fun _ _ e _ _ => e, fun _ o e _ => ⟨o.slots, e⟩⟩
section
variable {C : Cx} {M : Model} {A : Around} {E : Value → Shared → Prop} {s : Shared} {env : Env} {σ : ai} {m : aT} {c : String} {n : Nat} {e : Addr} {ok : Option Value → Prop}
noncomputable def frs (env : Env) (outer : List Env) : List Addr := (env :: outer).filterMap (·.frame)
theorem o4 {outer : List Env} (hf : env.frame = some env.locals) (hk : env.scope.kind = .function) (F : FrameRel C env m σ s.heap) (ho : FrsOk C σ s.heap outer) : s.heap.FunFrames C.hB (env :: outer) := by
 obtain ⟨mm, ⟨oL, es, ep, hoL, hdL, _⟩, _⟩ := F.ns
 refine ⟨by rw [hk]; decide, ⟨_, oL, hf, F.baseL, hoL, fun vs q => by rw [hdL] at q; cases q⟩, ?_⟩
 clear F hoL hdL
 induction outer with
 | nil => trivial
 | cons x r ih =>
  obtain ⟨h1, L, h2, h3, h4, o, es', ep', h5, h6⟩ := ho x (.head _)
  exact ⟨h1, ⟨L, o, h2, h3, h5, fun vs q => by rw [h6] at q; cases q⟩, ih fun y hy => ho y (.tail _ hy)⟩
theorem lC {outer : List Env} {oe : Obj} {vs : Array Value} {Cl : Addr} {head : Value} {had : Bool} {Q : Unit → Shared → Prop} (hfr : A.frames = some (env :: outer)) (hl : s.heap.FunFrames C.hB (env :: outer)) (hf : env.frame = some env.locals)
  (he : s.heap.get? e = some oe) (hmg : C.mg (Str.ofString c) = some (.ref Cl)) (hcls : oe.cls = .ref Cl) (hd : oe.data = .fields vs) (h2 : vs[2]? = some .none) (hn : n ≤ e) (hnz : n ≤ s.heap.objs.size) (hs : σ e = none) (hsT : σ s.heap.objs.size = none)
  (h : ∀ h', Fly C c n σ h' e (fun x => x = some (rawInt env.locals)) → Moved n σ (frs env outer) s.heap h' → Q () { s with heap := h' }) :
  wpAny M A (do let a ← frameOf env; let pl ← entryPlaceOf env.locals had; let b ← EntryCells.newEntry head a .none (rawInt env.locals) .none pl; setField (.ref e) 1 b) Q E s := by
 have hene : e ∉ frs env outer := fun hm => by
  obtain ⟨_, o, ho, hnf⟩ := hl.mem hm
  rw [he] at ho; cases ho; exact hnf vs hd
 have h1sz : 2 < vs.size := (Array.getElem?_eq_some_iff.mp h2).1
 refine wpAny_bind (wpAny_frameOf_fun hfr hl hf fun h₁ hs₁ => ?_)
 refine wpAny_bind (wpAny_entryPlaceOf fun pl hpl => ?_)
 unfold EntryCells.newEntry newFields
 refine wpAny_bind (wpAny_newObj_type ?_ (hpl.sizeOk5 _ _ _ _ _))
 generalize hot : ({ cls := .type "traceback", dict := none, data := .fields ([head, .ref env.locals, .none, rawInt env.locals, .none] ++ (if pl.isEmpty then List.replicate 6 Value.none else pl)).toArray } : Obj) = ot
 have hdt : ot.data = .fields ([head, .ref env.locals, .none, rawInt env.locals, .none] ++ (if pl.isEmpty then List.replicate 6 Value.none else pl)).toArray := by rw [← hot]
 have he₁ : h₁.get? e = some oe := (hs₁.2.1 e hene).trans he
 have he₂ := Heap.get?_push_of_some (h := h₁) ot he₁
 have hTe : h₁.objs.size ≠ e := Nat.ne_of_gt (Heap.lt_size he₁)
 have hd₃ := Obj.data_mapFields hd (·.setIfInBounds 1 (Value.ref h₁.objs.size))
 refine wpAny_setField he₂ hd (by exact Nat.le_of_lt h1sz) (h _ ?_ ?_)
 ·have he₃ := Heap.get?_update_self (Obj.mapFields (·.setIfInBounds 1 (Value.ref h₁.objs.size))) he₂ (Obj.isFreed_of_fields hd₃)
  have hT₃ := (Heap.get?_update_other (h₁.push ot) (Obj.mapFields (·.setIfInBounds 1 (Value.ref h₁.objs.size))) (Ne.symm hTe)).trans (Heap.get?_push_size h₁ (by rw [← hot]; rfl))
  refine ⟨⟨_, _, Cl, he₃, hmg, (Obj.cls_mapFields _ _).trans hcls, hd₃, by rw [Array.getElem?_setIfInBounds_ne (by decide)]; exact h2, by rw [Array.size_setIfInBounds]; exact h1sz, .inr ⟨h₁.objs.size, ot, _, rawInt env.locals, by rw [Array.getElem?_setIfInBounds_self_of_lt (by exact Nat.le_of_lt h1sz)], by rw [hs₁.1]; exact hnz, by rw [hs₁.1]; exact hsT, hTe, hT₃, hdt, by rfl, rfl⟩⟩, hn, hs⟩
 ·refine ⟨?_, fun b o hb hz hq => ?_, fun b o hb hq => ?_⟩
  ·rw [Heap.size_after_update, Heap.size_push, hs₁.1]; exact Nat.le_succ _
  ·have hbe : b ≠ e := by
    rintro rfl
    rw [he] at hb; cases hb
    rcases hz with z | z | z
    ·exact absurd hn (Nat.not_le.mpr z)
    ·exact z hs
    ·exact z vs hd
   rw [Heap.get?_update_other _ _ (Ne.symm hbe)]
   exact Heap.get?_push_of_some _ ((hs₁.2.1 b hq).trans hb)
  ·obtain ⟨sl, h3⟩ := hs₁.2.2 b o hb
   have hbe : b ≠ e := fun q => hene (q ▸ hq)
   exact ⟨sl, by rw [Heap.get?_update_other _ _ (Ne.symm hbe)]; exact Heap.get?_push_of_some _ h3⟩
theorem Fly.head {T : Addr} {oe oT : Obj} {vs ts : Array Value} {Cl : Addr} {h : Heap} {S : List Addr} (v : Value) (he : h.get? e = some oe) (hmg : C.mg (Str.ofString c) = some (.ref Cl)) (hcls : oe.cls = .ref Cl) (hd : oe.data = .fields vs) (h2 : vs[2]? = some .none) (h2s : 2 < vs.size)
  (h1 : vs[1]? = some (.ref T)) (hT : n ≤ T) (hσ : σ T = none) (hTe : T ≠ e) (hoT : h.get? T = some oT) (hdT : oT.data = .fields ts) (h3 : 3 < ts.size) (hn : n ≤ e) (hs : σ e = none) (hTS : T ∉ S) :
  Fly C c n σ (h.update T (Obj.mapFields (·.setIfInBounds 3 v))) e (fun x => x = some v) ∧ Moved n σ S h (h.update T (Obj.mapFields (·.setIfInBounds 3 v))) := by
 have other : ∀ b, b ≠ T → (h.update T (Obj.mapFields (·.setIfInBounds 3 v))).get? b = h.get? b := fun b hb => Heap.get?_update_other _ _ (Ne.symm hb)
 have hd₃ := Obj.data_mapFields hdT (·.setIfInBounds 3 v)
 have self := Heap.get?_update_self (Obj.mapFields (·.setIfInBounds 3 v)) hoT (Obj.isFreed_of_fields hd₃)
 refine ⟨⟨⟨oe, vs, Cl, (other e (Ne.symm hTe)).trans he, hmg, hcls, hd, h2, h2s, .inr ⟨T, _, _, v, h1, hT, hσ, hTe, self, hd₃, by rw [Array.getElem?_setIfInBounds_self_of_lt h3], rfl⟩⟩, hn, hs⟩, ?_⟩
 refine ⟨by rw [Heap.size_after_update]; exact Nat.le_refl _, fun b o hb hz hq => ?_, fun b o hb hq => ⟨o.slots, (other b (fun q => hTS (q ▸ hq))).trans hb⟩⟩
 refine (other b ?_).trans hb
 rintro rfl
 rw [hoT] at hb; cases hb
 rcases hz with z | z | z
 ·exact absurd hT (Nat.not_le.mpr z)
 ·exact z hσ
 ·exact z ts hdT
theorem vS {outer : List Env} {Q : Unit → Shared → Prop} (hfr : A.frames = some (env :: outer)) (hl : s.heap.FunFrames C.hB (env :: outer)) (hf : env.frame = some env.locals) (hnz : n ≤ s.heap.objs.size) (hsT : σ s.heap.objs.size = none)
  (X : Fly C c n σ s.heap e (fun x => x = none ∨ x = some .none ∨ x = some (rawInt env.locals)))
  (h : ∀ h', Fly C c n σ h' e (fun x => x = some (rawInt env.locals)) → Moved n σ (frs env outer) s.heap h' → Q () { s with heap := h' }) : wpAny M A (noteFrame (.ref e) env) Q E s := by
 obtain ⟨⟨oe, vs, Cl, he, hmg, hcls, hd, h2, h2s, hT⟩, hn, hs⟩ := X
 unfold noteFrame
 simp only [hf]
 rcases hT with ⟨_, h1⟩ | ⟨T, oT, ts, fl, h1, hT, hσ, hTe, hoT, hdT, h3, hok⟩
 ·refine wpAny_bind (wpAny_field he hd h1 ?_)
  rw [if_neg (by decide)]
  exact lC hfr hl hf he hmg hcls hd h2 hn hnz hs hsT h
 ·refine wpAny_bind (wpAny_field he hd h1 ?_)
  rw [if_pos (show (Value.ref T != Value.none) = true from by simp)]
  refine wpAny_bind (wpAny_field hoT hdT h3 ?_)
  have h3s : 3 < ts.size := (Array.getElem?_eq_some_iff.mp h3).1
  have hTS : T ∉ frs env outer := fun hm => by
   obtain ⟨_, o, ho, hnf⟩ := hl.mem hm
   rw [hoT] at ho; cases ho; exact hnf ts hdT
  rcases hok with hok | hok | hok
  ·cases hok
  ·cases hok
   rw [if_neg (show ¬ ((Value.none == rawInt env.locals) = true) from by simp [rawInt])]
   refine wpAny_bind (wpAny_setField hoT hdT h3s ?_)
   obtain ⟨⟨⟨oe', vs', Cl', he', hmg', hcls', hd', h2', _, _⟩, _, _⟩, Mv⟩ := Fly.head (S := frs env outer) (c := c) .none he hmg hcls hd h2 h2s h1 hT hσ hTe hoT hdT h3s hn hs hTS
   refine lC hfr (hl.of_keeps fun b o hb hnf => ⟨o, ?_, rfl⟩) hf he' hmg' hcls' hd' h2' hn (by rw [Heap.size_after_update]; exact hnz) hs (by rw [Heap.size_after_update]; exact hsT) fun h' F' M' => h h' F' (Mv.trans M')
   rw [Heap.get?_update_other _ _ (fun q => by rw [← q, hoT] at hb; cases hb; exact hnf ts hdT)]
   exact hb
  ·cases hok
   rw [if_pos (show (rawInt env.locals == rawInt env.locals) = true from by simp)]
   exact wpAny_pure (h s.heap ⟨⟨oe, vs, Cl, he, hmg, hcls, hd, h2, h2s, .inr ⟨T, oT, ts, _, h1, hT, hσ, hTe, hoT, hdT, h3, rfl⟩⟩, hn, hs⟩ .refl)
theorem tB {fr : Option Addr} {S : List Addr} {Q : Unit → Shared → Prop} (X : Fly C c n σ s.heap e (fun x => x ≠ none)) (hS : ∀ b o, s.heap.get? b = some o → b ∈ S → ∀ vs, o.data ≠ .fields vs)
  (h : ∀ h', Fly C c n σ h' e (fun x => x = some (fr.elim .none fun f => rawInt f)) → Moved n σ S s.heap h' → Q () { s with heap := h' }) : wpAny M A (setFlight (.ref e) fr) Q E s := by
 obtain ⟨⟨oe, vs, Cl, he, hmg, hcls, hd, h2, h2s, hT⟩, hn, hs⟩ := X
 rcases hT with ⟨h0, _⟩ | ⟨T, oT, ts, fl, h1, hT, hσ, hTe, hoT, hdT, h3, _⟩
 ·exact absurd rfl h0
 have h3s : 3 < ts.size := (Array.getElem?_eq_some_iff.mp h3).1
 unfold setFlight
 refine wpAny_bind (wpAny_field he hd h1 ?_)
 rw [if_pos (show (Value.ref T != Value.none) = true from by simp)]
 obtain ⟨F', M'⟩ := Fly.head (S := S) (c := c) (fr.elim .none fun f => rawInt f) he hmg hcls hd h2 h2s h1 hT hσ hTe hoT hdT h3s hn hs fun hm => hS T oT hoT hm ts hdT
 exact wpAny_setField hoT hdT h3s (h _ F' M')
theorem Fly.mono {ok' : Option Value → Prop} {h : Heap} (X : Fly C c n σ h e ok) (k : ∀ x, ok x → ok' x) : Fly C c n σ h e ok' := by
 obtain ⟨⟨oe, vs, Cl, he, hmg, hcls, hd, h2, h2s, hT⟩, hn, hs⟩ := X
 refine ⟨⟨oe, vs, Cl, he, hmg, hcls, hd, h2, h2s, ?_⟩, hn, hs⟩
 rcases hT with ⟨h0, h1⟩ | ⟨T, oT, ts, fl, h1, hT, hσ, hTe, hoT, hdT, h3, hk⟩
 ·exact .inl ⟨k _ h0, h1⟩
 ·exact .inr ⟨T, oT, ts, fl, h1, hT, hσ, hTe, hoT, hdT, h3, k _ hk⟩
theorem Fly.less {n' : Nat} {h : Heap} (X : Fly C c n σ h e ok) (k : n' ≤ n) : Fly C c n' σ h e ok := by
 obtain ⟨⟨oe, vs, Cl, he, hmg, hcls, hd, h2, h2s, hT⟩, hn, hs⟩ := X
 refine ⟨⟨oe, vs, Cl, he, hmg, hcls, hd, h2, h2s, ?_⟩, Nat.le_trans k hn, hs⟩
 rcases hT with ⟨h0, h1⟩ | ⟨T, oT, ts, fl, h1, hT, hσ, hTe, hoT, hdT, h3, hk⟩
 ·exact .inl ⟨h0, h1⟩
 ·exact .inr ⟨T, oT, ts, fl, h1, Nat.le_trans k hT, hσ, hTe, hoT, hdT, h3, hk⟩
end
end Mine
end
noncomputable section
namespace Mine
open PySem
section
variable {C : Cx} {env : Env} {m : aT} {σ σ' : ai} {n : Nat} {S : List Addr}
noncomputable def DS (h : Heap) (S : List Addr) : Prop := ∀ b ∈ S, ∀ o, h.get? b = some o → ∃ es ep, o.data = .dict es ep
theorem Moved.tups {h h' : Heap} (M : Moved n σ S h h') (d : DS h S) : bb h h' := fun b o e ht => by
 obtain ⟨_, it, k, hd⟩ := ht
 refine M.keep b o e (.inr (.inr fun vs q => by rw [hd] at q; cases q)) fun hb => ?_
 obtain ⟨es, ep, q⟩ := d b hb o e
 rw [hd] at q; cases q
theorem RelG.moved {s : Shared} {h' : Heap} (R : RelG C σ s) (M : Moved n σ S s.heap h') (d : DS s.heap S) (hS : ∀ b ∈ S, C.hB.get? b = none ∧ σ b = none) (hn : ∀ b o, C.hB.get? b = some o → b < n) : RelG C σ { s with heap := h' } := by
 refine ⟨let ⟨_, tk, dr, e⟩ := R.rest; ⟨h', tk, dr, by rw [e]⟩, fun b o e => ?_, fun a o e => ?_, R.apart⟩
 ·exact M.keep b o (R.base b o e) (.inl (hn b o e)) fun hb => by rw [(hS b hb).1] at e; cases e
 ·refine (R.view a o e).keep (M.tups d) fun o' e' => M.keep a o' e' (.inr (.inl (by rw [e]; simp))) fun hb => by rw [(hS a hb).2] at e; cases e
theorem Moved.like {h h' : Heap} {b : Addr} {o : Obj} (M : Moved n σ S h h') (d : DS h S) (e : h.get? b = some o) (z : b < n ∨ σ b ≠ none ∨ ∀ vs, o.data ≠ .fields vs) : ∃ o', h'.get? b = some o' ∧ Like o o' := by
 by_cases hb : b ∈ S
 ·obtain ⟨sl, h1⟩ := M.slots b o e hb
  exact ⟨_, h1, .inr ⟨d b hb o e, sl, rfl⟩⟩
 ·exact ⟨o, M.keep b o e z hb, .refl o⟩
theorem FrameRel.moved {h h' : Heap} (F : FrameRel C env m σ h) (M : Moved n σ S h h') (d : DS h S) : FrameRel C env m σ h' := by
 have kt := M.tups d
 have kc : ∀ c v, h.IsCell c v → h'.IsCell c v := fun c v ⟨o, ho, hd⟩ => ⟨o, M.keep c o ho (.inr (.inr fun vs q => by rw [hd] at q; cases q)) (fun hb => by
  obtain ⟨es, ep, q⟩ := d c hb o ho
  rw [hd] at q; cases q), hd⟩
 obtain ⟨mm, hn, hv⟩ := F.ns
 refine ⟨⟨mm, Like.ns hn fun o e => M.like d e (.inr (.inr fun vs q => ?_)), fun x v e k => ?_⟩, fun x v e => ?_, fun n c e => ?_, F.sepL, F.baseL, F.baseC, F.dist, F.has⟩
 ·obtain ⟨oL, es, ep, ho, hd, _⟩ := hn
  rw [ho] at e; cases e; rw [hd] at q; cases q
 ·obtain ⟨w, h1, h2⟩ := hv x v e k; exact ⟨w, h1, h2.keep kt⟩
 ·rcases F.cel x v e with q | ⟨q, c, w, h1, h2, h3⟩
  ·exact .inl q
  ·exact .inr ⟨q, c, w, h1, kc _ _ h2, h3.keep kt⟩
 ·obtain ⟨v, hv⟩ := F.cells n c e; exact ⟨v, kc _ _ hv⟩
theorem Step.moved {own : Addr → Prop} {σ₀ : ai} {h₀ h h' : Heap} (x : Step own σ₀ σ h₀ h) (M : Moved n σ S h h') (d : DS h S) (hn : h₀.objs.size ≤ n) : Step own σ₀ σ h₀ h' where
 keepL := fun b o e z q => by
  obtain ⟨o', h1, h2⟩ := x.keepL b o e z q
  obtain ⟨o'', h3, h4⟩ := M.like d h1 (.inl (Nat.lt_of_lt_of_le (Heap.lt_size e) hn))
  exact ⟨o'', h3, h2.trans h4⟩
 size := Nat.le_trans x.size M.size
 new := x.new
theorem Like.dict {o o' : Obj} (x : Like o o') {es : Array DictEntry} {ep : Nat} (h : o.data = .dict es ep) : o'.data = .dict es ep := by
 rcases x with rfl | ⟨_, sl, rfl⟩ <;> exact h
theorem FrsOk.step {own : Addr → Prop} {h h' : Heap} {fs : List Env} (x : FrsOk C σ h fs) (S : Step own σ σ' h h') (ho : ∀ y ∈ fs, ∀ L, y.frame = some L → ¬ own L) : FrsOk C σ' h' fs := fun y hy => by
 obtain ⟨h1, L, h2, h3, h4, o, es, ep, h5, h6⟩ := x y hy
 obtain ⟨o', h7, h8⟩ := S.keepL L o h5 h4 (ho y hy L h2)
 refine ⟨h1, L, h2, h3, ?_, o', es, ep, h7, h8.dict h6⟩
 cases z : σ' L with
 | none => rfl
 | some q => exact absurd (Heap.lt_size h5) (Nat.not_lt.mpr (S.new L h4 (by rw [z]; simp)))
theorem FOk.step {A : Around} {h h' : Heap} (x : FOk C A env σ h) (S : Step (i6 env) σ σ' h h') : FOk C A env σ' h' := by
 obtain ⟨⟨outer, h1, h2, h3⟩, h4⟩ := x
 exact ⟨⟨outer, h1, h2.step S h3, h3⟩, h4⟩
theorem sf {s : Shared} {outer : List Env} (F : FrameRel C env m σ s.heap) (hf : env.frame = some env.locals) (ho : FrsOk C σ s.heap outer) : DS s.heap (frs env outer) ∧ ∀ b ∈ frs env outer, C.hB.get? b = none ∧ σ b = none := by
 have key : ∀ b ∈ frs env outer, (C.hB.get? b = none ∧ σ b = none) ∧ ∃ o es ep, s.heap.get? b = some o ∧ o.data = .dict es ep := by
  intro b hb
  unfold frs at hb
  rw [List.filterMap_cons, hf] at hb
  rcases List.mem_cons.mp hb with rfl | hb
  ·obtain ⟨mm, ⟨oL, es, ep, hoL, hdL, _⟩, _⟩ := F.ns
   exact ⟨⟨F.baseL, F.sepL⟩, oL, es, ep, hoL, hdL⟩
  ·obtain ⟨y, hy, hyb⟩ := List.mem_filterMap.mp hb
   obtain ⟨_, L, h2, h3, h4, h5⟩ := ho y hy
   rw [h2] at hyb; cases hyb
   exact ⟨⟨h3, h4⟩, h5⟩
 refine ⟨fun b hb o e => ?_, fun b hb => (key b hb).1⟩
 obtain ⟨_, o', es, ep, h1, h2⟩ := key b hb
 rw [e] at h1; cases h1; exact ⟨es, ep, h2⟩
end
abbrev XT := String → aT → ai → Prop
abbrev dy := aT → ai → (Fl → aT → ai → Prop) → XT → Prop
noncomputable def qw (env : Env) : Option Value → Prop := fun x => x = none ∨ x = some .none ∨ x = some (rawInt env.locals)
abbrev AftX (C : Cx) (env : Env) (σ : ai) (s : Shared) (X : XT) (E : Value → Shared → Prop) : Prop :=
 ∀ c e m' σ' s', Fly C c s.heap.objs.size σ' s'.heap e (qw env) → RelG C σ' s' → FrameRel C env m' σ' s'.heap → Step (i6 env) σ σ' s.heap s'.heap → X c m' σ' → E (.ref e) s'
structure HSX (C : Cx) (sc : Scope) (k : Nat) (b : List Stmt) (T : dy) : Prop where
 run : ∀ (env : Env) (A : Around) (s : Shared) (m : aT) (σ : ai) (Q : Fl → aT → ai → Prop) (X : XT) (P : Flow → Shared → Prop) (E : Value → Shared → Prop),
  EnvOk env sc → AOk C A k → RelG C σ s → FrameRel C env m σ s.heap → FOk C A env σ s.heap → T m σ Q X → sI C env σ s Q P → AftX C env σ s X E → wpAny (model C.prog C.w) A (execs b env) P E s
structure HSX1 (C : Cx) (sc : Scope) (k : Nat) (b : Stmt) (T : dy) : Prop where
 run : ∀ (env : Env) (A : Around) (s : Shared) (m : aT) (σ : ai) (Q : Fl → aT → ai → Prop) (X : XT) (P : Flow → Shared → Prop) (E : Value → Shared → Prop),
  EnvOk env sc → AOk C A k → RelG C σ s → FrameRel C env m σ s.heap → FOk C A env σ s.heap → T m σ Q X → sI C env σ s Q P → AftX C env σ s X E → wpAny (model C.prog C.w) A (exec b env) P E s
section
variable {C : Cx} {sc : Scope} {k : Nat}
noncomputable def xP (T : ST) : dy := fun m σ Q _ => T m σ Q
theorem HSX1.plain {st : Stmt} {T : ST} (h : HS1 C sc k st T) : HSX1 C sc k st (xP T) := ⟨fun env A s m σ Q X P E en ao R F _ q hP _ => h.run env A s m σ Q P E en ao R F q hP⟩
theorem HSX.plain {b : List Stmt} {T : ST} (h : HS C sc k b T) : HSX C sc k b (xP T) := ⟨fun env A s m σ Q X P E en ao R F _ q hP _ => h.run env A s m σ Q P E en ao R F q hP⟩
noncomputable def bW (T U : dy) : dy := fun m σ Q X => T m σ (fun f m₁ σ₁ => match f with
 | .next => U m₁ σ₁ Q X
 | f => Q f m₁ σ₁) X
theorem AftX.later {env : Env} {σ σ₁ : ai} {s s₁ : Shared} {X : XT} {E : Value → Shared → Prop} (h : AftX C env σ s X E) (S : Step (i6 env) σ σ₁ s.heap s₁.heap) : AftX C env σ₁ s₁ X E := fun c e m' σ' s' fl R F S' x => h c e m' σ' s' (fl.less S.size) R F (S.trans S') x
theorem HSX.cons {st : Stmt} {b : List Stmt} {T U : dy} (h1 : HSX1 C sc k st T) (h2 : HSX C sc k b U) : HSX C sc k (st :: b) (bW T U) := by
 refine ⟨?_⟩; intro env A s m σ Q X P E en ao R F W q hP hX
 refine wpAny_execs_cons (h1.run env A s m σ _ X _ E en ao R F W q (fun f g m₁ σ₁ s₁ hf R₁ F₁ S₁ q₁ => ?_) hX)
 cases hf with
 | next => exact h2.run env A s₁ m₁ σ₁ Q X P E en ao R₁ F₁ (W.step S₁) q₁ (fun f g m₂ σ₂ s₂ hf R₂ F₂ S₂ q₂ => hP f g m₂ σ₂ s₂ hf R₂ F₂ (S₁.trans S₂) q₂) (AftX.later hX S₁)
 | brk => exact hP _ _ m₁ σ₁ s₁ .brk R₁ F₁ S₁ q₁
 | cont => exact hP _ _ m₁ σ₁ s₁ .cont R₁ F₁ S₁ q₁
 | ret hv => exact hP _ _ m₁ σ₁ s₁ (.ret hv) R₁ F₁ S₁ q₁
noncomputable def vx (B : BT) (T U : dy) : dy := fun m σ Q X => B m σ fun b σ' => if b then T m σ' Q X else U m σ' Q X
theorem HSX1.ite {pos : Pos} {test : Expr} {a b : List Stmt} {B : BT} {T U : dy} (hb : HB C sc k test B) (h1 : HSX C sc k a T) (h2 : HSX C sc k b U) : HSX1 C sc k (.If test a b pos) (vx B T U) := by
 refine ⟨?_⟩; intro env A s m σ Q X P E en ao R F W q hP hX
 refine wpAny_If (hb.run env A s m σ _ _ E en ao R F q fun b σ₁ s₁ R₁ S₁ q₁ => ?_)
 have S := S₁.own (env := env)
 have hP' : sI C env σ₁ s₁ Q P := fun f g m₂ σ₂ s₂ hf R₂ F₂ S₂ q₂ => hP f g m₂ σ₂ s₂ hf R₂ F₂ (S.trans S₂) q₂
 cases b with
 | true => exact h1.run env A s₁ m σ₁ Q X P E en ao R₁ (F.step R S₁) (W.step S) q₁ hP' (AftX.later hX S)
 | false => exact h2.run env A s₁ m σ₁ Q X P E en ao R₁ (F.step R S₁) (W.step S) q₁ hP' (AftX.later hX S)
end
end Mine
end
noncomputable section
namespace Mine
open PySem
structure Way (C : Cx) (A : Around) (env : Env) (c : String) (e : Addr) (σ₀ : ai) (h₀ : Heap) (m : aT) (σ : ai) (s : Shared) (ok : Option Value → Prop) : Prop where
 fly : Fly C c h₀.objs.size σ s.heap e ok
 rel : RelG C σ s
 frame : FrameRel C env m σ s.heap
 step : Step (i6 env) σ₀ σ h₀ s.heap
 fok : FOk C A env σ s.heap
section
variable {C : Cx} {sc : Scope} {k : Nat} {A A' : Around} {env : Env} {c : String} {e : Addr} {σ₀ σ : ai} {h₀ : Heap} {m : aT} {s : Shared} {ok : Option Value → Prop} {M : Model} {E : Value → Shared → Prop}
theorem Way.move {outer : List Env} {h' : Heap} {ok' : Option Value → Prop} (W : Way C A env c e σ₀ h₀ m σ s ok) (hb : ∀ b o, C.hB.get? b = some o → b < h₀.objs.size) (ho : A.frames = some (env :: outer)) (fl : Fly C c h₀.objs.size σ h' e ok') (Mv : Moved h₀.objs.size σ (frs env outer) s.heap h') : Way C A env c e σ₀ h₀ m σ { s with heap := h' } ok' := by
 obtain ⟨outer', h1, h2, h3⟩ := W.fok.frames
 rw [ho] at h1; cases h1
 obtain ⟨d, hS⟩ := sf W.frame W.fok.frame h2
 refine ⟨fl, W.rel.moved Mv d hS hb, W.frame.moved Mv d, W.step.moved Mv d (Nat.le_refl _), ⟨⟨outer, ho, fun y hy => ?_, h3⟩, W.fok.frame⟩⟩
 obtain ⟨k1, L, k2, k3, k4, o, es, ep, k5, k6⟩ := h2 y hy
 obtain ⟨o', k7, k8⟩ := Mv.like d k5 (.inr (.inr fun vs q => by rw [k6] at q; cases q))
 exact ⟨k1, L, k2, k3, k4, o', es, ep, k7, k8.dict k6⟩
theorem Way.note {Q : Unit → Shared → Prop} (W : Way C A env c e σ₀ h₀ m σ s (qw env)) (hk : env.scope.kind = .function) (hb : ∀ b o, C.hB.get? b = some o → b < h₀.objs.size) (hA : A'.frames = A.frames)
  (h : ∀ s', Way C A env c e σ₀ h₀ m σ s' (fun x => x = some (rawInt env.locals)) → Q () s') : wpAny M A' (noteFrame (.ref e) env) Q E s := by
 obtain ⟨outer, h1, h2, h3⟩ := W.fok.frames
 exact vS (hA.trans h1) (o4 W.fok.frame hk W.frame h2) W.fok.frame W.step.size (W.rel.freshNone (bQ s.heap)) W.fly fun h' fl Mv => h _ (W.move hb h1 fl Mv)
theorem Way.flight {fr : Option Addr} {Q : Unit → Shared → Prop} (W : Way C A env c e σ₀ h₀ m σ s (fun x => x ≠ none)) (hk : env.scope.kind = .function) (hb : ∀ b o, C.hB.get? b = some o → b < h₀.objs.size)
  (h : ∀ s', Way C A env c e σ₀ h₀ m σ s' (fun x => x = some (fr.elim .none fun f => rawInt f)) → Q () s') : wpAny M A' (setFlight (.ref e) fr) Q E s := by
 obtain ⟨outer, h1, h2, h3⟩ := W.fok.frames
 refine tB (S := frs env outer) W.fly (fun b o ho hm vs q => ?_) fun h' fl Mv => h _ (W.move hb h1 fl Mv)
 obtain ⟨es, ep, z⟩ := (sf W.frame W.fok.frame h2).1 b hm o ho
 rw [q] at z; cases z
theorem Way.mono {ok' : Option Value → Prop} (W : Way C A env c e σ₀ h₀ m σ s ok) (k : ∀ x, ok x → ok' x) : Way C A env c e σ₀ h₀ m σ s ok' := ⟨W.fly.mono k, W.rel, W.frame, W.step, W.fok⟩
theorem Way.back (W : Way C A env c e σ₀ h₀ m σ s (fun x => x = some (rawInt env.locals))) (hk : env.scope.kind = .function) (hb : ∀ b o, C.hB.get? b = some o → b < h₀.objs.size)
  (h : ∀ s', Way C A env c e σ₀ h₀ m σ s' (qw env) → E (.ref e) s') : cameBackBy M A env E (.ref e) s := by
 unfold cameBackBy
 obtain ⟨oe, vs, Cl, he, hmg, hcls, hd, h2, h2s, hT⟩ := W.fly.obj
 rcases hT with ⟨h0, _⟩ | ⟨T, oT, ts, fl, h1, _⟩
 ·cases h0
 refine wpAny_bind (wpAny_field he hd h1 ?_)
 rw [if_neg (show ¬ ((Value.ref T == Value.none) = true) from by simp)]
 exact (W.mono fun x hx => by rw [hx]; simp).flight hk hb fun s' W' => h s' (W'.mono fun x hx => by rw [hx, W.fok.frame]; exact .inr (.inr rfl))
noncomputable def hE (g : Tgt) (inv : ai → Prop) (T : dy) : List V → dy
 | [] => fun m σ Q X => inv σ ∧ Q .next m σ
 | v :: r => fun m σ Q X => inv σ ∧ ∃ m', dB g v m = some m' ∧ T m' σ (fun f m₁ σ₁ => match f with
  | .next => hE g inv T r m₁ σ₁ Q X
  | .cont => hE g inv T r m₁ σ₁ Q X
  | .brk => Q .next m₁ σ₁
  | .ret u => Q (.ret u) m₁ σ₁) X
noncomputable def oy (g : Tgt) (I : IT) (T : dy) : dy := fun m σ Q X => I m σ fun items inv σ' => hE g inv T items m σ' Q X
theorem HSX1.for {target iter : Expr} {body : List Stmt} {pos : Pos} {g : Tgt} {I : IT} {T : dy} {loc : Bool} (ht : HT C sc k loc target g) (hi : HI C sc k iter I) (hb : HSX C sc k body T)
  (hf : ∀ env x, foldedSetIterable iter env x = pure x) : HSX1 C sc k (.For target iter body [] pos) (oy g I T) := by
 refine ⟨?_⟩; intro env A s m σ Q X P E en ao R F W q hP hX
 have hbase : ∀ b o, C.hB.get? b = some o → b < s.heap.objs.size := fun b o e => Heap.lt_size (R.base b o e)
 rw [exec_For]
 refine wpAny_bind (wpAny_standAt ?_)
 have start : wpAny (model C.prog C.w) A (eval iter env) (fun x s₁ => wpAny (model C.prog C.w) A (pyIter x) (fun it s₂ => codeAny (model C.prog C.w) A (.forLoop target it body [] env) (fun r s' => match r with | .ok f => P f s' | .error e => cameBackBy (model C.prog C.w) A env E e s') s₂) E s₁) E s := by
  refine hi.run env A s m σ _ _ E en ao R F q fun items inv I St σ₀ s₀ hit st₀ hI hσ₀ R₀ S₀ q₀ => ?_
  have F₀ := F.step R S₀
  obtain ⟨mm, hn, _⟩ := F.ns
  have hIL : I ≠ env.locals := fun e => absurd hn.lt (Nat.not_lt.mpr (e ▸ hI))
  have hIb : C.hB.get? I = Option.none := R.baseNone (aI hI)
  have back : ∀ {σ' : ai} {h' : Heap}, Step (fun b => i6 env b ∨ b = I) σ σ' s.heap h' → Step (i6 env) σ σ' s.heap h' := fun S =>
   S.mono fun b o e z => z.elim id fun z => absurd (Heap.lt_size e) (Nat.not_lt.mpr (z ▸ hI))
  refine codeAny_forLoop_any
   (ForInv C env σ s.heap I items St fun rest m' σ' => hE g inv T rest m' σ' Q X) ?_ _
   ⟨0, m, σ₀, items, by simp, by simp, rfl, st₀, hσ₀, R₀, F₀, S₀.mono fun _ _ _ z => z.elim, q₀⟩
  rintro n s' ⟨i, m', σ', rest, e1, e2, rfl, st, hσ', R', F', S', q'⟩
  have drew : ∀ {h' : Heap}, Heap.ExtBut I s'.heap h' → s'.heap.objs.size ≤ h'.objs.size → Step (fun b => i6 env b ∨ b = I) σ' σ' s'.heap h' := fun hx hsz =>
   .of (fun b o e _ q => hx b o (fun z => q (.inr z)) e) hsz fun _ a b => absurd a b
  cases rest with
  | nil =>
   have hil : i = items.length := by
    have := congrArg List.length e1
    simp at this; omega
   subst hil
   refine br (hit.done A σ' s' _ _ ao R' q'.1 st fun h' tk hx hsz => ?_)
   exact wpAny_execs_nil (hP .next .next m' σ' _ .next (cG (tk := tk) R' hx hσ' hIb (hit.live _ _ st)) (cg F' hx (hit.live _ _ st) hIL) (back (S'.trans (drew hx hsz))) q'.2)
  | cons v r =>
   obtain ⟨hinv, m₁, hm₁, q'⟩ := q'
   have hiv : items[i]? = some v := by
    have : (items.drop i)[0]? = some v := by rw [e1]; rfl
    simpa using this
   have hilt : i < items.length := by
    have := congrArg List.length e1
    simp at this; omega
   refine br (hit.next A σ' s' i v _ _ ao R' hinv st hiv fun w h₁ tk₁ hv st₁ hx hsz => ?_)
   have R₁ := cG (tk := tk₁) R' hx hσ' hIb (hit.live _ _ st)
   have F₁ := cg F' hx (hit.live _ _ st) hIL
   have S₁ := S'.trans (drew hx hsz)
   refine hit.own A _ (i + 1) target w _ _ st₁ ?_
   refine ht.run env A _ m' m₁ σ' v w _ _ en ao R₁ F₁ hv hm₁ fun s₂ R₂ F₂ S₂L => ?_
   have S₂ : Step (i6 env) σ' σ' h₁ s₂.heap := S₂L.mono fun _ _ _ z => z.imp id fun z => z.2
   have S₂' : Step (fun b => i6 env b ∨ b = I) σ' σ' h₁ s₂.heap := S₂.mono fun _ _ _ z => .inl z
   have st₂ : St (i + 1) s₂.heap := hit.frame _ _ _ st₁ (fun o e => S₂.keep I o e hσ' (fun z => by
    rcases z with z | ⟨n, z⟩
    ·exact hIL z
    ·obtain ⟨u, ou, hou, hdu⟩ := F₁.cells n I z
     obtain ⟨o', ho', _, hc'⟩ := hit.live _ _ st₁
     have : ou = o' := Option.some.inj (hou.symm.trans ho')
     exact hc' u (this ▸ hdu)) (hit.flds _ _ st₁ o e)) (S₂.tupsO F₁ R₁)
   have S02 := back (S₁.trans S₂')
   refine hb.run env A s₂ m₁ σ' _ X _ _ en ao R₂ F₂ (W.step S02) q' (fun f fl m₃ σ₃ s₃ hf R₃ F₃ S₃ q₃ => ?_) (fun c e m₃ σ₃ s₃ fl R₃ F₃ S₃ x => by
    have WW : Way C A env c e σ s.heap m₃ σ₃ s₃ (qw env) := ⟨fl.less S02.size, R₃, F₃, S02.trans S₃, (W.step S02).step S₃⟩
    exact WW.note en.k hbase rfl fun s₄ W₄ => W₄.back en.k hbase fun s₅ W₅ => hX c e m₃ σ₃ s₅ W₅.fly W₅.rel W₅.frame W₅.step x)
   have S₃' : Step (fun b => i6 env b ∨ b = I) σ' σ₃ s₂.heap s₃.heap := S₃.mono fun _ _ _ z => .inl z
   have SS := (S₁.trans S₂').trans S₃'
   have go : hE g inv T r m₃ σ₃ Q X → ∃ k', k' < (v :: r).length + 1 ∧ ForInv C env σ s.heap I items St (fun rest m' σ' => hE g inv T rest m' σ' Q X) k' s₃ := fun q₃ => by
    refine ⟨r.length + 1, Nat.lt_succ_self _, i + 1, m₃, σ₃, r, ?_, hilt, rfl, ?_, ?_, R₃, F₃, SS, q₃⟩
    ·rw [← List.tail_drop, e1]; rfl
    ·refine hit.frame _ _ _ st₂ (fun o e => S₃.keep I o e hσ' (fun z => ?_) (hit.flds _ _ st₂ o e)) (S₃.tupsO F₂ R₂)
     rcases z with z | ⟨n, z⟩
     ·exact hIL z
     ·obtain ⟨u, ou, hou, hdu⟩ := F₂.cells n I z
      obtain ⟨o', ho', _, hc'⟩ := hit.live _ _ st₂
      have : ou = o' := Option.some.inj (hou.symm.trans ho')
      exact hc' u (this ▸ hdu)
    ·cases z : σ₃ I with
     | none => rfl
     | some o =>
      obtain ⟨o', ho', _⟩ := hit.live _ _ st₂
      exact absurd (Heap.lt_size ho') (Nat.not_lt.mpr (S₃.new I hσ' (by rw [z]; simp)))
   cases hf with
   | next => exact go q₃
   | cont => exact go q₃
   | brk => exact hP .next .next m₃ σ₃ s₃ .next R₃ F₃ (back SS) q₃
   | ret hv => exact hP _ _ m₃ σ₃ s₃ (.ret hv) R₃ F₃ (back SS) q₃
 refine wpAny_bind (wpAny_mono start (fun x s₁ h₁ => wpAny_bind (wpAny_of_eq (hf env x) (wpAny_bind (wpAny_standAt (wpAny_bind (wpAny_holding (wpAny_mono h₁ (fun it s₂ h₂ => wpAny_runOwn h₂) fun _ _ h' => h'))))))) fun _ _ h' => h')
end
end Mine
end
noncomputable section
namespace Mine
open PySem PySem.W PyProof.Rows PySem.Calls
abbrev iW := List V → ai → (V → ai → Prop) → (String → ai → Prop) → Prop
abbrev AftXc (C : Cx) (σ : ai) (s : Shared) (X : String → ai → Prop) (E : Value → Shared → Prop) : Prop :=
 ∀ c e σ' s', Fly C c s.heap.objs.size σ' s'.heap e (fun x => x = some .none) → RelG C σ' s' → Step no σ σ' s.heap s'.heap → X c σ' → E (.ref e) s'
noncomputable def FnSoundX (C : Cx) (j : Nat) (f : Addr) (spec : iW) : Prop :=
 ∀ (A : Around) (s : Shared) (σ : ai) (vs : List V) (ws : List Value) (Q : V → ai → Prop) (X : String → ai → Prop) (P : Value → Shared → Prop) (E : Value → Shared → Prop),
  AOk C A (j + 1) → (∃ fs, A.frames = some fs ∧ FrsOk C σ s.heap fs) → RelG C σ s → VRels C.aS s.heap vs ws → spec vs σ Q X → ub C σ s Q P → AftXc C σ s X E → codeAny (model C.prog C.w) A (.call (.ref f) ⟨ws, []⟩) (fun r s' => match r with | .ok (.ret v) => P v s' | .ok _ => False | .error e => E e s') s
section
variable {C : Cx}
theorem FnSoundX.mk (O : C.Ok) {f : Addr} {o : Obj} {fd : FuncData} {body : List Stmt} {xs : List String} {sc : Scope} {j : Nat} {spec : iW} {T : dy}
  (ho : C.hB.get? f = some o) (hd : o.data = .func fd) (hcd : C.hB.CodeRec fd.code fd.qualname) (hb : fd.body = .stmts body) (hsc : fd.scope = sc) (hcl : fd.closure = []) (hg : fd.globals = mainGlobals) (hbi : fd.builtins = builtinsNs)
  (hk : sc.kind = .function) (hfr : ∀ p ∈ sc.names, p.2 ≠ .free) (hco : sc.isCoroutine = false) (hgen : sc.isGenerator = false)
  (hbind : ∀ ws : List Value, ws.length = xs.length → bindArgs fd ⟨ws, []⟩ = pure ((xs.map Str.ofString).zip ws))
  (hloc : ∀ x ∈ xs, sc.names.lookup (Str.ofString x) = some .local ∨ sc.names.lookup (Str.ofString x) = some .cell)
  (hT : HSX C sc j body T)
  (hspec : ∀ vs σ Q X, spec vs σ Q X → vs.length = xs.length ∧ T (aM xs vs aW) σ (fun f _ σ' => match f with | .ret v => Q v σ' | .next => Q .none σ' | _ => False) (fun c _ σ' => X c σ')) : FnSoundX C j f spec := by
 intro A s σ vs ws Q X P E ao ⟨fs, hfs, hfo⟩ R hvs hs hP hX
 subst hsc
 obtain ⟨hlen, q⟩ := hspec vs σ Q X hs
 have hlw : ws.length = xs.length := by rw [← hvs.length]; exact hlen
 refine (codeAny_call_cells (fd := fd) (body := body) (binds := (xs.map Str.ofString).zip ws) (by have := ao.depth; omega) (R.base _ _ ho) hd (O.nolimit.keeps R.base) (hcd.keeps R.base) hb (hbind ws hlw) hcl ?_ ?_ hco hgen hk)
 ·intro x hx
  have : x.1 ∈ xs.map Str.ofString := (List.of_mem_zip (a := x.1) (b := x.2) hx).1
  obtain ⟨y, hy, e⟩ := List.mem_map.mp this
  rw [← e]
  refine (hloc y hy).imp id fun z => ⟨z, ?_⟩
  obtain ⟨c, hc⟩ := b6 (x := Str.ofString y) fd.scope.names (s.heap.objs.size + 1) [] (.inl z)
  rw [hc]; rfl
 ·intro s₁ x
  generalize henv : callEnvC fd s.heap.objs.size f = env at x ⊢
  have eS : env.scope = fd.scope := by rw [← henv]; rfl
  have eL : env.locals = s.heap.objs.size := by rw [← henv]; rfl
  have eC : env.cells = cellsFrom (s.heap.objs.size + 1) fd.scope.names [] := by rw [← henv]; rfl
  have en : EnvOk env fd.scope := ⟨eS, hk, by rw [← henv]; exact hg, by rw [← henv]; exact hbi⟩
  obtain ⟨h₁, tk₁, e₁⟩ := x.toInCall.same
  have keep := x.toInCall.keep
  have R₁ : RelG C σ s₁ := by
   rw [e₁]
   exact R.grow (fun b o e => by have := keep b o e; rw [e₁] at this; exact this)
  have hz : s.heap.objs.size ≤ s₁.heap.objs.size := Nat.le_of_lt (by have := x.toInCall.ns.lt; rw [eL] at this; exact this)
  have kt : bb s.heap s₁.heap := fun b o e _ => keep b o e
  have vars := io (C := C) (h := s₁.heap) env.kindOf xs vs ws aW (fun _ => Option.none) (fun _ => Option.none)
   (fun y hy => by unfold Env.kindOf; rw [eS]; exact hloc y hy) (hvs.keep kt) (fun _ _ e => by cases e)
  have lookupC : ∀ n, env.kindOf n = some .cell → ∃ c, env.cells.lookup n = some c := fun n hn => by
   rw [eC]; exact b6 _ _ _ (.inl (by unfold Env.kindOf at hn; rw [eS] at hn; exact hn))
  have lookupF : ∀ n, env.kindOf n = some .cell ∨ env.kindOf n = some .free → ∃ c, env.cells.lookup n = some c := fun n hn => hn.elim (lookupC n) fun z => by
   unfold Env.kindOf at z; rw [eS] at z; exact absurd rfl (hfr _ (mem_of_lookup z))
  have fresh : ∀ c, s.heap.objs.size ≤ c → C.hB.get? c = Option.none := fun c hc => R.baseNone (aI hc)
  have F₁ : FrameRel C env (aM xs vs aW) σ s₁.heap := by
   refine ⟨⟨_, x.toInCall.ns, fun y v e ky => ?_⟩, fun y v e => ?_, fun n c hc => ?_, R.freshNone (aI (Nat.le_of_eq eL.symm)), fresh _ (Nat.le_of_eq eL.symm), fun n c hc => ?_, x.apart, lookupF⟩
   ·rcases vars y v e with ⟨_, w, h1, h2⟩ | ⟨z, _⟩
    ·exact ⟨w, h1, h2⟩
    ·rw [z] at ky; cases ky
   ·rcases vars y v e with ⟨z, _⟩ | ⟨z, w, h1, h2⟩
    ·exact .inl z
    ·obtain ⟨c, hc⟩ := lookupC _ z
     exact .inr ⟨.inl z, c, w, hc, h1 ▸ x.cell _ c hc, h2⟩
   ·exact ⟨_, x.cell n c hc⟩
   ·exact fresh c (Nat.le_of_lt (by have := x.above n c (mem_of_lookup hc); rw [eL] at this; exact this))
  have eF : env.frame = some env.locals := by rw [← henv]; rfl
  have hlt : ∀ y ∈ fs, ∀ L, y.frame = some L → L < s.heap.objs.size := fun y hy L hL => by
   obtain ⟨_, L', h2, _, _, o, _, _, h5, _⟩ := hfo y hy
   rw [hL] at h2; cases h2; exact Heap.lt_size h5
  have W₁ : FOk C (A.deeper env) env σ s₁.heap := by
   refine ⟨⟨fs, Around.frames_deeper hfs, fun y hy => ?_, fun y hy L hL z => ?_⟩, eF⟩
   ·obtain ⟨h1, L, h2, h3, h4, o, es, ep, h5, h6⟩ := hfo y hy
    exact ⟨h1, L, h2, h3, h4, o, es, ep, keep _ _ h5, h6⟩
   ·have := hlt y hy L hL
    rcases z with z | ⟨n', z⟩
    ·rw [z, eL] at this; exact Nat.lt_irrefl _ this
    ·have h9 := x.above n' L (mem_of_lookup z); rw [eL] at h9; exact Nat.lt_irrefl _ (Nat.lt_trans this h9)
  have toS : ∀ {σ' : ai} {h' : Heap}, Step (i6 env) σ σ' s₁.heap h' → Step no σ σ' s.heap h' := fun S' =>
   ⟨fun b o e n _ => S'.keepL b o (keep b o e) n (fun z => by
     have hlt := Heap.lt_size e
     rcases z with z | ⟨n', z⟩
     ·rw [z, eL] at hlt; exact Nat.lt_irrefl _ hlt
     ·have := x.above n' b (mem_of_lookup z); rw [eL] at this; exact Nat.lt_irrefl _ (Nat.lt_trans hlt this)),
    Nat.le_trans hz S'.size, fun b n m => Nat.le_trans hz (S'.new b n m)⟩
  refine hT.run env _ s₁ _ σ _ _ _ _ en ⟨by show A.handled = _; exact ao.handled, by show A.depth + 1 + 3 * j + 3 < _; have := ao.depth; omega, by show A.units + 3 + 10 * j + 20 < _; have := ao.units; omega⟩ R₁ F₁ W₁ q (fun fl g m' σ' s' hf R' F' S' q' => ?_) (fun c e m' σ' s' fl R' F' S' x' => ?_)
  rotate_left
  ·have WW : Way C (A.deeper env) env c e σ s₁.heap m' σ' s' (qw env) := ⟨fl, R', F', S', W₁.step S'⟩
   have hbase : ∀ b o, C.hB.get? b = some o → b < s₁.heap.objs.size := fun b o e => Heap.lt_size (R₁.base b o e)
   unfold leaving
   refine wpAny_bind (WW.note en.k hbase rfl fun s₂ W₂ => ?_)
   refine (W₂.mono fun x hx => by rw [hx]; simp).flight en.k hbase fun s₃ W₃ => ?_
   exact hX c e σ' s₃ (W₃.fly.less hz) W₃.rel (toS W₃.step) x'
  have S₀ := toS S'
  cases hf with
  | next => exact hP .none .none σ' s' .none R' S₀ q'
  | ret hv => exact hP _ _ σ' s' hv R' S₀ q'
  | brk => exact q'.elim
  | cont => exact q'.elim
end
end Mine
end
noncomputable section
namespace Mine
open PySem
noncomputable def Dead (b : Addr) (h : Heap) : Prop := h.get? b = none ∧ b < h.objs.size
theorem Dead.update {b a : Addr} {h : Heap} {f : Obj → Obj} {o : Obj} (x : Dead b h) (ha : h.get? a = some o) : Dead b (h.update a f) :=
 ⟨by rw [Heap.get?_update_other _ _ (by rintro rfl; rw [x.1] at ha; cases ha)]; exact x.1, by rw [Heap.size_after_update]; exact x.2⟩
theorem Dead.push {b : Addr} {h : Heap} {o : Obj} (x : Dead b h) : Dead b (h.push o) := by
 refine ⟨?_, by rw [Heap.size_push]; exact Nat.lt_succ_of_lt x.2⟩
 cases e : (h.push o).get? b with
 | none => rfl
 | some o' =>
  obtain ⟨h1, h2⟩ := Heap.get?_some_iff.mp e
  have h3 : h.objs[b]? = some o' := by
   have : (h.push o).objs[b]? = h.objs[b]? := by
    show (h.objs.push o)[b]? = _
    rw [Array.getElem?_push_lt x.2, Array.getElem?_eq_getElem x.2]
   rw [← this]; exact h1
  have := Heap.get?_some_iff.mpr ⟨h3, h2⟩
  rw [x.1] at this; cases this
theorem jb {b : Addr} {M : Model} {Γ : Ctx} {p : Pos} {t : Sem Fin} {fs : List Frame} {s s' : Shared} {e : End} (h : PySem.Runs M Γ p t fs s e s') : Dead b s.heap → Dead b s'.heap := by
 induction h <;> intro d
 all_goals try simp only [Shared.setGen] at *
 all_goals first | exact d | (rename_i ih; exact ih d) | (rename_i ih; exact ih d.push) | (rename_i h1 _ ih; obtain ⟨o, ho⟩ := Option.isSome_iff_exists.mp h1; exact ih (d.update ho)) | (rename_i ih1 ih2; exact ih2 (ih1 d))
theorem oB {b : Addr} {M : Model} {Γ : Ctx} {p : Pos} {g : Nat} {r : Resume} {s s' : Shared} {res : GenResult} (h : Wakes M Γ p g r s res s') (d : Dead b s.heap) : Dead b s'.heap := by
 unfold Wakes at h
 split at h
 ·exact h.elim
 ·split at h
  ·obtain ⟨e₁, s₁, hr, _, _, rfl⟩ := h; exact (jb hr d : Dead b s₁.heap)
  ·rw [h.2]; exact d
  ·rw [h.2]; exact d
 ·obtain ⟨e₁, s₁, hr, _, _, rfl⟩ := h; exact (jb hr d : Dead b s₁.heap)
 ·rw [h.2]; exact d
 ·rw [h.2]; exact d
theorem sR {α : Type} (M : Model) (Γ : Ctx) (D : Addr → Prop) (t : Sem α) : ∀ (Q : α → Pos → Shared → Prop) (E : Value → Pos → Shared → Prop) (p : Pos) (s : Shared), (∀ b, D b → Dead b s.heap) → Sem.wp M Γ t Q E p s →
  Sem.wp M Γ t (fun a p' s' => (∀ b, D b → Dead b s'.heap) ∧ Q a p' s') (fun e p' s' => (∀ b, D b → Dead b s'.heap) ∧ E e p' s') p s := by
 induction t with
 | pure a | raise a => intro Q E p s hn h; exact ⟨hn, h⟩
 | unsupported | finish | register | yield | fork | await => intro Q E p s _ h; exact h
 | rule _ k ih | «at» _ k ih | point _ k ih | ask k ih | handled _ k ih | stack k ih | thread k ih | loadIfAlive _ k ih | fresh k ih | os _ _ k ih | newGen _ k ih => intro Q E p s hn h; exact ih _ Q E _ _ hn h
 | load a _ k ih => intro Q E p s hn h; obtain ⟨o, ho, h⟩ := h; exact ⟨o, ho, ih o Q E p s hn h⟩
 | update a _ f k ih => intro Q E p s hn h; exact ⟨h.1, ih () Q E p _ (fun b hb => by obtain ⟨o, ho⟩ := Option.isSome_iff_exists.mp h.1; exact (hn b hb).update ho) h.2⟩
 | alloc o k ih => intro Q E p s hn h; exact ih _ Q E p _ (fun b hb => (hn b hb).push) h
 | choose src m k ih => intro Q E p s hn h; exact ⟨h.1, ih _ Q E p _ hn h.2⟩
 | call c hd _ _ k ih => intro Q E p s hn h; obtain ⟨r, s', hr, h⟩ := h; exact ⟨r, s', hr, ih r Q E p s' (fun b hb => jb hr (hn b hb)) h⟩
 | genState g k ih => intro Q E p s hn h; obtain ⟨st, hs, h⟩ := h; exact ⟨st, hs, ih _ Q E p s hn h⟩
 | resume g r _ k ih => intro Q E p s hn h; obtain ⟨res, s', hw, h⟩ := h; exact ⟨res, s', hw, ih res Q E p s' (fun b hb => oB hw (hn b hb)) h⟩
theorem p7 {α : Type} {M : Model} {A : Around} {s : Shared} {t : Sem α} {Q : α → Shared → Prop} {E : Value → Shared → Prop}
  (h : wpAny M A t (fun a s' => (∀ b, Dead b s.heap → Dead b s'.heap) → Q a s') (fun e s' => (∀ b, Dead b s.heap → Dead b s'.heap) → E e s') s) : wpAny M A t Q E s :=
 fun Γ p hΓ => Sem.wp_mono M Γ t (fun _ _ _ x => x.2 x.1) (fun _ _ _ x => x.2 x.1) p s (sR M Γ (fun b => Dead b s.heap) t _ _ p s (fun _ h => h) (h Γ p hΓ))
end Mine
end
noncomputable section
namespace Mine
open PySem PySem.W PyProof.Rows PySem.Calls
noncomputable def ct : List Value := [.type "ValueError", .type "Exception", .type "BaseException", .type "object"]
noncomputable def xR (C : Cx) (c : String) (Cl : Addr) : Prop := OwnCls (Str.ofString c) Cl ct "ValueError.__new__" C.mg C.hB
section
variable {C : Cx} {sc : Scope} {k : Nat}
noncomputable def i7 (c : String) : dy := fun m σ _ X => X c m σ
theorem HSX1.raise (O : C.Ok) (hz : C.held = Option.none) {c : String} {Cl : Addr} (K : xR C c Cl) {x : Str} {n : Nat} {np ap cpos pos : Pos} (hn : sc.names.lookup (Str.ofString c) = some .globalImplicit) (hdb : (Str.ofString c == ("__debug__" : Str)) = false) :
  HSX1 C sc k (.Raise (some (.Call (.Name (Str.ofString c) np) [.Constant (.str x) n ap] [] cpos)) Option.none pos) (i7 c) := by
 refine ⟨?_⟩; intro env A s m σ Q X P E en ao R F W q hP hX
 have OK : OwnCls (Str.ofString c) Cl ct "ValueError.__new__" C.mg s.heap := K.keeps R.base
 obtain ⟨tl, N, nm, qn, bs, hdct, sn, sub, ab, col, dd, k0, k1, k2, k3, k5, mN, hC, hN, hni, T⟩ := OK.obj
 refine p7 ?_
 refine wpAny_Raise_call_subT (C := Cl) (nm := nm) (q := qn) (N := N) (bs := bs) (bm := tl) (hdct := hdct) (sn := sn) (sub := sub) (ab := ab) (col := col) (dd := dd) (k0 := k0) (k1 := k1) (k2 := k2) (k3 := k3) (k5 := k5)
  PySem.F.excBase_ValueError (mN := mN) (T.hasType PySem.F.excBase_ValueError.hasBase) (ao.none hz) rfl hni
  (Calls.Name_function_global en.k (en.of hn) (Calls.loadGlobal_global (mg := C.mg) (by rw [en.globals]; exact O.g.keeps R.base) K.bound ⟨rfl, ?_⟩) hdb)
 refine bJ rfl ?_
 show wpAny _ A (spliced ((false, eval (.Constant (.str x) n ap) env) :: backTo cpos (starEach [] env))) _ _ s
 refine Calls.spliced_cons (Calls.Constant_str (Calls.spliced_nil ⟨rfl, by rw [sizeLine_eq]; show 1 ≤ _; decide, hC, hN, T, fun h' e hm hdead => ?_⟩))
 obtain ⟨t, he, _, _⟩ := hm.there
 have hge : s.heap.objs.size ≤ e := by
  rcases Nat.lt_or_ge e s.heap.objs.size with z | z
  ·have := (hdead e ⟨hm.new, z⟩).1
   have he' : h'.get? e = _ := he
   rw [he'] at this; cases this
  ·exact z
 have hsz : s.heap.objs.size ≤ h'.objs.size := Nat.le_trans hge (Nat.le_of_lt (Heap.lt_size he))
 have hkeep : ∀ b o, s.heap.get? b = some o → h'.get? b = some o := hm.keeps
 refine hX c e m σ _ ⟨⟨_, _, Cl, he, K.bound, rfl, rfl, rfl, by show 2 < 6; decide, .inl ⟨.inl rfl, rfl⟩⟩, hge, R.freshNone hm.new⟩ (R.grow hkeep) (F.grow hkeep) (Step.grow hkeep hsz) q
abbrev qU := aT → ai → (V → ai → Prop) → (String → ai → Prop) → Prop
structure HEX (C : Cx) (sc : Scope) (k : Nat) (e : Expr) (T : qU) : Prop where
 run : ∀ (env : Env) (A : Around) (s : Shared) (m : aT) (σ : ai) (Q : V → ai → Prop) (X : String → ai → Prop) (P : Value → Shared → Prop) (E : Value → Shared → Prop),
  EnvOk env sc → AOk C A k → RelG C σ s → FrameRel C env m σ s.heap → FOk C A env σ s.heap → T m σ Q X →
  (∀ v w σ' s', VRel C.aS s'.heap v w → RelG C σ' s' → Step no σ σ' s.heap s'.heap → Q v σ' → P w s') → AftXc C σ s X E →
  wpAny (model C.prog C.w) A (eval e env) P E s
theorem FOk.fs {A : Around} {env : Env} {m : aT} {σ : ai} {s : Shared} (W : FOk C A env σ s.heap) (F : FrameRel C env m σ s.heap) (hk : env.scope.kind = .function) : ∃ fs, A.frames = some fs ∧ FrsOk C σ s.heap fs := by
 obtain ⟨outer, h1, h2, h3⟩ := W.frames
 refine ⟨_, h1, fun y hy => ?_⟩
 rcases List.mem_cons.mp hy with rfl | hy
 ·obtain ⟨mm, ⟨oL, es, ep, hoL, hdL, _⟩, _⟩ := F.ns
  exact ⟨by rw [hk]; decide, _, W.frame, F.baseL, F.sepL, oL, es, ep, hoL, hdL⟩
 ·exact h2 y hy
noncomputable def FnAtX (C : Cx) (j : Nat) (f : String) (spec : iW) : Prop :=
 ∃ a o fd, C.mg (Str.ofString f) = some (.ref a) ∧ C.hB.get? a = some o ∧ o.data = .func fd ∧ FnSoundX C j a spec
noncomputable def mW (spec : iW) (L : LT) : qU := fun m σ Q X => L m σ fun vs σ' => spec vs σ' Q X
theorem HEX.callAt {p : Program} (G : Gl C p) {f : String} {np pos : Pos} {es : List Expr} {L : LT} {spec : iW} {j : Nat} (hf : FnAtX C j f spec) (hj : j < k)
  (hn : sc.names.lookup (Str.ofString f) = some .globalImplicit) (hdb : (Str.ofString f == ("__debug__" : Str)) = false)
  (hl : HL C sc k es L) (hp : aQ es = true) : HEX C sc k (.Call (.Name (Str.ofString f) np) es [] pos) (mW spec L) := by
 obtain ⟨a, o, fd, hg, ho, hd, hf⟩ := hf
 refine ⟨?_⟩; intro env A s m σ Q X P E en ao R F W q hP hX
 refine wpAny_Call_NameR (Calls.Name_function_global en.k (en.of hn) (Calls.loadGlobal_global (mg := C.mg) (by rw [en.globals]; exact G.ok.g.keeps R.base) hg ?_) hdb)
 refine Calls.callWith_function (o := o) (fd := fd) (bJ hp (hl.run env A s m σ pos _ _ E en ao R F q fun vs ws σ₁ s₁ hv R₁ S₁ q₁ => ⟨⟨R₁.base _ _ ho, hd⟩, ?_⟩))
 have W₁ := W.step (S₁.own (env := env))
 exact wpAny_call (hf A s₁ σ₁ vs ws Q X P E (ao.le hj) (W₁.fs (F.step R S₁) en.k) R₁ hv q₁ (fun v w σ' s' hv' R' S' q' => hP v w σ' s' hv' R' (S₁.trans S') q') fun c e σ' s' fl R' S' x => hX c e σ' s' (fl.less S₁.size) R' (S₁.trans S') x)
noncomputable def qX (T : ET) (U : qU) : qU := fun m σ Q X => T m σ fun v σ₁ => U m σ₁ (fun u σ₂ => Q (.tup [v, u]) σ₂) X
theorem HEX.pair {e1 e2 : Expr} {n : Nat} {pos : Pos} {T : ET} {U : qU} (h1 : HE C sc k e1 T) (h2 : HEX C sc k e2 U) (hs1 : gP e1 = true) (hs2 : gP e2 = true) : HEX C sc k (.Tuple [e1, e2] n pos) (qX T U) := by
 refine ⟨?_⟩; intro env A s m σ Q X P E en ao R F W q hP hX
 show wpAny _ A (do standAt pos; newTuple (← spliced (backTo pos (starEach [e1, e2] env)))) P E s
 refine wpAny_bind (wpAny_standAt (wpAny_bind ?_))
 rw [bT hs1]
 show wpAny _ A (spliced ((false, eval e1 env) :: backTo pos (starEach [e2] env))) _ E s
 refine Calls.spliced_cons (h1.run env A s m σ _ _ E en ao R F q fun v w σ₁ s₁ hv R₁ S₁ q₁ => ?_)
 rw [bT hs2]
 show wpAny _ A (spliced ((false, eval e2 env) :: backTo pos (starEach [] env))) _ E s₁
 refine Calls.spliced_cons (h2.run env A s₁ m σ₁ _ X _ E en ao R₁ (F.step R S₁) (W.step S₁.own) q₁ (fun u w' σ₂ s₂ hu R₂ S₂ q₂ => ?_) fun c e σ' s' fl R' S' x => hX c e σ' s' (fl.less S₁.size) R' (S₁.trans S') x)
 refine Calls.spliced_nil ?_
 have hv2 := hv.keep (S₂.tupsN R₁)
 refine wpAny_newTuple (hP _ _ σ₂ _ (.tup (ws := [w, w']) ⟨_, Heap.get?_push_size _ rfl, rfl, _, rfl⟩ (.cons (hv2.keep fun _ _ e _ => bg _ _ e) (.cons (hu.keep fun _ _ e _ => bg _ _ e) .nil))) (R₂.grow bg) ((S₁.trans S₂).trans .push) q₂) (by rw [sizeLine_eq]; show 2 ≤ _; decide)
theorem AftXc.of {env : Env} {m : aT} {σ : ai} {s : Shared} {X : XT} {E : Value → Shared → Prop} (R : RelG C σ s) (F : FrameRel C env m σ s.heap) (hX : AftX C env σ s X E) : AftXc C σ s (fun c σ' => X c m σ') E :=
 fun c e σ' s' fl R' S' x => hX c e m σ' s' (fl.mono fun _ h => .inr (.inl h)) R' (F.step R S') S'.own x
noncomputable def sO (x : String) (T : qU) : dy := fun m σ Q X => T m σ (fun v σ' => Q .next (put m x v) σ') fun c σ' => X c m σ'
theorem HSX1.set {x : String} {p pos : Pos} {value : Expr} {T : qU} (hx : xT sc x) (he : HEX C sc k value T) (hs : ∀ env, EnvOk env sc → swapsWith value (some (.Name (Str.ofString x) p)) pos.line env = pure false) : HSX1 C sc k (.Assign [.Name (Str.ofString x) p] value pos) (sO x T) := by
 refine ⟨?_⟩; intro env A s m σ Q X P E en ao R F W q hP hX
 refine wpAny_Assign_Name (he.run env A s m σ _ _ _ E en ao R F W q (fun v w σ₁ s₁ hv R₁ S₁ q₁ => ?_) (AftXc.of R F hX)) (hs env en)
 exact tX en R₁ (F.step R S₁) hx hv fun s₂ R₂ F₂ S₂ => hP .next .next _ σ₁ s₂ .next R₂ F₂ ((S₁.own).trans S₂) q₁
noncomputable def uc (T : qU) : dy := fun m σ Q X => T m σ (fun v σ' => Q (.ret v) m σ') fun c σ' => X c m σ'
theorem HSX1.ret {pos : Pos} {value : Expr} {T : qU} (he : HEX C sc k value T) : HSX1 C sc k (.Return (some value) pos) (uc T) := by
 refine ⟨?_⟩; intro env A s m σ Q X P E en ao R F W q hP hX
 exact wpAny_Return_some (he.run env A s m σ _ _ _ E en ao R F W q (fun v w σ₁ s₁ hv R₁ S₁ q₁ => hP (.ret v) (.ret w) m σ₁ s₁ (.ret hv) R₁ (F.step R S₁) S₁.own q₁) (AftXc.of R F hX))
end
end Mine
end
noncomputable section
set_option maxRecDepth 100000
namespace Mine
open PySem PySem.W PyProof.Rows PySem.Calls
noncomputable def cm : List Str := ["__init__", "__getattribute__", "__getattr__", "__class__"]
inductive OT (h : Heap) : List Value → Prop
 | base : OT h ct
 | own {A : Addr} {c0 : Value} {dd : Option Addr} {cd : ClassData} {sl : Array (Option Value)} {mA : Str → Option Value} {tl : List Value} :
   h.get? A = some { cls := c0, dict := dd, data := .cls cd, slots := sl } → h.Ns cd.ns mA → (∀ n ∈ cm, mA n = none) → OT h tl → OT h (.ref A :: tl)
theorem OT.keeps {h h' : Heap} {l : List Value} (T : OT h l) (k : ∀ b o, h.get? b = some o → h'.get? b = some o) : OT h' l := by
 induction T with
 | base => exact .base
 | own h1 h2 h3 _ ih => exact .own (k _ _ h1) (h2.keeps k) h3 ih
theorem OT.tail {h : Heap} {l : List Value} (T : OT h l) : OwnTail h ct l := by
 induction T with
 | base => exact .base
 | own h1 h2 h3 _ ih => exact .own h1 h2 (h3 _ (.head _)) ih
inductive XC (h : Heap) (Cl : Addr) (bm : List Value) : Prop
 | mk (N : Addr) (nm q : Str) (bs : List Value) (hdct : Bool) (sn : List Str) (sub : List Value) (ab : Bool) (col : Option Bool) (dd : Option Addr) (k0 k1 k2 k3 k5 : Option Value) (mN : Str → Option Value)
   (h1 : h.get? Cl = some (excClassObj nm q Cl N bs bm hdct sn sub ab col dd k0 k1 k2 k3 k5 "ValueError.__new__")) (h2 : h.Ns N mN) (h3 : ∀ n ∈ cm, mN n = none) (h4 : OT h bm) : XC h Cl bm
theorem XC.keeps {h h' : Heap} {Cl : Addr} {bm : List Value} (X : XC h Cl bm) (k : ∀ b o, h.get? b = some o → h'.get? b = some o) : XC h' Cl bm := by
 obtain ⟨N, nm, q, bs, hdct, sn, sub, ab, col, dd, k0, k1, k2, k3, k5, mN, h1, h2, h3, h4⟩ := X
 exact ⟨N, nm, q, bs, hdct, sn, sub, ab, col, dd, k0, k1, k2, k3, k5, mN, k _ _ h1, h2.keeps k, h3, h4.keeps k⟩
section
variable {prog : Program} {w : World} {A : Around} {E : Value → Shared → Prop} {s : Shared} {Cl a : Addr} {bm : List Value} {o : Obj}
theorem qx {l : List Value} {n : Str} {y : Option Value} {Q : Option Value → Shared → Prop} {M : Model} (T : OT s.heap l) (hn : n ∈ cm) (hrest : lookupAlong ct n = pure y) (hq : Q y s) : wpAny M A (lookupAlong l n) Q E s := by
 induction T with
 | base => rw [hrest]; exact wpAny_pure hq
 | own hA hN h3 _ ih =>
  rw [lookupAlong_cons]
  obtain ⟨h, g, d, t, os⟩ := s
  refine wpAny_bind (wpAny_classOwn_cls hA hN ?_)
  rw [h3 n hn]
  exact ih
theorem ki {n : Str} {y : Option Value} {Q : Option Value → Shared → Prop} {M : Model} (X : XC s.heap Cl bm) (hn : n ∈ cm) (hB : typeLookup (.type "ValueError") n = pure y) (hq : Q y s) : wpAny M A (typeLookup (.ref Cl) n) Q E s := by
 obtain ⟨N, nm, q, bs, hdct, sn, sub, ab, col, dd, k0, k1, k2, k3, k5, mN, h1, h2, h3, h4⟩ := X
 have hrest : lookupAlong ct n = pure y := by rw [typeLookup_eq, PySem.F.excBase_ValueError.mroIs] at hB; exact hB
 rw [typeLookup_eq]
 obtain ⟨h, g, d, t, os⟩ := s
 refine wpAny_bind (wpAny_mroOf_exc h1 ?_)
 rw [lookupAlong_cons]
 refine wpAny_bind (wpAny_classOwn_exc h1 h2 ?_)
 rw [h3 n hn]
 exact qx h4 hn hrest hq
theorem fm {base : Value} {Q : Bool → Shared → Prop} {M : Model} (X : XC s.heap Cl bm) (hq : Q ((Value.ref Cl :: bm).contains base) s) : wpAny M A (isSubtype (.ref Cl) base) Q E s := by
 obtain ⟨N, nm, q, bs, hdct, sn, sub, ab, col, dd, k0, k1, k2, k3, k5, mN, h1, h2, h3, h4⟩ := X
 obtain ⟨h, g, d, t, os⟩ := s
 exact wpAny_isSubtype_exc h1 hq
theorem nG : typeLookup (.type "ValueError") "__class__" = pure (some (.builtin "object.__class__")) := by rw [typeLookup_type, builtinLookup_eq_fast]; kernel_rfl
theorem OT.obj {h : Heap} {l : List Value} (T : OT h l) : l.contains (.type "object") = true ∧ l.contains (.type "BaseException") = true := by
 induction T with
 | base => decide
 | own _ _ _ _ ih => rw [List.contains_cons, List.contains_cons, ih.1, ih.2]; simp
theorem XC.obj {h : Heap} (X : XC h Cl bm) : bm.contains (.type "object") = true ∧ bm.contains (.type "BaseException") = true := by
 obtain ⟨N, nm, q, bs, hdct, sn, sub, ab, col, dd, k0, k1, k2, k3, k5, mN, h1, h2, h3, h4⟩ := X
 exact h4.obj
theorem qL {R : Result → Shared → Prop} (X : XC s.heap Cl bm) (hx : s.heap.get? a = some o) (hc : o.cls = .ref Cl) (hq : R (.ok (.ret (.ref Cl))) s) :
  codeAny (model prog w) A (.call (.builtin "getset_descriptor.__get__") ⟨[.builtin "object.__class__", .ref a, .ref Cl], []⟩) R s := by
 have hT5 : s.TypeIs (.builtin "object.__class__") "getset_descriptor" := F.typeOf_object_class
 have hcB : (Value.ref Cl :: bm).contains (.type (".".intercalate ("object.__class__".cutAt '.').dropLast)) = true := by rw [F.owner_object_class, List.contains_cons, X.obj.1, Bool.or_true]
 refine codeAny_call_builtin F.slot_gs_get.plain F.entry_gs_get (F.slot_gs_get.check _ _ _ _ _ _ _ _ hT5 (F.args_gs_get _ _ _) ?_)
 repeat (any_goals (first | assumption | (with_reducible refine wpAny_loadPart hx ?_; rw [hc]) | (with_reducible refine fm X ?_; rw [hcB]) | wp_step))
 refine ⟨Code.quiet_builtin _ (by decide +kernel), codeAny_builtin F.entry_object_class ?_⟩
 repeat (any_goals (first | assumption | (with_reducible refine wpAny_loadPart hx ?_; rw [hc]) | wp_step))
theorem og {tk : Tok} {Q : Fin → Shared → Prop} (X : XC s.heap Cl bm) (hx : s.heap.get? a = some o) (hc : o.cls = .ref Cl) (hq : Q (.done (.ret (.ref Cl))) s) :
  wpAny (model prog w) A (Builtin.«object.__getattribute__» ⟨[.ref a, .str "__class__" tk], []⟩) Q E s := by
 have hT5 : s.TypeIs (.builtin "object.__class__") "getset_descriptor" := F.typeOf_object_class
 have f5 := F.typeOf_object_class
 have f6 := F.slot_gs_get.lookup
 have f7 := F.slot_gs_set.lookup
 have hm : ("__class__" : Str) ∈ cm := .tail _ (.tail _ (.tail _ (.head _)))
 repeat (any_goals (first | assumption | (with_reducible refine wpAny_loadPart hx ?_; rw [hc]) | with_reducible refine ki X hm nG ?_ | wp_step))
 refine qL X hx hc ?_
 repeat (any_goals (first | assumption | wp_step))
theorem sr {nameV : Value} {Q : Unit → Shared → Prop} {M : Model} (X : XC s.heap Cl bm) (hx : s.heap.get? a = some o) (hc : o.cls = .ref Cl) (hq : Q () s) : wpAny M A (checkBuiltinCall "BaseException.__getattribute__" ⟨[.ref a, nameV], []⟩) Q E s := by
 have hk : builtinKind "BaseException.__getattribute__" = some .slot := by decide +kernel
 have hsplit : splitId "BaseException.__getattribute__" = some ("BaseException", "__getattribute__") := by decide +kernel
 have hcB : (Value.ref Cl :: bm).contains (.type "BaseException") = true := by rw [List.contains_cons, X.obj.2, Bool.or_true]
 have ha := F.args_bexc_ga (.ref a) nameV
 simp only [checkBuiltinCall, hk, hsplit]
 refine wpAny_bind ?_
 ·unfold isInstance
  repeat (first | (with_reducible refine wpAny_loadPart hx ?_; rw [hc]) | (with_reducible refine fm X ?_; rw [hcB]) | wp_step)
  exact hq
theorem pb {tk : Tok} {R : Result → Shared → Prop} (X : XC s.heap Cl bm) (hx : s.heap.get? a = some o) (hc : o.cls = .ref Cl) (hq : R (.ok (.ret (.ref Cl))) s) :
  codeAny (model prog w) A (.call (.builtin "BaseException.__getattribute__") ⟨[.ref a, .str "__class__" tk], []⟩) R s :=
 codeAny_call_builtin F.attrBase_ValueError.ga.plain F.entry_bexc_ga (sr X hx hc (og X hx hc hq))
theorem sq {tk : Tok} {fill expr : Bool} {Q : Value → Shared → Prop} (X : XC s.heap Cl bm) (hx : s.heap.get? a = some o) (hc : o.cls = .ref Cl) (hq : Q (.ref Cl) s) :
  wpAny (model prog w) A (getAttrBy (.ref a) (.str "__class__" tk) fill expr) Q E s := by
 have f3 := F.attrBase_ValueError.ga.bind (.ref a)
 have hx0 : (expr && onTheHeap (Value.builtin "BaseException.__getattribute__")) = false := by cases expr <;> rfl
 have hx2 : (Value.builtin "BaseException.__getattribute__" == Value.builtin "object.__getattribute__") = false := by decide +kernel
 have hx1 : (onTheHeap (Value.ref Cl) && Value.builtin "BaseException.__getattribute__" == Value.builtin "object.__getattribute__") = false := by rw [hx2]; rfl
 have hm1 : ("__getattribute__" : Str) ∈ cm := .tail _ (.head _)
 have hm2 : ("__getattr__" : Str) ∈ cm := .tail _ (.tail _ (.head _))
 repeat (any_goals (first | assumption | (with_reducible refine wpAny_loadPart hx ?_; rw [hc]) | with_reducible refine ki X hm1 F.attrBase_ValueError.ga.lookup ?_ | with_reducible refine ki X hm2 F.attrBase_ValueError.noGetattr ?_ | wp_step))
 refine pb X hx hc ?_
 repeat (any_goals (first | assumption | wp_step))
theorem pc {Q : Option Value → Shared → Prop} (X : XC s.heap Cl bm) (hx : s.heap.get? a = some o) (hc : o.cls = .ref Cl) (hq : Q (some (.ref Cl)) { s with toks := s.toks + 1 }) : wpAny (model prog w) A (getAttr? (.ref a) "__class__") Q E s := by
 obtain ⟨h, g, d, t, os⟩ := s
 dsimp only at X hx hq
 unfold getAttr? getAttrBy?
 repeat (any_goals (first | assumption | with_reducible apply sq (s := ⟨h, g, d, t + 1, os⟩) X hx hc | wp_step))
theorem nN {H : Addr} {bm' : List Value} {dep : Int} {tk : Tok} {Q : Fin → Shared → Prop} (X : XC s.heap Cl bm) (XH : XC s.heap H bm') (hx : s.heap.get? a = some o) (hc : o.cls = .ref Cl)
  (hq : ∀ tk', Q (.done (.ret (.bool ((Value.ref Cl :: bm).contains (.ref H))))) { s with toks := tk' }) :
  wpAny (model prog w) A (Builtin.«isinstance.nested» ⟨[.ref a, .ref H, .int dep tk], []⟩) Q E s := by
 obtain ⟨N, nm, q, bs, hdct, sn, sub, ab, col, dd, k0, k1, k2, k3, k5, mN, h1, h2, h3, h4⟩ := XH
 have q0 := hq s.toks
 by_cases e : Cl = H
 ·subst e
  have hcc : (Value.ref Cl :: bm).contains (.ref Cl) = true := by simp
  rw [hcc] at q0
  have hee : (Value.ref Cl == Value.ref Cl) = true := by simp
  repeat (any_goals (first | assumption | (with_reducible refine wpAny_loadPart hx ?_; rw [hc]) | wp_step))
 ·have hne : (Value.ref Cl == Value.ref H) = false := by simpa using e
  obtain ⟨h, g, d, t, os⟩ := s
  dsimp only at X hx hq h1
  have hTH : (⟨h, g, d, t, os⟩ : Shared).TypeIs (.ref H) "type" := ⟨_, h1, rfl⟩
  cases hb : (Value.ref Cl :: bm).contains (.ref H) with
  | true =>
   rw [hb] at hq
   repeat (any_goals (first | exact hq _ | assumption | (with_reducible refine wpAny_loadPart_at hx ?_; rw [hc]) | (with_reducible refine wpAny_loadPart_at h1 ?_) | (with_reducible refine fm (s := ⟨h, g, d, t, os⟩) X ?_; rw [hb]) | wp_step))
  | false =>
   rw [hb] at hq
   repeat (any_goals (first | exact hq _ | assumption | (with_reducible refine wpAny_loadPart_at hx ?_; rw [hc]) | (with_reducible refine wpAny_loadPart_at h1 ?_) | (with_reducible refine fm (s := ⟨h, g, d, t, os⟩) X ?_; rw [hb]) | with_reducible apply pc (s := ⟨h, g, d, t, os⟩) X hx hc | wp_step))
   obtain ⟨N', nm', q', bs', hdct', sn', sub', ab', col', dd', l0, l1, l2, l3, l5, mN', hCl, _⟩ := id X
   refine wpAny_loadPart_at hCl (wpAny_pure ?_)
   dsimp only
   rw [if_neg (by decide)]
   refine wpAny_bind (wpAny_rule (fm (s := ⟨h, g, d, t + 1, os⟩) X ?_))
   rw [hb]
   exact wpAny_pure (hq _)
theorem oX {H : String} {dep : Int} {tk : Tok} {Q : Fin → Shared → Prop} (X : XC s.heap Cl bm) (hx : s.heap.get? a = some o) (hc : o.cls = .ref Cl) (hty : typeOf (.type H) = pure (.type "type")) (hb : bm.contains (.type H) = true)
  (hq : ∀ tk', Q (.done (.ret (.bool true))) { s with toks := tk' }) :
  wpAny (model prog w) A (Builtin.«isinstance.nested» ⟨[.ref a, .type H, .int dep tk], []⟩) Q E s := by
 obtain ⟨h, g, d, t, os⟩ := s
 dsimp only at X hx hq
 have hne : (Value.ref Cl == Value.type H) = false := rfl
 have hb' : (Value.ref Cl :: bm).contains (.type H) = true := by rw [List.contains_cons, hb, Bool.or_true]
 repeat (any_goals (first | exact hq _ | assumption | (with_reducible refine wpAny_loadPart_at hx ?_; rw [hc]) | (with_reducible refine fm (s := ⟨h, g, d, t, os⟩) X ?_; rw [hb']) | wp_step))
end
end Mine
end
noncomputable section
namespace Mine
open PySem PySem.W PyProof.Rows PySem.Calls
noncomputable def iI : Obj := { cls := .none, dict := none, data := .freed }
noncomputable def b9 (h : Heap) (e : Addr) (o : Obj) : Heap := if e < h.objs.size then ⟨h.objs.setIfInBounds e o, h.life⟩ else ⟨(h.objs ++ Array.replicate (e - h.objs.size) iI).push o, h.life⟩
theorem cf {h : Heap} {e : Addr} {o : Obj} (hz : h.get? e = none) (ho : o.isFreed = false) (b : Addr) : (b9 h e o).get? b = if b = e then some o else h.get? b := by
 have at_ : (b9 h e o).objs[e]? = some o := by
  unfold b9
  split
  ·rename_i q
   show (h.objs.setIfInBounds e o)[e]? = some o
   rw [Array.getElem?_setIfInBounds_self_of_lt q]
  ·rename_i q
   have sz : (h.objs ++ Array.replicate (e - h.objs.size) iI).size = e := by
    rw [Array.size_append, Array.size_replicate]
    exact Nat.add_sub_cancel' (Nat.le_of_not_lt q)
   show ((h.objs ++ Array.replicate (e - h.objs.size) iI).push o)[e]? = some o
   rw [Array.getElem?_push, sz, if_pos rfl]
 have other : b ≠ e → ∀ x, x.isFreed = false → ((b9 h e o).objs[b]? = some x ↔ h.objs[b]? = some x) := by
  intro hb x hf
  unfold b9
  split
  ·show (h.objs.setIfInBounds e o)[b]? = some x ↔ _
   rw [Array.getElem?_setIfInBounds_ne (Ne.symm hb)]
  ·rename_i q
   have sz : (h.objs ++ Array.replicate (e - h.objs.size) iI).size = e := by
    rw [Array.size_append, Array.size_replicate]
    exact Nat.add_sub_cancel' (Nat.le_of_not_lt q)
   show ((h.objs ++ Array.replicate (e - h.objs.size) iI).push o)[b]? = some x ↔ _
   rw [Array.getElem?_push, sz, if_neg hb, Array.getElem?_append]
   split
   ·exact Iff.rfl
   ·rename_i q2
    rw [Array.getElem?_replicate, Array.getElem?_eq_none (Nat.le_of_not_lt q2)]
    split
    ·exact ⟨fun z => (by cases z; cases hf), fun z => (by cases z)⟩
    ·exact Iff.rfl
 by_cases hb : b = e
 ·rw [if_pos hb, hb]
  exact Heap.get?_some_iff.mpr ⟨at_, ho⟩
 ·rw [if_neg hb]
  cases hg : h.get? b with
  | some x =>
   obtain ⟨h1, h2⟩ := Heap.get?_some_iff.mp hg
   exact Heap.get?_some_iff.mpr ⟨(other hb x h2).mpr h1, h2⟩
  | none =>
   cases hq : (b9 h e o).get? b with
   | none => rfl
   | some x =>
    obtain ⟨h1, h2⟩ := Heap.get?_some_iff.mp hq
    have := Heap.get?_some_iff.mpr ⟨(other hb x h2).mp h1, h2⟩
    rw [hg] at this; cases this
noncomputable def Cx.hold (C : Cx) (e : Addr) (o : Obj) : Cx := { C with s₁ := { C.s₁ with heap := b9 C.s₁.heap e o }, held := some e }
section
variable {C : Cx} {e : Addr} {o : Obj} {σ : ai} {s : Shared} {env : Env} {m : aT} {p : Program} {vs : Array Value}
theorem bE (hz : C.hB.get? e = none) (ho : o.isFreed = false) : ∀ b x, C.hB.get? b = some x → (C.hold e o).hB.get? b = some x := fun b x h => by
 show (b9 C.hB e o).get? b = some x
 rw [cf hz ho, if_neg (by rintro rfl; rw [hz] at h; cases h)]; exact h
theorem mB (hz : C.hB.get? e = none) (ho : o.isFreed = false) : (C.hold e o).hB.get? e = some o := by
 show (b9 C.hB e o).get? e = some o
 rw [cf hz ho, if_pos rfl]
theorem RelG.hold (R : RelG C σ s) (hz : C.hB.get? e = none) (ho : o.isFreed = false) (he : s.heap.get? e = some o) (hs : σ e = none) : RelG (C.hold e o) σ s := by
 refine ⟨let ⟨h, tk, d, q⟩ := R.rest; ⟨h, tk, d, by rw [q]; rfl⟩, fun b x h => ?_, fun a x h => ?_, fun a h => ?_⟩
 ·have h' : (b9 C.hB e o).get? b = some x := h
  rw [cf hz ho] at h'
  split at h'
  ·rename_i q; cases h'; rw [q]; exact he
  ·exact R.base b x h'
 ·have := R.view a x h
  cases x <;> exact this
 ·show (b9 C.hB e o).get? a = none
  rw [cf hz ho, if_neg (by rintro rfl; exact h hs)]; exact R.apart a h
theorem RelG.drop (R : RelG (C.hold e o) σ s) (hz : C.hB.get? e = none) (ho : o.isFreed = false) : RelG C σ s := by
 refine ⟨let ⟨h, tk, d, q⟩ := R.rest; ⟨h, tk, d, by rw [q]; rfl⟩, fun b x h => R.base b x (bE hz ho b x h), fun a x h => ?_, fun a h => ?_⟩
 ·have := R.view a x h
  cases x <;> exact this
 ·have : (b9 C.hB e o).get? a = none := R.apart a h
  rw [cf hz ho] at this
  split at this
  ·cases this
  ·exact this
theorem FrameRel.hold (F : FrameRel C env m σ s.heap) (hz : C.hB.get? e = none) (ho : o.isFreed = false) (he : s.heap.get? e = some o) (hd : o.data = .fields vs) : FrameRel (C.hold e o) env m σ s.heap := by
 refine ⟨F.ns, F.cel, F.cells, F.sepL, ?_, fun n c hc => ?_, F.dist, F.has⟩
 ·show (b9 C.hB e o).get? env.locals = none
  rw [cf hz ho, if_neg ?_]
  ·exact F.baseL
  ·rintro q
   obtain ⟨mm, ⟨oL, es, ep, hoL, hdL, _⟩, _⟩ := F.ns
   rw [q, he] at hoL; cases hoL; rw [hd] at hdL; cases hdL
 ·show (b9 C.hB e o).get? c = none
  rw [cf hz ho, if_neg ?_]
  ·exact F.baseC n c hc
  ·rintro q
   obtain ⟨v, oc, hoc, hdc⟩ := F.cells n c hc
   rw [q, he] at hoc; cases hoc; rw [hd] at hdc; cases hdc
theorem FrameRel.drop (F : FrameRel (C.hold e o) env m σ s.heap) (hz : C.hB.get? e = none) (ho : o.isFreed = false) : FrameRel C env m σ s.heap := by
 have dr : ∀ b, (C.hold e o).hB.get? b = none → C.hB.get? b = none := fun b h => by
  cases q : C.hB.get? b with
  | none => rfl
  | some x => rw [bE hz ho b x q] at h; cases h
 exact ⟨F.ns, F.cel, F.cells, F.sepL, dr _ F.baseL, fun n c hc => dr _ (F.baseC n c hc), F.dist, F.has⟩
theorem Cx.Ok.hold (O : C.Ok) (hz : C.hB.get? e = none) (ho : o.isFreed = false) (hd : o.data = .fields vs) (h2 : vs[2]? = some .none) : (C.hold e o).Ok where
 g := O.g.keeps (bE hz ho)
 b := O.b.keeps (bE hz ho)
 nolimit := O.nolimit.keeps (bE hz ho)
 mods := let ⟨x, hx⟩ := O.mods; ⟨x, bE hz ho _ _ hx⟩
 few := O.few
 heldOk := fun e' h => by
  have : e' = e := by
   have h' : some e = some e' := h
   cases h'; rfl
  subst this
  exact ⟨o, vs, mB hz ho, hd, h2⟩
 script := let ⟨ws, h1, h2, h3⟩ := O.script; ⟨ws, h1.at fun x hx => bE hz ho _ _ hx, h2, h3⟩
theorem Gl.hold (G : Gl C p) (hz : C.hB.get? e = none) (ho : o.isFreed = false) (hd : o.data = .fields vs) (h2 : vs[2]? = some .none) : Gl (C.hold e o) p where
 ok := G.ok.hold hz ho hd h2
 mb := G.mb
 free := G.free
 fn := fun d hd' => by
  obtain ⟨a, o', pm, code, doc, h1, h2', h3, h4⟩ := G.fn d hd'
  exact ⟨a, o', pm, code, doc, h1, bE hz ho _ _ h2', h3, h4.keeps (bE hz ho)⟩
end
end Mine
end
noncomputable section
set_option maxRecDepth 100000
namespace Mine
open PySem PySem.W PyProof.Rows PySem.Calls
section
variable {prog : Program} {w : World} {A : Around} {E : Value → Shared → Prop} {s : Shared} {Cl H a : Addr} {bm bmH : List Value} {o : Obj} {M : Model}
theorem nF {Q : Bool → Shared → Prop} (X : XC s.heap Cl bm) (XH : XC s.heap H bmH) (hx : s.heap.get? a = some o) (hc : o.cls = .ref Cl) (hq : Q ((Value.ref Cl :: bm).contains (.ref H)) s) :
  wpAny M A (excMatches (.ref a) (.ref H)) Q E s := by
 have hcB : (Value.ref H :: bmH).contains (.type "BaseException") = true := by rw [List.contains_cons, XH.obj.2, Bool.or_true]
 obtain ⟨N, nm, q, bs, hdct, sn, sub, ab, col, dd, k0, k1, k2, k3, k5, mN, h1, h2, h3, h4⟩ := id XH
 have f := tc_notTuple
 obtain ⟨h, g, d, t, os⟩ := s
 dsimp only at X XH hx h1
 unfold excMatches
 repeat (first | (with_reducible refine wpAny_loadPart_at hx ?_; rw [hc]) | with_reducible refine wpAny_loadPart_at h1 ?_ | (with_reducible refine wpAny_isSubtype_exc h1 ?_; rw [hcB]) | (with_reducible refine fm (s := ⟨h, g, d, t, os⟩) X ?_) | wp_step)
 cases hb : (Value.ref Cl :: bm).contains (.ref H) <;> (rw [hb] at hq; wp_walk; exact hq)
end
noncomputable def cut (m : aT) (x : String) : aT := fun y => if y = x then Option.none else m y
section
variable {C : Cx} {sc : Scope} {k : Nat}
theorem ud {env : Env} {A : Around} {s : Shared} {m : aT} {σ : ai} {x : String} {pos : Pos} {P : Unit → Shared → Prop} {E : Value → Shared → Prop} (en : EnvOk env sc) (R : RelG C σ s) (F : FrameRel C env m σ s.heap)
  (hl : sc.names.lookup (Str.ofString x) = some .local)
  (h : ∀ s', RelG C σ s' → FrameRel C env (cut m x) σ s'.heap → Step (i6 env) σ σ s.heap s'.heap → P () s') : wpAny (model C.prog C.w) A (do bindName env (Str.ofString x) .none; unbindBehindTheSuite env (Str.ofString x) pos) P E s := by
 refine wpAny_bind (wpAny_bindName (cy en R F hl (v := .none) .none fun s₁ R₁ F₁ S₁ => ?_))
 unfold unbindBehindTheSuite
 refine wpAny_onRaise ?_
 obtain ⟨mm, hn, hm⟩ := F₁.ns
 obtain ⟨w, hw, _⟩ := hm x .none (by simp) (en.of hl)
 refine wpAny_unbindName_local (en.of hl) hn hw (by rw [en.k]; rfl) fun h' u hn' hs' => ?_
 obtain ⟨oL, esL, epL, hoL, hdL, _⟩ := id hn
 have kt : bb s₁.heap h' := fun b o e ht => (hs'.2 b (by rintro rfl; rw [hoL] at e; cases e; obtain ⟨_, _, _, hd⟩ := ht; rw [hdL] at hd; cases hd)).trans e
 have kc : ∀ c v, s₁.heap.IsCell c v → h'.IsCell c v := fun c v ⟨o, ho, hd⟩ => ⟨o, (hs'.2 c (by rintro rfl; rw [hoL] at ho; cases ho; rw [hdL] at hd; cases hd)).trans ho, hd⟩
 have cutm : ∀ y v, cut m x y = some v → y ≠ x ∧ put m x .none y = some v := fun y v e => by
  unfold cut at e
  split at e
  ·cases e
  ·rename_i q; exact ⟨q, by rw [fp q]; exact e⟩
 refine h _ ?_ ?_ ?_
 ·refine ⟨let ⟨_, tk, d, e⟩ := R₁.rest; ⟨h', tk, d, by rw [e]⟩, fun b o e => ?_, fun a o e => ?_, R₁.apart⟩
  ·exact (hs'.2 b (by rintro rfl; rw [F.baseL] at e; cases e)).trans (R₁.base b o e)
  ·exact (R₁.view a o e).keep kt fun o' e' => (hs'.2 a (by rintro rfl; rw [F.sepL] at e; cases e)).trans e'
 ·refine ⟨⟨_, hn', fun y v e ky => ?_⟩, fun y v e => ?_, fun n c e => ?_, F.sepL, F.baseL, F.baseC, F.dist, F.has⟩
  ·obtain ⟨hy, e'⟩ := cutm y v e
   obtain ⟨w', h1, h2⟩ := hm y v e' ky
   exact ⟨w', by simp [show ¬ Str.ofString y = Str.ofString x from fun z => hy (cF z), h1], h2.keep kt⟩
  ·obtain ⟨hy, e'⟩ := cutm y v e
   rcases F₁.cel y v e' with z | ⟨z, c, w', h1, h2, h3⟩
   ·exact .inl z
   ·exact .inr ⟨z, c, w', h1, kc _ _ h2, h3.keep kt⟩
  ·obtain ⟨v, hv⟩ := F₁.cells n c e; exact ⟨v, kc _ _ hv⟩
 ·exact (S₁.mono fun _ _ _ z => .inl z).trans (.of (fun b o e n q => (hs'.2 b fun z => q (.inl z)).trans e) (Nat.le_of_eq hs'.1.symm) fun _ a b => absurd a b)
noncomputable def xS (C : Cx) (cs : List String) (Ch : Addr) : Prop := ∀ c ∈ cs, ∃ Cc bm, C.mg (Str.ofString c) = some (.ref Cc) ∧ XC C.hB Cc bm ∧ (Value.ref Cc :: bm).contains (.ref Ch) = true
noncomputable def sM (n : String) (cs : List String) (T : dy) (U : Addr → String → ST) : dy := fun m σ Q X => T m σ Q fun c m' σ' => c ∈ cs ∧ ∀ e, σ' e = Option.none → U e c (put m' n (.ref e)) σ' fun f m'' σ'' => Q f (cut m'' n) σ''
theorem HSX1.tryAs (O : C.Ok) (hz : C.held = Option.none) {body : List Stmt} {H n : String} {b₀ : Stmt} {suite : List Stmt} {np hpos pos : Pos} {T : dy} {U : Addr → String → ST} {cs : List String} {Ch : Addr} {bmH : List Value} (hb : HSX C sc k body T)
  (hn : sc.names.lookup (Str.ofString H) = some .globalImplicit) (hdb : (Str.ofString H == ("__debug__" : Str)) = false) (hgH : C.mg (Str.ofString H) = some (.ref Ch)) (XH : XC C.hB Ch bmH) (hvar : sc.names.lookup (Str.ofString n) = some .local) (hcl : xS C cs Ch)
  (hs : ∀ (e : Addr) (o : Obj) (vs : Array Value) (c : String) (Cc : Addr), c ∈ cs → C.mg (Str.ofString c) = some (.ref Cc) → C.hB.get? e = Option.none → o.isFreed = false → o.cls = .ref Cc → o.data = .fields vs → vs[2]? = some .none → HS (C.hold e o) sc k (b₀ :: suite) (U e c)) :
  HSX1 C sc k (.Try body [.ExceptHandler (some (.Name (Str.ofString H) np)) (some (Str.ofString n)) (b₀ :: suite) hpos] [] [] pos) (sM n cs T U) := by
 refine ⟨?_⟩; intro env A s m σ Q X P E en ao R F W q hP hX
 have hbase : ∀ b o, C.hB.get? b = some o → b < s.heap.objs.size := fun b o e => Heap.lt_size (R.base b o e)
 refine wpAny_Try_except (hb.run env A s m σ _ _ _ _ en ao R F W q (fun f g m₁ σ₁ s₁ hf R₁ F₁ S₁ q₁ => ?_) (fun c e m₁ σ₁ s₁ fl R₁ F₁ S₁ x => ?_))
 ·cases hf with
  | next => exact wpAny_execs_nil (hP _ _ m₁ σ₁ s₁ .next R₁ F₁ S₁ q₁)
  | brk => exact hP _ _ m₁ σ₁ s₁ .brk R₁ F₁ S₁ q₁
  | cont => exact hP _ _ m₁ σ₁ s₁ .cont R₁ F₁ S₁ q₁
  | ret hv => exact hP _ _ m₁ σ₁ s₁ (.ret hv) R₁ F₁ S₁ q₁
 ·obtain ⟨hc, x⟩ := x
  obtain ⟨Cc, bm, hg, XCc, hsub⟩ := hcl c hc
  have WW : Way C A env c e σ s.heap m₁ σ₁ s₁ (qw env) := ⟨fl, R₁, F₁, S₁, W.step S₁⟩
  refine WW.note en.k hbase rfl fun s₂ W₂ => ?_
  refine (W₂.mono fun x hx => by rw [hx]; simp).flight en.k hbase fun s₃ W₃ => ?_
  refine wpAny_handleBy_cons (codeAny_handlers_test ?_) (by intro z; cases z)
  obtain ⟨oe, vs, Cl, he, hmg, hcls, hd, h2, h2s, hT⟩ := W₃.fly.obj
  rw [hg] at hmg; cases hmg
  refine Calls.Name_function_global en.k (en.of hn) (Calls.loadGlobal_global (mg := C.mg) (by rw [en.globals]; exact O.g.keeps W₃.rel.base) hgH ?_) hdb
  refine nF (XCc.keeps W₃.rel.base) (XH.keeps W₃.rel.base) he hcls ?_
  rw [hsub]
  refine codeAny_handlers_suite_as ?_
  refine (W₃.mono fun x hx => by rw [hx]; simp).flight en.k hbase fun s₄ W₄ => ?_
  refine cy en W₄.rel W₄.frame hvar (.ref e) fun s₅ R₅ F₅ S₅ => ?_
  obtain ⟨oe, vs, Cl, he, hmg, hcls, hd, h2, h2s, hT⟩ := W₄.fly.obj
  rw [hg] at hmg; cases hmg
  have hse := W₄.fly.sep
  have hez : C.hB.get? e = Option.none := R.baseNone (aI W₄.fly.new)
  have hof : oe.isFreed = false := Obj.isFreed_of_fields hd
  have hne : e ≠ env.locals := by
   rintro z
   obtain ⟨mm, ⟨oL, es, ep, hoL, hdL, _⟩, _⟩ := W₄.frame.ns
   rw [← z, he] at hoL; cases hoL; rw [hd] at hdL; cases hdL
  have he₅ : s₅.heap.get? e = some oe := S₅.keep e oe he hse hne (fun es ep z => by rw [hd] at z; cases z)
  have R₅' := R₅.hold hez hof he₅ hse
  have F₅' := F₅.hold hez hof he₅ hd
  have ao' : AOk (C.hold e oe) (A.mark (some (.ref e))) k := ⟨rfl, ao.depth, ao.units⟩
  refine (hs e oe vs c Cc hc hg hez hof hcls hd h2).run env _ s₅ _ σ₁ _ _ _ en ao' R₅' F₅' (x e hse) fun f g m₆ σ₆ s₆ hf R₆ F₆ S₆ q₆ => ?_
  refine ud en (R₆.drop hez hof) (F₆.drop hez hof) hvar fun s₇ R₇ F₇ S₇ => ?_
  have SS : Step (i6 env) σ σ₆ s.heap s₇.heap := ((W₄.step.trans (S₅.mono fun _ _ _ z => .inl z)).trans S₆).trans S₇
  refine hP f g (cut m₆ n) σ₆ s₇ ?_ R₇ F₇ SS q₆
  cases hf with
  | next => exact .next
  | brk => exact .brk
  | cont => exact .cont
  | ret hv => exact .ret (hv.keep (S₇.tupsO (F₆.drop hez hof) (R₆.drop hez hof)))
end
end Mine
end
noncomputable section
set_option maxRecDepth 100000
namespace Mine
open PySem PySem.W PyProof.Rows PySem.Calls
section
variable {prog : Program} {w : World} {A : Around} {E : Value → Shared → Prop} {s : Shared} {Cl H a : Addr} {bm bmH : List Value} {o : Obj}
theorem mv {Q : Value → Shared → Prop} (X : XC s.heap Cl bm) (XH : XC s.heap H bmH) (hx : s.heap.get? a = some o) (hc : o.cls = .ref Cl) (hq : ∀ tk', Q (.bool ((Value.ref Cl :: bm).contains (.ref H))) { s with toks := tk' }) :
  wpAny (model prog w) A (call (.builtin "isinstance") [.ref a, .ref H]) Q E s :=
 call_isinstance (S := fun _ R s' => s' = s ∧ ∀ tk', R (.ok (.ret (.bool ((Value.ref Cl :: bm).contains (.ref H))))) { s with toks := tk' })
  (fun _ _ _ _ s' hs => by obtain ⟨rfl, hs⟩ := hs; exact isinstance_outer (nN X XH hx hc fun tk' => hs tk') (by intro e; cases e)) ⟨rfl, fun tk' => hq tk'⟩
theorem nO {T : String} {Q : Value → Shared → Prop} (X : XC s.heap Cl bm) (hx : s.heap.get? a = some o) (hc : o.cls = .ref Cl) (hty : typeOf (.type T) = pure (.type "type")) (hb : bm.contains (.type T) = true) (hq : ∀ tk', Q (.bool true) { s with toks := tk' }) :
  wpAny (model prog w) A (call (.builtin "isinstance") [.ref a, .type T]) Q E s :=
 call_isinstance (S := fun _ R s' => s' = s ∧ ∀ tk', R (.ok (.ret (.bool true))) { s with toks := tk' })
  (fun _ _ _ _ s' hs => by obtain ⟨rfl, hs⟩ := hs; exact isinstance_outer (oX X hx hc hty hb fun tk' => hs tk') (by intro e; cases e)) ⟨rfl, fun tk' => hq tk'⟩
end
section
variable {C : Cx} {sc : Scope} {k : Nat} {p : Program}
noncomputable def b0 (e : Addr) (c : V) (b : Bool) : cR := fun vs σ Q => vs = [.ref e, c] ∧ Q (.bool b) σ
theorem uB {e Cc H : Addr} {o : Obj} {bm bmH : List Value} {b : Bool} (he : C.hB.get? e = some o) (hc : o.cls = .ref Cc) (X : XC C.hB Cc bm) (XH : XC C.hB H bmH) (hb : (Value.ref Cc :: bm).contains (.ref H) = b) : lX C k (fun ws => PySem.call (.builtin "isinstance") ws) (b0 e (.ref H) b) := by
 rintro A s σ vs ws Q P E ao R hv ⟨rfl, q⟩ hP
 obtain ⟨wa, wb, rfl, h1, h2⟩ := hv.inv2
 cases h1; cases h2
 refine mv (X.keeps R.base) (XH.keeps R.base) (R.base _ _ he) hc fun tk' => ?_
 rw [hb]
 exact hP _ _ σ _ (.bool b) (R.tok _) Step.refl q
theorem tr {e Cc : Addr} {o : Obj} {bm : List Value} (he : C.hB.get? e = some o) (hc : o.cls = .ref Cc) (X : XC C.hB Cc bm) (hb : bm.contains (.type "ValueError") = true) : lX C k (fun ws => PySem.call (.builtin "isinstance") ws) (b0 e (.ty "ValueError") true) := by
 rintro A s σ vs ws Q P E ao R hv ⟨rfl, q⟩ hP
 obtain ⟨wa, wb, rfl, h1, h2⟩ := hv.inv2
 cases h1; cases h2
 refine nO (X.keeps R.base) (R.base _ _ he) hc (by kernel_rfl) hb fun tk' => ?_
 exact hP _ _ σ _ (.bool true) (R.tok _) Step.refl q
theorem wr : bootBuiltins (Str.ofString "ValueError") = some (.type "ValueError") := by decide +kernel
theorem u6 (G : Gl C p) {n K : String} {H : Addr} {e : Addr} {b : Bool} {np p1 p2 pos : Pos} (hop : lX C k (fun ws => PySem.call (.builtin "isinstance") ws) (b0 e (.ref H) b)) (hi : sc.names.lookup (Str.ofString "isinstance") = some .globalImplicit)
  (hn : sc.names.lookup (Str.ofString n) = some .local) (hnd : (Str.ofString n == ("__debug__" : Str)) = false) (hk : sc.names.lookup (Str.ofString K) = some .globalImplicit) (hkd : (Str.ofString K == ("__debug__" : Str)) = false) (hg : C.mg (Str.ofString K) = some (.ref H)) :
  HE C sc k (.Call (.Name (Str.ofString "isinstance") np) [.Name (Str.ofString n) p1, .Name (Str.ofString K) p2] [] pos) (aC (b0 e (.ref H) b) (ah (af n) (ah (ak (.ref H)) az))) :=
 d0 G.ok hop hi (G.free _ (by decide)) (G.blt pe (by decide)) rfl (ag (ae hn hnd) (ag (tS G.ok (v := .ref H) hk hg (fun _ => .ref _) hkd) am rfl) rfl) rfl
theorem tR (G : Gl C p) {n : String} {e : Addr} {np p1 p2 pos : Pos} (hop : lX C k (fun ws => PySem.call (.builtin "isinstance") ws) (b0 e (.ty "ValueError") true)) (hi : sc.names.lookup (Str.ofString "isinstance") = some .globalImplicit)
  (hn : sc.names.lookup (Str.ofString n) = some .local) (hnd : (Str.ofString n == ("__debug__" : Str)) = false) (hk : sc.names.lookup (Str.ofString "ValueError") = some .globalImplicit) (hg : C.mg (Str.ofString "ValueError") = Option.none) :
  HE C sc k (.Call (.Name (Str.ofString "isinstance") np) [.Name (Str.ofString n) p1, .Name (Str.ofString "ValueError") p2] [] pos) (aC (b0 e (.ty "ValueError") true) (ah (af n) (ah (ak (.ty "ValueError")) az))) :=
 d0 G.ok hop hi (G.free _ (by decide)) (G.blt pe (by decide)) rfl (ag (ae hn hnd) (ag (sE G.ok hk hg (G.blt wr (by decide)) rfl) am rfl) rfl) rfl
@[simp] theorem xz {e : Addr} {c : V} {b : Bool} {σ : ai} {Q : V → ai → Prop} : b0 e c b [.ref e, c] σ Q = Q (.bool b) σ := propext ⟨fun h => h.2, fun h => ⟨rfl, h⟩⟩
theorem FnAtX.mk (G : Gl C p) (i n : Nat) {f : String} {xs : List String} {j : Nat} {spec : iW} {T : dy}
  (hm : (recsOf p)[i]? = some ⟨Str.ofString f, mq p n, bq p n, aN p n, t5 p n⟩)
  (hk : (aN p n).kind = .function) (hfr : ((aN p n).names.all fun q => q.2 != .free) = true) (hco : (aN p n).isCoroutine = false) (hgen : (aN p n).isGenerator = false)
  (hbind : ∀ (ws : List Value) (pm code doc : Value), ws.length = xs.length → bindArgs (docDef (Str.ofString f) (mq p n) (bq p n) (aN p n) pm code doc) ⟨ws, []⟩ = pure ((xs.map Str.ofString).zip ws))
  (hloc : (xs.all fun x => (aN p n).names.lookup (Str.ofString x) == some .local || (aN p n).names.lookup (Str.ofString x) == some .cell) = true)
  (hT : HSX C (aN p n) j (bq p n) T)
  (hspec : ∀ vs σ Q X, spec vs σ Q X → vs.length = xs.length ∧ T (aM xs vs aW) σ (fin Q) (fun c _ σ' => X c σ')) : FnAtX C j f spec := by
 obtain ⟨a, o, pm, code, doc, h1, h2, h3, h4⟩ := G.fn _ (List.mem_of_getElem? hm)
 refine ⟨a, o, _, h1, h2, h3, FnSoundX.mk G.ok (xs := xs) h2 h3 h4 rfl rfl rfl rfl rfl hk ?_ hco hgen (fun ws hw => hbind ws pm code doc hw) ?_ hT hspec⟩
 ·intro q hq
  have := List.all_eq_true.mp hfr q hq
  simpa using this
 ·intro x hx
  have := List.all_eq_true.mp hloc x hx
  simp only [Bool.or_eq_true, beq_iff_eq] at this
  exact this
noncomputable def rl : iW := fun vs σ Q _ => vs = [.script] ∧ (∀ a, σ a = Option.none) ∧ ∀ σ', Q (.bool true) σ'
theorem qB (hz : C.held = Option.none) {f : Addr} {j : Nat} {r : OpenLaw} {args : List WData} {cl : Str → Option Addr} {mean : ExcName → Option Value} (hf : FnSoundX C j f rl) (hj : j ≤ 100) (hg : C.s₁.gens = #[])
  (hn : ∀ cls, r.row.claim.raises args cls = false) (hp : r.row.claim.post args (.bool true) args = true) :
  codeAny (model C.prog C.w) callerA (.call (.ref f) ⟨[.ref C.aS], []⟩) (GoodWG r.row.claim cl mean args C.s₁) C.s₁ := by
 refine codeAny_mono (hf callerA C.s₁ (fun _ => Option.none) [.script] [.ref C.aS] (fun v σ => v = .bool true) (fun _ _ => False) (fun w s' => w = .bool true ∧ ∃ σ', RelG C σ' s') (fun _ _ => False) ⟨by rw [hz]; rfl, ?_, ?_⟩ ⟨[], rfl, fun y hy => by cases hy⟩ ⟨⟨_, _, _, rfl⟩, fun _ _ e => e, fun _ _ e => by (cases e), fun _ e => absurd rfl e⟩ (.cons .script .nil) ⟨rfl, fun _ => rfl, fun _ => rfl⟩ ?_ (fun _ _ _ _ _ _ _ h => h)) ?_
 ·show 1 + claimMargin + 3 * (j + 1) + 3 < recursionLimit
  have : claimMargin = 300 := rfl
  have : recursionLimit = 1000 := rfl
  omega
 ·show 4 + 10 * (j + 1) + 20 < cLine
  unfold cLine
  exact tt fun hg => lN [j] 0xa04241a844084004d583084641048a rfl hj hg
 ·intro v w σ' s' hv R' S' q
  subst q
  cases hv with | bool b => exact ⟨rfl, σ', R'⟩
 ·intro res s' h
  cases res with
  | error e => exact h.elim
  | ok fl =>
   cases fl with
   | ret v =>
    obtain ⟨rfl, σ', R'⟩ := h
    obtain ⟨h₁, tk, d₁, e⟩ := R'.rest
    refine GoodW.toG ⟨.inl ⟨_, .bool true, [], rfl, hn, .bool true, hp, fun _ => ⟨List.nodup_nil, fun a h => by cases h⟩⟩, R'.base, ?_, ?_⟩
    ·rw [e]
    ·rw [e]; exact hg
   | _ => exact h.elim
end
end Mine
end
noncomputable section
namespace Mine
open PySem PySem.W PyProof.Rows PySem.Calls
section
variable {C : Cx} {sc : Scope} {k : Nat}
end
noncomputable def ti (K : Frag) : List Value → Bool
 | [] => false
 | v :: r => (v :: r) == ct || match v with
  | .ref A => (match K.lookup A with
   | some ⟨_, _, .cls cd, _⟩ => nsOkIn K cd.ns && cm.all (fun n => nsIn K cd.ns n == some none) && ti K r
   | _ => false)
  | _ => false
theorem nv {K : Frag} {h : Heap} (X : K.In h) : ∀ {l : List Value}, ti K l = true → OT h l
 | [], e => by cases e
 | v :: r, e => by
  unfold ti at e
  rcases Bool.or_eq_true_iff.mp e with q | q
  ·rw [beq_iff_eq.mp q]; exact .base
  ·split at q
   ·split at q
    ·rename_i ho
     simp only [Bool.and_eq_true] at q
     refine .own (X _ _ ho) (.of_isNs (isNs_of_in X q.1.1)) (fun n hn => nsMap_none_of_in X q.1.1 ?_) (nv X q.2)
     exact beq_iff_eq.mp (List.all_eq_true.mp q.1.2 n hn)
    ·cases q
   ·cases q
noncomputable def sK (K : Frag) (C : Addr) (bm : List Value) : Bool := match K.lookup C with
 | some o => o.cls == .type "type" && (o.slots[4]? == some (some (.builtin "ValueError.__new__")) && o.slots.size == 6) && match o.data with
  | .cls cd => cd.mro == .ref C :: bm && !cd.hasDel && ti K bm && nsOkIn K cd.ns && cm.all (fun n => nsIn K cd.ns n == some none)
  | _ => false
 | none => false
theorem qf {sl : Array (Option Value)} {v : Option Value} (h4 : sl[4]? = some v) (h6 : sl.size = 6) : ∃ k0 k1 k2 k3 k5, sl = #[k0, k1, k2, k3, v, k5] := by
 obtain ⟨l⟩ := sl
 simp only [List.size_toArray] at h6
 rcases l with _ | ⟨k0, _ | ⟨k1, _ | ⟨k2, _ | ⟨k3, _ | ⟨k4, _ | ⟨k5, _ | ⟨k6, r⟩⟩⟩⟩⟩⟩⟩ <;> first | cases h6 | skip
 simp at h4
 subst h4
 exact ⟨k0, k1, k2, k3, k5, rfl⟩
theorem mU {K : Frag} {h : Heap} {C : Addr} {bm : List Value} (X : K.In h) (q : sK K C bm = true) : XC h C bm := by
 unfold sK at q
 cases ho : K.lookup C with
 | none => rw [ho] at q; cases q
 | some o =>
  rw [ho] at q
  obtain ⟨oc, od, da, sl⟩ := o
  cases da with
  | cls cd =>
   simp only [Bool.and_eq_true, beq_iff_eq, Bool.not_eq_true'] at q
   obtain ⟨⟨rfl, h4, h6⟩, ⟨⟨⟨hm, hdel⟩, ht⟩, hok⟩, hni⟩ := q
   obtain ⟨k0, k1, k2, k3, k5, rfl⟩ := qf h4 h6
   obtain ⟨nm, bs, mro, ns, qn, hd, sn, sub, ab, col, yr⟩ := cd
   dsimp only at hm hdel hok hni
   subst hm hdel
   exact ⟨ns, nm, qn, bs, hd, sn, sub, ab, col, od, k0, k1, k2, k3, k5, _, X _ _ ho, .of_isNs (isNs_of_in X hok), fun n hn => nsMap_none_of_in X hok (beq_iff_eq.mp (List.all_eq_true.mp hni n hn)), nv X ht⟩
  | _ => simp at q
theorem XC.own {h : Heap} {Cl : Addr} {bm : List Value} {mg : Str → Option Value} {x : Str} (X : XC h Cl bm) (hg : mg x = some (.ref Cl)) : OwnCls x Cl ct "ValueError.__new__" mg h := by
 obtain ⟨N, nm, q, bs, hdct, sn, sub, ab, col, dd, k0, k1, k2, k3, k5, mN, h1, h2, h3, h4⟩ := X
 exact ⟨hg, bm, N, nm, q, bs, hdct, sn, sub, ab, col, dd, k0, k1, k2, k3, k5, mN, h1, h2, h3 _ (.head _), h4.tail⟩
end Mine
end
noncomputable section
namespace Mine
open PySem PySem.W PyProof.Rows PySem.Calls
noncomputable def bM (c k : String) : Bool := c == k || k == "RoadError"
structure XTab (C : Cx) (cs ks : List String) (ad : String → Addr) : Prop where
 at_ : ∀ k ∈ ks, C.mg (Str.ofString k) = some (.ref (ad k)) ∧ ∃ bm, XC C.hB (ad k) bm
 sub : ∀ c ∈ cs, ∃ bm, C.mg (Str.ofString c) = some (.ref (ad c)) ∧ XC C.hB (ad c) bm ∧ bm.contains (.type "ValueError") = true ∧ ∀ k ∈ ks, (Value.ref (ad c) :: bm).contains (.ref (ad k)) = bM c k
 ve : C.mg (Str.ofString "ValueError") = Option.none
section
variable {C : Cx} {sc : Scope} {k : Nat} {p : Program} {cs ks : List String} {ad : String → Addr}
theorem HSX1.raiseAt (G : Gl C p) (hz : C.held = Option.none) (Tb : XTab C cs ks ad) {c : String} (hc : c ∈ cs) {x : Str} {n : Nat} {np ap cpos pos : Pos} (hn : sc.names.lookup (Str.ofString c) = some .globalImplicit) (hdb : (Str.ofString c == ("__debug__" : Str)) = false) :
  HSX1 C sc k (.Raise (some (.Call (.Name (Str.ofString c) np) [.Constant (.str x) n ap] [] cpos)) Option.none pos) (i7 c) := by
 obtain ⟨bm, h1, h2, _⟩ := Tb.sub c hc
 exact HSX1.raise G.ok hz (h2.own h1) hn hdb
theorem HSX1.tryAt (G : Gl C p) (hz : C.held = Option.none) (Tb : XTab C cs ks ad) {body : List Stmt} {H n : String} {b₀ : Stmt} {suite : List Stmt} {np hpos pos : Pos} {T : dy} {U : Addr → String → ST} (hb : HSX C sc k body T) (hH : H ∈ ks) (hsub : (cs.all fun c => bM c H) = true)
  (hn : sc.names.lookup (Str.ofString H) = some .globalImplicit) (hdb : (Str.ofString H == ("__debug__" : Str)) = false) (hvar : sc.names.lookup (Str.ofString n) = some .local)
  (hs : ∀ (e : Addr) (o : Obj) (vs : Array Value) (c : String), c ∈ cs → C.hB.get? e = Option.none → o.isFreed = false → o.cls = .ref (ad c) → o.data = .fields vs → vs[2]? = some .none → HS (C.hold e o) sc k (b₀ :: suite) (U e c)) :
  HSX1 C sc k (.Try body [.ExceptHandler (some (.Name (Str.ofString H) np)) (some (Str.ofString n)) (b₀ :: suite) hpos] [] [] pos) (sM n cs T U) := by
 obtain ⟨h1, bmH, h2⟩ := Tb.at_ H hH
 refine HSX1.tryAs G.ok hz hb hn hdb h1 h2 hvar (fun c hc => ?_) fun e o vs c Cc hc hg hez hof hcls hd hv2 => ?_
 ·obtain ⟨bm, h3, h4, _, h5⟩ := Tb.sub c hc
  exact ⟨ad c, bm, h3, h4, by rw [h5 H hH]; exact List.all_eq_true.mp hsub c hc⟩
 ·obtain ⟨bm, h3, _⟩ := Tb.sub c hc
  rw [h3] at hg; cases hg
  exact hs e o vs c hc hez hof hcls hd hv2
theorem ip (G : Gl C p) (Tb : XTab C cs ks ad) {e : Addr} {o : Obj} {vs : Array Value} {c n K : String} (hc : c ∈ cs) (hez : C.hB.get? e = Option.none) (hof : o.isFreed = false) (hcls : o.cls = .ref (ad c)) (hd : o.data = .fields vs) (h2 : vs[2]? = some .none) (hK : K ∈ ks) {np p1 p2 pos : Pos}
  (hi : sc.names.lookup (Str.ofString "isinstance") = some .globalImplicit) (hn : sc.names.lookup (Str.ofString n) = some .local) (hnd : (Str.ofString n == ("__debug__" : Str)) = false) (hk : sc.names.lookup (Str.ofString K) = some .globalImplicit) (hkd : (Str.ofString K == ("__debug__" : Str)) = false) :
  HE (C.hold e o) sc k (.Call (.Name (Str.ofString "isinstance") np) [.Name (Str.ofString n) p1, .Name (Str.ofString K) p2] [] pos) (aC (b0 e (.ref (ad K)) (bM c K)) (ah (af n) (ah (ak (.ref (ad K))) az))) := by
 obtain ⟨h1, bmH, h3⟩ := Tb.at_ K hK
 obtain ⟨bm, h4, h5, _, h6⟩ := Tb.sub c hc
 exact u6 (G.hold hez hof hd h2) (uB (mB hez hof) hcls (h5.keeps (bE hez hof)) (h3.keeps (bE hez hof)) (h6 K hK)) hi hn hnd hk hkd h1
theorem u7 (G : Gl C p) (Tb : XTab C cs ks ad) {e : Addr} {o : Obj} {vs : Array Value} {c n : String} (hc : c ∈ cs) (hez : C.hB.get? e = Option.none) (hof : o.isFreed = false) (hcls : o.cls = .ref (ad c)) (hd : o.data = .fields vs) (h2 : vs[2]? = some .none) {np p1 p2 pos : Pos}
  (hi : sc.names.lookup (Str.ofString "isinstance") = some .globalImplicit) (hn : sc.names.lookup (Str.ofString n) = some .local) (hnd : (Str.ofString n == ("__debug__" : Str)) = false) (hk : sc.names.lookup (Str.ofString "ValueError") = some .globalImplicit) :
  HE (C.hold e o) sc k (.Call (.Name (Str.ofString "isinstance") np) [.Name (Str.ofString n) p1, .Name (Str.ofString "ValueError") p2] [] pos) (aC (b0 e (.ty "ValueError") true) (ah (af n) (ah (ak (.ty "ValueError")) az))) := by
 obtain ⟨bm, h4, h5, h6, _⟩ := Tb.sub c hc
 exact tR (G.hold hez hof hd h2) (tr (mB hez hof) hcls (h5.keeps (bE hez hof)) h6) hi hn hnd hk Tb.ve
end
section
variable {m : aT} {σ : ai} {Q : Fl → aT → ai → Prop} {X : XT} {R : V → ai → Prop} {Y : String → ai → Prop}
@[simp] theorem pn {T : ST} : xP T m σ Q X = T m σ Q := rfl
@[simp] theorem u9 {c : String} : i7 c m σ Q X = X c m σ := rfl
@[simp] theorem w9 {B : BT} {T U : dy} : vx B T U m σ Q X = B m σ fun b σ' => if b then T m σ' Q X else U m σ' Q X := rfl
@[simp] theorem ww {g : Tgt} {I : IT} {T : dy} : oy g I T m σ Q X = I m σ fun items inv σ' => hE g inv T items m σ' Q X := rfl
@[simp] theorem sN {x : String} {T : qU} : sO x T m σ Q X = T m σ (fun v σ' => Q .next (put m x v) σ') fun c σ' => X c m σ' := rfl
@[simp] theorem sP {T : qU} : uc T m σ Q X = T m σ (fun v σ' => Q (.ret v) m σ') fun c σ' => X c m σ' := rfl
@[simp] theorem mV {spec : iW} {L : LT} : mW spec L m σ R Y = L m σ fun vs σ' => spec vs σ' R Y := rfl
@[simp] theorem qW {T : ET} {U : qU} : qX T U m σ R Y = T m σ fun v σ₁ => U m σ₁ (fun u σ₂ => R (.tup [v, u]) σ₂) Y := rfl
@[simp] theorem sL {n : String} {cs : List String} {T : dy} {U : Addr → String → ST} : sM n cs T U m σ Q X = T m σ Q fun c m' σ' => c ∈ cs ∧ ∀ e, σ' e = Option.none → U e c (put m' n (.ref e)) σ' fun f m'' σ'' => Q f (cut m'' n) σ'' := rfl
noncomputable def qV (U : dy) (Q : Fl → aT → ai → Prop) (X : XT) : Fl → aT → ai → Prop := fun f m σ => match f with
 | .next => U m σ Q X
 | f => Q f m σ
theorem ba (T U : dy) : bW T U m σ Q X = T m σ (qV U Q X) X := rfl
@[simp] theorem cv (U : dy) : qV U Q X .next m σ = U m σ Q X := rfl
@[simp] theorem u8 (U : dy) (v : V) : qV U Q X (.ret v) m σ = Q (.ret v) m σ := rfl
@[simp] theorem r8 {T : ET} {J : List V → (ai → Prop) → ai → Prop} : pK T m σ J = T m σ fun v σ' => ∃ a xs, v = .ref a ∧ σ' a = some (.list xs) ∧ J xs (fun σ => σ a = some (.list xs)) σ' := rfl
end
theorem eG {g : Tgt} {inv : ai → Prop} {T : dy} (I : Nat → aT → ai → Prop) (hinv : ∀ i m σ, I i m σ → inv σ) (items : List V) {Q : Fl → aT → ai → Prop} {X : XT}
  (step : ∀ i v m σ Q', items[i]? = some v → I i m σ → (∀ m' σ', I (i + 1) m' σ' → Q' .next m' σ') → ∃ m', dB g v m = some m' ∧ T m' σ Q' X)
  (done : ∀ m σ, I items.length m σ → Q .next m σ) : ∀ (m : aT) (σ : ai), I 0 m σ → hE g inv T items m σ Q X := by
 have key : ∀ (n : Nat) (i : Nat) (m : aT) (σ : ai), n = items.length - i → i ≤ items.length → I i m σ → hE g inv T (items.drop i) m σ Q X := by
  intro n
  induction n with
  | zero =>
   intro i m σ hn hi h
   have : i = items.length := by exact Nat.le_antisymm (dE fun hg => lN [i, (items.length)] 0x10a309481 rfl hi hg) (dE fun hg => lN [(items.length - i), i, (items.length)] 0x628c25200c100481 rfl (Nat.le_of_eq (Eq.symm hn)) (dO (items.length) (i)) hg)
   subst this
   rw [List.drop_length]
   exact ⟨hinv _ _ _ h, done m σ h⟩
  | succ n ih =>
   intro i m σ hn hi h
   have hlt : i < items.length := by exact tt fun hg => lN [n, (items.length - i), i, (items.length)] 0x31c273140129061 rfl (Nat.le_of_eq hn) (cU (dE fun hg => lN [i, (items.length)] 0x10a309481 rfl hi hg)) hg
   rw [List.drop_eq_getElem_cons hlt]
   simp only [hE]
   exact ⟨hinv _ _ _ h, step i _ m σ _ (List.getElem?_eq_getElem hlt) h fun m' σ' h' => ih (i + 1) m' σ' (by exact Nat.le_antisymm (dE fun hg => lN [n, (items.length - i), i, (items.length), (items.length - (i + 1))] 0x11030986801c273140129061 rfl (Nat.le_of_eq hn) (cU (dE fun hg => lN [i, (items.length)] 0x2146129061 rfl hlt hg)) (dO (items.length) (i + 1)) hg) (dE fun hg => lN [n, (items.length - i), i, (items.length), (items.length - (i + 1))] 0x208309cc340026280e120ca1 rfl (Nat.le_of_eq (Eq.symm hn)) (dO (items.length) (i)) (cU (dE fun hg => lN [i, (items.length)] 0x41946129061 rfl hlt hg)) hg)) (by exact hlt) h'⟩
 intro m σ h
 have := key items.length 0 m σ (by exact rfl) (by exact Nat.zero_le _) h
 simpa using this
end Mine
end
noncomputable section
set_option maxRecDepth 100000
set_option maxHeartbeats 0
namespace Mine
namespace Hd
noncomputable section
open PySem PySem.W PyProof.Rows PySem.Calls
theorem topGo_q : topGo = PySem.W.Fast.tw15667345088766844465 := PySem.W.Fast.te15667345088766844465
theorem segRun_q : segRun = PySem.W.Fast.tw14374325043358763698 := PySem.W.Fast.te14374325043358763698
theorem segRunT_q : segRunT = PySem.W.Fast.tw10110043849684766642 := PySem.W.Fast.te10110043849684766642
theorem topRun_q : topRun = PySem.W.Fast.tw14082659384304107361 := PySem.W.Fast.te14082659384304107361
theorem table_q : treeTable = PySem.W.Fast.tw14364793385576792824 := PySem.W.Fast.te14364793385576792824
theorem denote_q : denote = PySem.W.Fast.tw11892475500146522536 := PySem.W.Fast.te11892475500146522536
noncomputable def fA (l : List Stmt) (n : Nat) : Arguments := match l[n]? with | some (.FunctionDef _ a _ _ _ _ _ _ _ _) => a | _ => default
noncomputable def fB (l : List Stmt) (n : Nat) : List Stmt := match l[n]? with | some (.FunctionDef _ _ b _ _ _ _ _ _ _) => b | _ => []
noncomputable def fS (l : List Stmt) (n : Nat) : Scope := match l[n]? with | some (.FunctionDef _ _ _ _ _ _ s _ _ _) => s | _ => default
noncomputable def cB (l : List Stmt) (n : Nat) : List Stmt := match l[n]? with | some (.ClassDef _ _ _ b ..) => b | _ => []
noncomputable def cS (l : List Stmt) (n : Nat) : Scope := match l[n]? with | some (.ClassDef _ _ _ _ _ _ s ..) => s | _ => default
abbrev n : Value := .none
abbrev r (k : Nat) : Value := .ref k
abbrev s (x : Str) (k : Nat) : Value := .str x k
abbrev i (k m : Nat) : Value := .int (Int.ofNat k) m
abbrev z (k : Nat) : Value := .int (Int.ofNat k) 0
abbrev t (x : String) : Value := .type x
abbrev u (x : String) : Value := .builtin x
abbrev ps (a b c d : Nat) : Pos := Pos.mk a b c d
noncomputable def e (P : Params) (x : String) (k : Nat) (v : Value) : DictEntry := .mk (PyData.keyHash P x) (.str (Str.ofString x) k) v
noncomputable def O (x : String) (l : List Value) : Obj := .mk (.type x) none (.fields l.toArray) #[]
noncomputable def T (l : List Value) : Obj := .mk (.type "tuple") none (.seq l.toArray 0) #[]
noncomputable def E (l : List Value) : Obj := .mk .none none (.fields l.toArray) #[]
noncomputable def D (l : List DictEntry) (k : Nat) : Obj := .mk (.type "dict") none (.dict l.toArray k) #[]
noncomputable def K (x y : Str) (k l a f b : Nat) (g : Bool) (v0 v1 v2 v3 : Value) (m : Nat) : Obj := O "code" [s x k, s y (k + 1), s "/claim/cut.py" (k + 2), z l, z a, z 0, z 0, z f, r b, .bool g, z 181, r (b + 1), v0, v1, v2, v3, z m, z l, s "/claim/cut.py" (m + 1)]
noncomputable def G (x y : Str) (l : List Stmt) (k : Nat) : Obj := .mk .none none (.func (.mk x y (fA l k) (.stmts (fB l k)) (fS l k) 0 [] n n n n none n n 0)) #[]
noncomputable def F (x y : Str) (l : List Stmt) (k g : Nat) (v c : Value) : Obj := .mk (.type "function") none (.func (.mk x y (fA l k) (.stmts (fB l k)) (fS l k) g [] n n n v none c n 0)) #[]
noncomputable def M (a b c : Nat) (v : Value) : Obj := .mk (.type "frame") none .plain #[some (r a), some (r b), some (r c), none, some v, none, some (r 0)]
noncomputable def lfe : Life := (@Life.mk [] [] [] 0 [] [] false (@List.toArray @Nat []) [] 0 false false false (0 : Int) [(2000 : Int), (10 : Int), (10 : Int)] false 0 true [] [] 0 false)
noncomputable def dw : Drawn := Drawn.mk 0 0 0 0
noncomputable def ev (l : List Obj) : List Obj × List Obj := List.rec ([], []) (fun x _ ih => (x :: ih.2, ih.1)) l
noncomputable def bt (f : Nat) : List Obj → PySem.W.BT := Nat.rec (fun _ => .nil) (fun _ ih l => List.rec .nil (fun x t _ => .node x (ih (ev t).1) (ih (ev t).2)) l) f
abbrev pw : Program := PySem.Challenge.pw_uf050007_08
abbrev TB : List Stmt := pw.main.body
noncomputable def vw : Program := view pw [1, 2, 3, 4, 5, 6, 7, 8, 10, 12, 13, 14, 15, 16, 17, 19, 20, 21, 22, 23, 24, 25, 26, 27, 28, 29, 30, 31, 32, 33, 34]
noncomputable def env : Env := { scope := pw.main.scope, locals := mainNs, globals := mainNs, cells := [], code := (.ref 13), frame := some 14 }
noncomputable def ann : Option Value := (some (.ref 6))
abbrev cE : Code := .body (behindTheImports pw) env
noncomputable def qq : Pos := (ps 0 0 0 0)
abbrev BB : List Frame := [topFrame qq]
abbrev s0 (w : World) (os : OsState) : Shared := Shared.mk (boot_heap w.params) (@Array.mk GenState []) boot_drawn boot_toks os
noncomputable def eo3 (P : Params) : List DictEntry := [(e P "__name__" 165 (s "law_uf050007_08" 395)), (e P "__doc__" 166 n), (e P "__package__" 167 n), (e P "__loader__" 168 (u "__main__.__loader__#opaque")), (e P "__spec__" 169 n), (e P "__annotations__" 170 (r 6)), (e P "__builtins__" 171 (r 4)), (e P "__file__" 173 (s "/claim/cut.py" 172)), (e P "__cached__" 174 n), (e P "RoadError" 206 (r 24)), (e P "NoPath" 222 (r 37)), (e P "NoFile" 238 (r 49)), (e P "InTheWay" 254 (r 61)), (e P "NoClash" 270 (r 73)), (e P "Clashed" 286 (r 85)), (e P "NoVersion" 302 (r 97)), (e P "SameVersion" 318 (r 109)), (e P "above" 326 (r 116)), (e P "all_paths" 340 (r 123)), (e P "marks" 354 (r 130)), (e P "clashing" 360 (r 135)), (e P "standing" 373 (r 142)), (e P "clashes" 379 (r 147)), (e P "joined" 394 (r 154)), (e P "_law_cell_at" 404 (r 161)), (e P "_law_sign_by" 411 (r 168)), (e P "_law_name_by" 417 (r 173)), (e P "_law_path_by" 423 (r 178)), (e P "_law_line_by" 429 (r 183)), (e P "_law_is_free" 438 (r 190)), (e P "_law_grown" 450 (r 197)), (e P "_law_trees" 466 (r 204)), (e P "_law_at" 475 (r 211)), (e P "_law_splits" 484 (r 218)), (e P "_law_uppers" 490 (r 223)), (e P "_law_places" 504 (r 230)), (e P "_law_picks" 516 (r 237)), (e P "_law_told" 522 (r 242)), (e P "_law_due" 528 (r 247)), (e P "law" 547 (r 254))]
noncomputable def o3_0 (P : Params) : Obj := D ((e P "__name__" 165 (s "threeroad.errors" 187)) :: ((eo3 P).drop 1).take 10) 11
noncomputable def o3_1 (P : Params) : Obj := D ((e P "__name__" 165 (s "threeroad.errors" 187)) :: ((eo3 P).drop 1).take 12) 13
noncomputable def o3_2 (P : Params) : Obj := D ((e P "__name__" 165 (s "threeroad.errors" 187)) :: ((eo3 P).drop 1).take 14) 15
noncomputable def o3_3 (P : Params) : Obj := D ((e P "__name__" 165 (s "threeroad.paths" 319)) :: ((eo3 P).drop 1).take 16) 17
noncomputable def o3_4 (P : Params) : Obj := D ((eo3 P).take 31) 31
noncomputable def o3_5 (P : Params) : Obj := D (eo3 P) 40
noncomputable def eo12 : List Value := [(z 2), (z 0), (r 20), (z 4), (z 0), (r 33), (z 6), (z 0), (r 45), (z 8), (z 0), (r 57), (z 10), (z 0), (r 69), (z 12), (z 0), (r 81), (z 14), (z 0), (r 93), (z 16), (z 0), (r 105), (z 19), (z 0), (r 115), (z 23), (z 0), (r 122), (z 29), (z 0), (r 129), (z 45), (z 0), (r 134), (z 47), (z 0), (r 141), (z 57), (z 0), (r 146), (z 65), (z 0), (r 153), (z 88), (z 0), (r 160), (z 92), (z 0), (r 167), (z 94), (z 0), (r 172), (z 108), (z 0), (r 177), (z 116), (z 0), (r 182), (z 121), (z 0), (r 189), (z 126), (z 0), (r 196), (z 142), (z 0), (r 203), (z 164), (z 0), (r 210), (z 168), (z 0), (r 217), (z 170), (z 0), (r 222), (z 172), (z 0), (r 229), (z 186), (z 0), (r 236), (z 201), (z 0), (r 241), (z 210), (z 0), (r 246), (z 224), (z 0), (r 253)]
noncomputable def o12_0 (P : Params) : Obj := E (eo12.take 0)
noncomputable def o12_1 (P : Params) : Obj := E (eo12.take 6)
noncomputable def o12_2 (P : Params) : Obj := E (eo12.take 12)
noncomputable def o12_3 (P : Params) : Obj := E (eo12.take 18)
noncomputable def o12_4 (P : Params) : Obj := E (eo12.take 24)
noncomputable def o12_5 (P : Params) : Obj := E (eo12.take 66)
noncomputable def o12_6 (P : Params) : Obj := E (eo12.take 93)
noncomputable def o24_0 (P : Params) : Obj := (.mk (t "type") none (.cls (.mk "RoadError" [(t "ValueError")] [(r 24), (t "ValueError"), (t "Exception"), (t "BaseException"), (t "object")] 23 "RoadError" true [] [(r 37)] false none false)) (List.toArray [(some (r 15)), none, (some (s "RoadError" 189)), (some (s "RoadError" 197)), (some (u "ValueError.__new__")), (some (.bool true))]))
noncomputable def o24_1 (P : Params) : Obj := (.mk (t "type") none (.cls (.mk "RoadError" [(t "ValueError")] [(r 24), (t "ValueError"), (t "Exception"), (t "BaseException"), (t "object")] 23 "RoadError" true [] [(r 37), (r 49), (r 61)] false none false)) (List.toArray [(some (r 15)), none, (some (s "RoadError" 189)), (some (s "RoadError" 197)), (some (u "ValueError.__new__")), (some (.bool true))]))
noncomputable def o24_2 (P : Params) : Obj := (.mk (t "type") none (.cls (.mk "RoadError" [(t "ValueError")] [(r 24), (t "ValueError"), (t "Exception"), (t "BaseException"), (t "object")] 23 "RoadError" true [] [(r 37), (r 49), (r 61), (r 73), (r 85)] false none false)) (List.toArray [(some (r 15)), none, (some (s "RoadError" 189)), (some (s "RoadError" 197)), (some (u "ValueError.__new__")), (some (.bool true))]))
noncomputable def o24_3 (P : Params) : Obj := (.mk (t "type") none (.cls (.mk "RoadError" [(t "ValueError")] [(r 24), (t "ValueError"), (t "Exception"), (t "BaseException"), (t "object")] 23 "RoadError" true [] [(r 37), (r 49), (r 61), (r 73), (r 85), (r 97), (r 109)] false none false)) (List.toArray [(some (r 15)), none, (some (s "RoadError" 189)), (some (s "RoadError" 197)), (some (u "ValueError.__new__")), (some (.bool true))]))
noncomputable def lz (P : Params) : List Obj := [boot_o_0 P, boot_o_1 P, boot_o_2 P, o3_5 P, boot_o_4 P, boot_o_5 P, boot_o_6 P, boot_o_7 P, boot_o_8 P, boot_o_9 P, boot_o_10 P, T [], o12_6 P, K "<module>" "<module>" 182 1 0 0 11 false n n n n 185, M 13 3 3 (s "__main__" 164), T [(t "ValueError")], O "builtin_function_or_method" [(u "type.__prepare__"), (t "type")], D [(e P "__module__" 196 (s "threeroad.errors" 187)), (e P "__qualname__" 198 (s "RoadError" 197)), (e P "__firstlineno__" 200 (i 2 199)), (e P "__static_attributes__" 201 (r 22))] 4, T [], E [], K "RoadError" "RoadError" 191 2 0 0 18 false n n n n 194, M 20 3 17 (s "threeroad.errors" 187), T [], D [(e P "__module__" 196 (s "threeroad.errors" 187)), (e P "__firstlineno__" 200 (i 2 199)), (e P "__static_attributes__" 201 (r 22)), (e P "__weakref__" 203 (r 25)), (e P "__doc__" 204 n)] 3, o24_3 P, O "getset_descriptor" [(s "__weakref__" 202), (r 24), (u "ExceptionGroup.__weakref__"), n], O "super" [(r 24), (r 24), (r 24)], O "builtin_function_or_method" [(u "object.__init_subclass__"), (r 24)], T [(r 24)], O "builtin_function_or_method" [(u "type.__prepare__"), (t "type")], D [(e P "__module__" 214 (s "threeroad.errors" 187)), (e P "__qualname__" 216 (s "NoPath" 215)), (e P "__firstlineno__" 218 (i 4 217)), (e P "__static_attributes__" 219 (r 35))] 4, T [], E [], K "NoPath" "NoPath" 209 4 0 0 31 false n n n n 212, M 33 3 30 (s "threeroad.errors" 187), T [], D [(e P "__module__" 214 (s "threeroad.errors" 187)), (e P "__firstlineno__" 218 (i 4 217)), (e P "__static_attributes__" 219 (r 35)), (e P "__doc__" 220 n)] 2, (.mk (t "type") none (.cls (.mk "NoPath" [(r 24)] [(r 37), (r 24), (t "ValueError"), (t "Exception"), (t "BaseException"), (t "object")] 36 "NoPath" true [] [] false none false)) (List.toArray [(some (r 28)), none, (some (s "NoPath" 207)), (some (s "NoPath" 215)), (some (u "ValueError.__new__")), (some (.bool true))])), O "super" [(r 37), (r 37), (r 37)], O "builtin_function_or_method" [(u "object.__init_subclass__"), (r 37)], T [(r 24)], O "builtin_function_or_method" [(u "type.__prepare__"), (t "type")], D [(e P "__module__" 230 (s "threeroad.errors" 187)), (e P "__qualname__" 232 (s "NoFile" 231)), (e P "__firstlineno__" 234 (i 6 233)), (e P "__static_attributes__" 235 (r 47))] 4, T [], E [], K "NoFile" "NoFile" 225 6 0 0 43 false n n n n 228, M 45 3 42 (s "threeroad.errors" 187), T [], D [(e P "__module__" 230 (s "threeroad.errors" 187)), (e P "__firstlineno__" 234 (i 6 233)), (e P "__static_attributes__" 235 (r 47)), (e P "__doc__" 236 n)] 2, (.mk (t "type") none (.cls (.mk "NoFile" [(r 24)] [(r 49), (r 24), (t "ValueError"), (t "Exception"), (t "BaseException"), (t "object")] 48 "NoFile" true [] [] false none false)) (List.toArray [(some (r 40)), none, (some (s "NoFile" 223)), (some (s "NoFile" 231)), (some (u "ValueError.__new__")), (some (.bool true))])), O "super" [(r 49), (r 49), (r 49)], O "builtin_function_or_method" [(u "object.__init_subclass__"), (r 49)], T [(r 24)], O "builtin_function_or_method" [(u "type.__prepare__"), (t "type")], D [(e P "__module__" 246 (s "threeroad.errors" 187)), (e P "__qualname__" 248 (s "InTheWay" 247)), (e P "__firstlineno__" 250 (i 8 249)), (e P "__static_attributes__" 251 (r 59))] 4, T [], E [], K "InTheWay" "InTheWay" 241 8 0 0 55 false n n n n 244, M 57 3 54 (s "threeroad.errors" 187), T [], D [(e P "__module__" 246 (s "threeroad.errors" 187)), (e P "__firstlineno__" 250 (i 8 249)), (e P "__static_attributes__" 251 (r 59)), (e P "__doc__" 252 n)] 2, (.mk (t "type") none (.cls (.mk "InTheWay" [(r 24)] [(r 61), (r 24), (t "ValueError"), (t "Exception"), (t "BaseException"), (t "object")] 60 "InTheWay" true [] [] false none false)) (List.toArray [(some (r 52)), none, (some (s "InTheWay" 239)), (some (s "InTheWay" 247)), (some (u "ValueError.__new__")), (some (.bool true))])), O "super" [(r 61), (r 61), (r 61)], O "builtin_function_or_method" [(u "object.__init_subclass__"), (r 61)], T [(r 24)], O "builtin_function_or_method" [(u "type.__prepare__"), (t "type")], D [(e P "__module__" 262 (s "threeroad.errors" 187)), (e P "__qualname__" 264 (s "NoClash" 263)), (e P "__firstlineno__" 266 (i 10 265)), (e P "__static_attributes__" 267 (r 71))] 4, T [], E [], K "NoClash" "NoClash" 257 10 0 0 67 false n n n n 260, M 69 3 66 (s "threeroad.errors" 187), T [], D [(e P "__module__" 262 (s "threeroad.errors" 187)), (e P "__firstlineno__" 266 (i 10 265)), (e P "__static_attributes__" 267 (r 71)), (e P "__doc__" 268 n)] 2, (.mk (t "type") none (.cls (.mk "NoClash" [(r 24)] [(r 73), (r 24), (t "ValueError"), (t "Exception"), (t "BaseException"), (t "object")] 72 "NoClash" true [] [] false none false)) (List.toArray [(some (r 64)), none, (some (s "NoClash" 255)), (some (s "NoClash" 263)), (some (u "ValueError.__new__")), (some (.bool true))])), O "super" [(r 73), (r 73), (r 73)], O "builtin_function_or_method" [(u "object.__init_subclass__"), (r 73)], T [(r 24)], O "builtin_function_or_method" [(u "type.__prepare__"), (t "type")], D [(e P "__module__" 278 (s "threeroad.errors" 187)), (e P "__qualname__" 280 (s "Clashed" 279)), (e P "__firstlineno__" 282 (i 12 281)), (e P "__static_attributes__" 283 (r 83))] 4, T [], E [], K "Clashed" "Clashed" 273 12 0 0 79 false n n n n 276, M 81 3 78 (s "threeroad.errors" 187), T [], D [(e P "__module__" 278 (s "threeroad.errors" 187)), (e P "__firstlineno__" 282 (i 12 281)), (e P "__static_attributes__" 283 (r 83)), (e P "__doc__" 284 n)] 2, (.mk (t "type") none (.cls (.mk "Clashed" [(r 24)] [(r 85), (r 24), (t "ValueError"), (t "Exception"), (t "BaseException"), (t "object")] 84 "Clashed" true [] [] false none false)) (List.toArray [(some (r 76)), none, (some (s "Clashed" 271)), (some (s "Clashed" 279)), (some (u "ValueError.__new__")), (some (.bool true))])), O "super" [(r 85), (r 85), (r 85)], O "builtin_function_or_method" [(u "object.__init_subclass__"), (r 85)], T [(r 24)], O "builtin_function_or_method" [(u "type.__prepare__"), (t "type")], D [(e P "__module__" 294 (s "threeroad.errors" 187)), (e P "__qualname__" 296 (s "NoVersion" 295)), (e P "__firstlineno__" 298 (i 14 297)), (e P "__static_attributes__" 299 (r 95))] 4, T [], E [], K "NoVersion" "NoVersion" 289 14 0 0 91 false n n n n 292, M 93 3 90 (s "threeroad.errors" 187), T [], D [(e P "__module__" 294 (s "threeroad.errors" 187)), (e P "__firstlineno__" 298 (i 14 297)), (e P "__static_attributes__" 299 (r 95)), (e P "__doc__" 300 n)] 2, (.mk (t "type") none (.cls (.mk "NoVersion" [(r 24)] [(r 97), (r 24), (t "ValueError"), (t "Exception"), (t "BaseException"), (t "object")] 96 "NoVersion" true [] [] false none false)) (List.toArray [(some (r 88)), none, (some (s "NoVersion" 287)), (some (s "NoVersion" 295)), (some (u "ValueError.__new__")), (some (.bool true))])), O "super" [(r 97), (r 97), (r 97)], O "builtin_function_or_method" [(u "object.__init_subclass__"), (r 97)], T [(r 24)], O "builtin_function_or_method" [(u "type.__prepare__"), (t "type")], D [(e P "__module__" 310 (s "threeroad.errors" 187)), (e P "__qualname__" 312 (s "SameVersion" 311)), (e P "__firstlineno__" 314 (i 16 313)), (e P "__static_attributes__" 315 (r 107))] 4, T [], E [], K "SameVersion" "SameVersion" 305 16 0 0 103 false n n n n 308, M 105 3 102 (s "threeroad.errors" 187), T [], D [(e P "__module__" 310 (s "threeroad.errors" 187)), (e P "__firstlineno__" 314 (i 16 313)), (e P "__static_attributes__" 315 (r 107)), (e P "__doc__" 316 n)] 2, (.mk (t "type") none (.cls (.mk "SameVersion" [(r 24)] [(r 109), (r 24), (t "ValueError"), (t "Exception"), (t "BaseException"), (t "object")] 108 "SameVersion" true [] [] false none false)) (List.toArray [(some (r 100)), none, (some (s "SameVersion" 303)), (some (s "SameVersion" 311)), (some (u "ValueError.__new__")), (some (.bool true))])), O "super" [(r 109), (r 109), (r 109)], O "builtin_function_or_method" [(u "object.__init_subclass__"), (r 109)], T [], E [], G "above" "above" TB 10, K "above" "above" 321 19 1 3 112 true n n n (r 114) 324, F "above" "above" TB 10 3 (s "threeroad.paths" 319) (r 115), T [], E [], T [(s "elder" 332), (s "one" 333), (s "other" 334), (s "found" 335), (s "tree" 336), (s "path" 337)], T [], G "all_paths" "all_paths" TB 12, K "all_paths" "all_paths" 329 23 3 3 117 true n (r 119) (r 120) (r 121) 338, F "all_paths" "all_paths" TB 12 3 (s "threeroad.joining" 327) (r 122), T [], E [], T [(s "elder" 344), (s "one" 345), (s "other" 346), (s "told" 347), (s "path" 348), (s "was" 349), (s "mine" 350), (s "theirs" 351)], T [], G "marks" "marks" TB 13, K "marks" "marks" 341 29 3 3 124 true n (r 126) (r 127) (r 128) 352, F "marks" "marks" TB 13 3 (s "threeroad.joining" 327) (r 129), T [], E [], G "clashing" "clashing" TB 14, K "clashing" "clashing" 355 45 3 3 131 true n n n (r 133) 358, F "clashing" "clashing" TB 14 3 (s "threeroad.joining" 327) (r 134), T [], E [], T [(s "elder" 364), (s "one" 365), (s "other" 366), (s "away" 367), (s "found" 368), (s "path" 369), (s "text" 370)], T [], G "standing" "standing" TB 15, K "standing" "standing" 361 47 3 3 136 true n (r 138) (r 139) (r 140) 371, F "standing" "standing" TB 15 3 (s "threeroad.joining" 327) (r 141), T [], E [], G "clashes" "clashes" TB 16, K "clashes" "clashes" 374 57 3 3 143 true n n n (r 145) 377, F "clashes" "clashes" TB 16 3 (s "threeroad.joining" 327) (r 146), T [], E [], T [(s "elder" 383), (s "one" 384), (s "other" 385), (s "picks" 386), (s "known" 387), (s "clash" 388), (s "path" 389), (s "files" 390), (s "folder" 391)], T [], G "joined" "joined" TB 17, K "joined" "joined" 380 65 4 3 148 true n (r 150) (r 151) (r 152) 392, F "joined" "joined" TB 17 3 (s "threeroad.joining" 327) (r 153), T [], E [], T [(s "_law_script" 400), (s "_law_k" 401)], T [], G "_law_cell_at" "_law_cell_at" TB 19, K "_law_cell_at" "_law_cell_at" 397 88 2 3 155 true n (r 157) (r 158) (r 159) 402, F "_law_cell_at" "_law_cell_at" TB 19 3 (s "law_uf050007_08" 395) (r 160), T [], E [], T [(s "_law_k" 408)], T [], G "_law_sign_by" "_law_sign_by" TB 20, K "_law_sign_by" "_law_sign_by" 405 92 1 3 162 true n (r 164) (r 165) (r 166) 409, F "_law_sign_by" "_law_sign_by" TB 20 3 (s "law_uf050007_08" 395) (r 167), T [], E [], G "_law_name_by" "_law_name_by" TB 21, K "_law_name_by" "_law_name_by" 412 94 2 3 169 true n n n (r 171) 415, F "_law_name_by" "_law_name_by" TB 21 3 (s "law_uf050007_08" 395) (r 172), T [], E [], G "_law_path_by" "_law_path_by" TB 22, K "_law_path_by" "_law_path_by" 418 108 2 3 174 true n n n (r 176) 421, F "_law_path_by" "_law_path_by" TB 22 3 (s "law_uf050007_08" 395) (r 177), T [], E [], G "_law_line_by" "_law_line_by" TB 23, K "_law_line_by" "_law_line_by" 424 116 2 3 179 true n n n (r 181) 427, F "_law_line_by" "_law_line_by" TB 23 3 (s "law_uf050007_08" 395) (r 182), T [], E [], T [(s "_law_tree" 433), (s "_law_path" 434), (s "_law_other" 435)], T [], G "_law_is_free" "_law_is_free" TB 24, K "_law_is_free" "_law_is_free" 430 121 2 3 184 true n (r 186) (r 187) (r 188) 436, F "_law_is_free" "_law_is_free" TB 24 3 (s "law_uf050007_08" 395) (r 189), T [], E [], T [(s "_law_tree" 442), (s "_law_cell" 443), (s "_law_shift" 444), (s "_law_path" 445), (s "_law_is_far" 446), (s "_law_made" 447)], T [], G "_law_grown" "_law_grown" TB 25, K "_law_grown" "_law_grown" 439 126 3 3 191 true n (r 193) (r 194) (r 195) 448, F "_law_grown" "_law_grown" TB 25 3 (s "law_uf050007_08" 395) (r 196), T [], E [], T [(s "_law_script" 454), (s "_law_shift" 455), (s "_law_cell" 456), (s "_law_elder" 457), (s "_law_k" 458), (s "_law_j" 459), (s "_law_one" 460), (s "_law_other" 461), (s "_law_first" 462), (s "_law_path" 463)], T [], G "_law_trees" "_law_trees" TB 26, K "_law_trees" "_law_trees" 451 142 1 3 198 true n (r 200) (r 201) (r 202) 464, F "_law_trees" "_law_trees" TB 26 3 (s "law_uf050007_08" 395) (r 203), T [], E [], T [(s "_law_was" 470), (s "_law_left" 471), (s "_law_right" 472)], T [], G "_law_at" "_law_at" TB 27, K "_law_at" "_law_at" 467 164 3 3 205 true n (r 207) (r 208) (r 209) 473, F "_law_at" "_law_at" TB 27 3 (s "law_uf050007_08" 395) (r 210), T [], E [], T [(s "_law_was" 479), (s "_law_left" 480), (s "_law_right" 481)], T [], (.mk n none (.func (.mk "_law_splits" "_law_splits" (fA TB 28) (.stmts (fB TB 28)) (fS TB 27) 0 [] n n n n none n n 0)) #[]), K "_law_splits" "_law_splits" 476 168 3 3 212 true n (r 214) (r 215) (r 216) 482, (.mk (t "function") none (.func (.mk "_law_splits" "_law_splits" (fA TB 28) (.stmts (fB TB 28)) (fS TB 27) 3 [] n n n (s "law_uf050007_08" 395) none (r 217) n 0)) #[]), T [], E [], G "_law_uppers" "_law_uppers" TB 29, K "_law_uppers" "_law_uppers" 485 170 1 3 219 true n n n (r 221) 488, F "_law_uppers" "_law_uppers" TB 29 3 (s "law_uf050007_08" 395) (r 222), T [], E [], T [(s "_law_elder" 494), (s "_law_one" 495), (s "_law_other" 496), (s "_law_made" 497), (s "_law_places_here" 498), (s "_law_path" 499), (s "_law_lower" 500), (s "_law_upper" 501)], T [], G "_law_places" "_law_places" TB 30, K "_law_places" "_law_places" 491 172 3 3 224 true n (r 226) (r 227) (r 228) 502, F "_law_places" "_law_places" TB 30 3 (s "law_uf050007_08" 395) (r 229), T [], E [], T [(s "_law_places_here" 508), (s "_law_script" 509), (s "_law_trees_here" 510), (s "_law_picks_here" 511), (s "_law_k" 512), (s "_law_way" 513)], T [], G "_law_picks" "_law_picks" TB 31, K "_law_picks" "_law_picks" 505 186 3 3 231 true n (r 233) (r 234) (r 235) 514, F "_law_picks" "_law_picks" TB 31 3 (s "law_uf050007_08" 395) (r 236), T [], E [], G "_law_told" "_law_told" TB 32, K "_law_told" "_law_told" 517 201 4 3 238 true n n n (r 240) 520, F "_law_told" "_law_told" TB 32 3 (s "law_uf050007_08" 395) (r 241), T [], E [], G "_law_due" "_law_due" TB 33, K "_law_due" "_law_due" 523 210 4 3 243 true n n n (r 245) 526, F "_law_due" "_law_due" TB 33 3 (s "law_uf050007_08" 395) (r 246), T [], E [], T [(s "_law_script" 532), (s "_law_elder" 533), (s "_law_one" 534), (s "_law_other" 535), (s "_law_places_here" 536), (s "_law_picks_here" 537), (s "_law_word" 538), (s "_law_due_here" 539), (s "_law_odd" 540), (s "_law_kept" 541), (s "_law_left" 542), (s "_law_right" 543), (s "_law_found" 544)], T [], G "law" "law" TB 34, K "law" "law" 529 224 1 3 248 true n (r 250) (r 251) (r 252) 545, F "law" "law" TB 34 3 (s "law_uf050007_08" 395) (r 253)]
noncomputable def ob (P : Params) (a : Nat) : Obj := (lz P).getD a default
noncomputable def hp_a (P : Params) : Heap := Heap.mk ⟨(((lz P).take 15).set 3 (boot_o_3 P)).set 12 (o12_0 P)⟩ lfe
abbrev sl_a (w : World) (os : OsState) : Shared := Shared.mk (hp_a w.params) #[] dw 187 os
noncomputable def tr_b (P : Params) : PySem.W.BT := bt 8 ((((lz P).take 15).set 3 (boot_o_3 P)).set 12 (o12_0 P))
abbrev st_b (w : World) (os : OsState) : SharedT := SharedT.mk (tr_b w.params) 15 lfe #[] dw 187 os
theorem q_pre : ∀ w : World, (fun os => topGo treeTable pw w 11 ann 12 (s0 w os) (topStub pw)) = fun os => some (sl_a w os, Thread.mk (denote treeTable cE) cE (ps 0 0 0 0) BB) := fun w => by rw [topGo_q, table_q, denote_q]; kernel_rfl
theorem q_block : ∀ w : World, (fun os => segRun treeTable pw w 11 ann 1 1 (sl_a w os) (blockOf (behindTheImports pw) env cE (ps 0 0 0 0) BB)) = fun os => some (Flow.next, (st_b w os).abs, cE, (ps 0 0 0 0)) := fun w => by rw [segRun_q, table_q]; kernel_rfl
noncomputable def tr_3 (P : Params) : PySem.W.BT := bt 8 (((((lz P).take 40).set 3 (o3_0 P)).set 12 (o12_1 P)).set 24 (o24_0 P))
abbrev st_3 (w : World) (os : OsState) : SharedT := SharedT.mk (tr_3 w.params) 40 lfe #[] dw 223 os
noncomputable def ss_3 : List Stmt := ((behindTheImports pw).drop 0).take 3
theorem q_3 : ∀ w : World, (fun os => segRunT treeTable pw w 11 ann 1 409 (st_b w os) (piecesOf ss_3 env cE (ps 0 0 0 0) BB)) = fun os => some (Flow.next, st_3 w os, cE, (ps 4 0 5 8)) := fun w => by rw [segRunT_q, table_q]; kernel_rfl
noncomputable def tr_5 (P : Params) : PySem.W.BT := bt 8 (((((lz P).take 64).set 3 (o3_1 P)).set 12 (o12_2 P)).set 24 (o24_1 P))
abbrev st_5 (w : World) (os : OsState) : SharedT := SharedT.mk (tr_5 w.params) 64 lfe #[] dw 255 os
noncomputable def ss_5 : List Stmt := ((behindTheImports pw).drop 3).take 2
theorem q_5 : ∀ w : World, (fun os => segRunT treeTable pw w 11 ann 1 427 (st_3 w os) (piecesOf ss_5 env cE (ps 4 0 5 8) BB)) = fun os => some (Flow.next, st_5 w os, cE, (ps 8 0 9 8)) := fun w => by rw [segRunT_q, table_q]; kernel_rfl
noncomputable def tr_7 (P : Params) : PySem.W.BT := bt 8 (((((lz P).take 88).set 3 (o3_2 P)).set 12 (o12_3 P)).set 24 (o24_2 P))
abbrev st_7 (w : World) (os : OsState) : SharedT := SharedT.mk (tr_7 w.params) 88 lfe #[] dw 287 os
noncomputable def ss_7 : List Stmt := ((behindTheImports pw).drop 5).take 2
theorem q_7 : ∀ w : World, (fun os => segRunT treeTable pw w 11 ann 1 427 (st_5 w os) (piecesOf ss_7 env cE (ps 8 0 9 8) BB)) = fun os => some (Flow.next, st_7 w os, cE, (ps 12 0 13 8)) := fun w => by rw [segRunT_q, table_q]; kernel_rfl
noncomputable def tr_10 (P : Params) : PySem.W.BT := bt 8 ((((lz P).take 112).set 3 (o3_3 P)).set 12 (o12_4 P))
abbrev st_10 (w : World) (os : OsState) : SharedT := SharedT.mk (tr_10 w.params) 112 lfe #[] dw 321 os
noncomputable def ss_10 : List Stmt := ((behindTheImports pw).drop 7).take 3
theorem q_10 : ∀ w : World, (fun os => segRunT treeTable pw w 11 ann 1 436 (st_7 w os) (piecesOf ss_10 env cE (ps 12 0 13 8) BB)) = fun os => some (Flow.next, st_10 w os, cE, (ps 18 0 18 8)) := fun w => by rw [segRunT_q, table_q]; kernel_rfl
noncomputable def tr_26 (P : Params) : PySem.W.BT := bt 8 ((((lz P).take 198).set 3 (o3_4 P)).set 12 (o12_5 P))
abbrev st_26 (w : World) (os : OsState) : SharedT := SharedT.mk (tr_26 w.params) 198 lfe #[] dw 451 os
noncomputable def ss_26 : List Stmt := ((behindTheImports pw).drop 10).take 16
theorem q_26 : ∀ w : World, (fun os => segRunT treeTable pw w 11 ann 1 441 (st_10 w os) (piecesOf ss_26 env cE (ps 18 0 18 8) BB)) = fun os => some (Flow.next, st_26 w os, cE, (ps 126 0 141 20)) := fun w => by rw [segRunT_q, table_q]; kernel_rfl
noncomputable def tr_35 (P : Params) : PySem.W.BT := bt 8 (lz P)
abbrev st_35 (w : World) (os : OsState) : SharedT := SharedT.mk (tr_35 w.params) 255 lfe #[] dw 548 os
noncomputable def ss_35 : List Stmt := ((behindTheImports pw).drop 26).take 9
theorem q_35 : ∀ w : World, (fun os => segRunT treeTable pw w 11 ann 1 290 (st_26 w os) (piecesOf ss_35 env cE (ps 126 0 141 20) BB)) = fun os => some (Flow.next, st_35 w os, cE, (ps 224 0 248 75)) := fun w => by rw [segRunT_q, table_q]; kernel_rfl
noncomputable def hp_f (P : Params) : Heap := Heap.mk ⟨lz P⟩ lfe
abbrev sl_f (w : World) (os : OsState) : Shared := Shared.mk (hp_f w.params) #[] dw 548 os
theorem q_fin : ∀ w : World, (fun os => topRun treeTable pw w 11 ann 2 (st_35 w os).abs (Thread.mk (doneF .next) cE (ps 224 0 248 75) BB)) = fun os => some (sl_f w os) := fun w => by rw [topRun_q, table_q]; kernel_rfl
theorem body_eq : behindTheImports pw = (ss_3 ++ (ss_5 ++ (ss_7 ++ (ss_10 ++ (ss_26 ++ (ss_35 ++ ([] : List Stmt))))))) := by kernel_rfl
theorem q_rest (w : World) (os : OsState) : topRun treeTable pw w 11 ann (Nat.add 409 (Nat.add 427 (Nat.add 427 (Nat.add 436 (Nat.add 441 (Nat.add 290 2)))))) (st_b w os).abs (restOf (ss_3 ++ (ss_5 ++ (ss_7 ++ (ss_10 ++ (ss_26 ++ (ss_35 ++ ([] : List Stmt))))))) env cE (ps 0 0 0 0) BB) = some (sl_f w os) :=
 (piece_app (tb := treeTable) (p := pw) (w := w) (n₀ := 11) (ann := ann) (env := env) (q := qq) (n := 409) (N := (Nat.add 427 (Nat.add 427 (Nat.add 436 (Nat.add 441 (Nat.add 290 2)))))) (s := (st_b w os).abs) (s' := (st_3 w os).abs) (r := sl_f w os) (l := ss_3) (rest := (ss_5 ++ (ss_7 ++ (ss_10 ++ (ss_26 ++ (ss_35 ++ ([] : List Stmt))))))) (c := cE) (pos := (ps 0 0 0 0)) (p' := (ps 4 0 5 8)) (segRun_of (congrFun (q_3 w) os))
  (piece_app (tb := treeTable) (p := pw) (w := w) (n₀ := 11) (ann := ann) (env := env) (q := qq) (n := 427) (N := (Nat.add 427 (Nat.add 436 (Nat.add 441 (Nat.add 290 2))))) (s := (st_3 w os).abs) (s' := (st_5 w os).abs) (r := sl_f w os) (l := ss_5) (rest := (ss_7 ++ (ss_10 ++ (ss_26 ++ (ss_35 ++ ([] : List Stmt)))))) (c := cE) (pos := (ps 4 0 5 8)) (p' := (ps 8 0 9 8)) (segRun_of (congrFun (q_5 w) os))
  (piece_app (tb := treeTable) (p := pw) (w := w) (n₀ := 11) (ann := ann) (env := env) (q := qq) (n := 427) (N := (Nat.add 436 (Nat.add 441 (Nat.add 290 2)))) (s := (st_5 w os).abs) (s' := (st_7 w os).abs) (r := sl_f w os) (l := ss_7) (rest := (ss_10 ++ (ss_26 ++ (ss_35 ++ ([] : List Stmt))))) (c := cE) (pos := (ps 8 0 9 8)) (p' := (ps 12 0 13 8)) (segRun_of (congrFun (q_7 w) os))
  (piece_app (tb := treeTable) (p := pw) (w := w) (n₀ := 11) (ann := ann) (env := env) (q := qq) (n := 436) (N := (Nat.add 441 (Nat.add 290 2))) (s := (st_7 w os).abs) (s' := (st_10 w os).abs) (r := sl_f w os) (l := ss_10) (rest := (ss_26 ++ (ss_35 ++ ([] : List Stmt)))) (c := cE) (pos := (ps 12 0 13 8)) (p' := (ps 18 0 18 8)) (segRun_of (congrFun (q_10 w) os))
  (piece_app (tb := treeTable) (p := pw) (w := w) (n₀ := 11) (ann := ann) (env := env) (q := qq) (n := 441) (N := (Nat.add 290 2)) (s := (st_10 w os).abs) (s' := (st_26 w os).abs) (r := sl_f w os) (l := ss_26) (rest := (ss_35 ++ ([] : List Stmt))) (c := cE) (pos := (ps 18 0 18 8)) (p' := (ps 126 0 141 20)) (segRun_of (congrFun (q_26 w) os))
  (piece_app (tb := treeTable) (p := pw) (w := w) (n₀ := 11) (ann := ann) (env := env) (q := qq) (n := 290) (N := 2) (s := (st_26 w os).abs) (s' := (st_35 w os).abs) (r := sl_f w os) (l := ss_35) (rest := ([] : List Stmt)) (c := cE) (pos := (ps 126 0 141 20)) (p' := (ps 224 0 248 75)) (segRun_of (congrFun (q_35 w) os))
  (congrFun (q_fin w) os)))))))
theorem q_run (w : World) (os : OsState) : topRun treeTable pw w 11 ann (Nat.add 12 (Nat.add 1 (Nat.add 409 (Nat.add 427 (Nat.add 427 (Nat.add 436 (Nat.add 441 (Nat.add 290 2)))))))) (s0 w os) (topStub pw) = some (sl_f w os) :=
 go_top (congrFun (q_pre w) os) (piece_block (congrFun (q_block w) os) (by rw [show restOf (behindTheImports pw) env cE (ps 0 0 0 0) BB = restOf (ss_3 ++ (ss_5 ++ (ss_7 ++ (ss_10 ++ (ss_26 ++ (ss_35 ++ ([] : List Stmt))))))) env cE (ps 0 0 0 0) BB from congrArg (fun b => restOf b env cE (ps 0 0 0 0) BB) body_eq]; exact q_rest w os))
theorem q_le : Nat.ble (Nat.add 12 (Nat.add 1 (Nat.add 409 (Nat.add 427 (Nat.add 427 (Nat.add 436 (Nat.add 441 (Nat.add 290 2)))))))) 4974 = true := by kernel_rfl
theorem q_open : ∀ w : World, (fencedOpening treeTable pw w 4974).map (fun s => (s.heap, s.gens, s.drawn, s.toks)) = some (boot_heap w.params, (@Array.mk GenState []), boot_drawn, boot_toks) := boot_open (by kernel_rfl) (by kernel_rfl) (fun _ => by kernel_rfl)
theorem q_size : ∀ w : World, ((boot_heap w.params).isNs mainGlobals && ((@Array.mk GenState [])).size == 0, (boot_heap w.params).objs.size, (boot_heap w.params).nsMap mainGlobals "__annotations__") = (true, 11, ann) := fun w => by kernel_rfl
noncomputable def ks : List Addr := [0, 1, 2, 3, 4, 5, 6, 7, 9, 10, 11, 13, 14, 15, 16, 17, 18, 20, 21, 22, 23, 24, 25, 26, 27, 28, 29, 30, 31, 33, 34, 35, 36, 37, 38, 39, 40, 41, 42, 43, 45, 46, 47, 48, 49, 50, 51, 52, 53, 54, 55, 57, 58, 59, 60, 61, 62, 63, 64, 65, 66, 67, 69, 70, 71, 72, 73, 74, 75, 76, 77, 78, 79, 81, 82, 83, 84, 85, 86, 87, 88, 89, 90, 91, 93, 94, 95, 96, 97, 98, 99, 100, 101, 102, 103, 105, 106, 107, 108, 109, 110, 111, 112, 115, 116, 117, 119, 120, 122, 123, 124, 126, 127, 129, 130, 131, 134, 135, 136, 138, 139, 141, 142, 143, 146, 147, 148, 150, 151, 153, 154, 155, 157, 158, 160, 161, 162, 164, 165, 167, 168, 169, 172, 173, 174, 177, 178, 179, 182, 183, 184, 186, 187, 189, 190, 191, 193, 194, 196, 197, 198, 200, 201, 203, 204, 205, 207, 208, 210, 211, 212, 214, 215, 217, 218, 219, 222, 223, 224, 226, 227, 229, 230, 231, 233, 234, 236, 237, 238, 241, 242, 243, 246, 247, 248, 250, 251, 253, 254]
noncomputable def kk (P : Params) : Frag := ks.map fun a => (a, (lz P).getD a default)
abbrev NN : Nat := 4974
theorem openSeen_q : @openSeen = @PySem.W.Fast.tw4187177175401517315 := PySem.W.Fast.te4187177175401517315
theorem imods_q : importedModules = PySem.W.Fast.tw5923862056798008813 := PySem.W.Fast.te5923862056798008813
abbrev rw : OpenLaw := PySem.Challenge.rw_uf050007_08
abbrev Xt : Shared → Bool := fun s => xlAt vw [] s && recOk (RowW.records (OpenRow.toRowW rw.row)) s
abbrev HK : Hook := kHook kk ks (fun _ => by kernel_rfl)
theorem l_1 : ∀ w : World, (fun os => (staticsOk (importedModules pw.main.body) (boot_heap w.params) (hp_f w.params) && namesBound pw (hp_f w.params) && gensDone (sl_f w os) && laidKept (boot_heap w.params) (hp_f w.params))) = fun _ : OsState => true := fun w => by rw [imods_q]; kernel_rfl
theorem l_2 : ∀ w : World, (fun os => openSeen vw [] (importedModules pw.main.body) Xt true (sl_f w os)) = fun _ : OsState => openGood vw [] := fun w => by rw [imods_q, openSeen_q]; kernel_rfl
theorem l_3 : ∀ w : World, (fun os => HK.obs (sl_f w os)) = fun _ : OsState => HK.val w := fun w => by kernel_rfl
theorem left : LeftO pw vw [] Xt HK.obs HK.val NN :=
 LeftO.of_pieces (p := pw) (q := vw) (loose := []) (Xt := Xt) (Yf := HK.obs) (Ya := HK.val) (N := NN) (g0 := true) (H₀ := boot_heap) (H₁ := hp_f) q_open q_size q_run q_le
  fun w => funext fun os => looks_pair (congrFun (l_1 w) os) (looks_pair (congrFun (l_2 w) os) (congrFun (l_3 w) os))
theorem said : rw.wellSaid = true := by
 unfold OpenLaw.wellSaid OpenRow.wellSaid OpenRow.partSaid looksOpen
 repeat' (with_reducible refine look_both ?_ ?_)
 all_goals decide +kernel
theorem hd {d : DefRec} {kwd : List (Str × Expr)} (hdef : defOf vw rw.row.name = some (d, kwd)) (hp : rw.row.prog.theDef rw.row.name = some (d.params, d.body, d.scope)) (hk : kwWritten? d.params.kwonlyargs d.params.kw_defaults = some kwd)
  (call : WalkO vw [] (XL vw []) HK.says rw.row.toRowW d kwd fun f vs => PySem.call f vs) : rw.Holds :=
 holds_law said fun said' =>
  holds_open (q := vw) (loose := []) (Xt := Xt) (XP := XL vw []) (Yf := HK.obs) (Ya := HK.val) (YP := HK.says) (N := NN) left HK.of HK.keeps (fun s e => xl_of s (Bool.and_eq_true_iff.mp e).1) XL.keeps hdef hp hk
   (fun s e => recFacts_of (Bool.and_eq_true_iff.mp e).2) (by rfl) said' (by decide +kernel) ⟨rfl, rfl, rfl, rfl, rfl, by decide +kernel⟩ (by w_witness2) call
end
end Hd
end Mine
end
noncomputable section
namespace Mine
open PySem PySem.W PyProof.Rows PySem.Calls
noncomputable def t8 : List String := ["NoClash", "Clashed"]
noncomputable def tx : List String := ["RoadError", "NoPath", "NoFile", "InTheWay", "NoClash", "Clashed", "NoVersion", "SameVersion"]
noncomputable def ax (kvs : List (Str × V)) : List Str := kvs.map (·.1)
structure Tr (n : Nat) (kvs : List (Str × V)) : Prop where
 len : kvs.length ≤ n
 key : ∀ q ∈ kvs, q.1.length ≤ 300
 val : ∀ q ∈ kvs, ∃ y, q.2 = .str y
 nodup : (ax kvs).Nodup
noncomputable def gS (kvs : List (Str × V)) (x : Str) : Option Str := match dm kvs x with | some (.str y) => some y | _ => Option.none
noncomputable def dt : Option Str → V
 | Option.none => .none
 | some y => .str y
noncomputable def ij (w m t : Option Str) : Option Str :=
 if m = t then (if m = w then Option.none else some (Str.ofString "alike")) else if t = w then some (Str.ofString "one") else if m = w then some (Str.ofString "other") else some (Str.ofString "clash")
noncomputable def fz (w m t : Option Str) : Bool := !decide (m = t) && !decide (m = w) && !decide (t = w)
noncomputable def jt (w m t : Option Str) : Option Str := if fz w m t then Option.none else if m = w then t else m
noncomputable def lE (w m t : Option Str) : Option Str := if m = t ∨ t = w then m else t
noncomputable def jw (a b c : List (Str × V)) (x : Str) : Bool := fz (gS a x) (gS b x) (gS c x)
noncomputable def st (a b c : List (Str × V)) (x : Str) : Option Str := jt (gS a x) (gS b x) (gS c x)
noncomputable def qT (a b c : List (Str × V)) (x : Str) : Option V := (ij (gS a x) (gS b x) (gS c x)).map fun u => V.tup [.str x, .str u]
noncomputable def bO (x : Str) : List Str := (List.range ((Txt.split x (Str.ofString "/")).length - 1)).map fun i => Str.join (Str.ofString "/") ((Txt.split x (Str.ofString "/")).take (i + 1))
noncomputable def jW (x : Str) : List Str := (List.range (cl x).length).filterMap fun i => if (cl x)[i]? = some 47 then some ⟨((cl x).take i).toArray⟩ else Option.none
structure Al (a b c : List (Str × V)) (ks : List Str) : Prop where
 nd : ks.Nodup
 mem : ∀ x, x ∈ ks ↔ x ∈ ax a ∨ x ∈ ax b ∨ x ∈ ax c
structure Kp (K : List Str) : Prop where
 few : K.length ≤ 1000
 len : ∀ x ∈ K, x.length ≤ 300
structure In0 (K : List Str) (kvs : List (Str × V)) : Prop where
 sub : ∀ x ∈ ax kvs, x ∈ K
 val : ∀ q ∈ kvs, ∃ y, q.2 = .str y
 nodup : (ax kvs).Nodup
structure Is (K : List Str) (f : Str → Option Str) (kvs : List (Str × V)) : Prop where
 i0 : In0 K kvs
 eq : ∀ x, gS kvs x = f x
structure Pk (K : List Str) (pk : List (Str × V)) : Prop where
 sub : ∀ x ∈ ax pk, x ∈ K
 val : ∀ q ∈ pk, ∃ o, q.2 = dt o
 nodup : (ax pk).Nodup
noncomputable def jS (a b c : List (Str × V)) (x : Str) : Prop := jw a b c x = true ∨ st a b c x ≠ Option.none ∧ ∃ y, st a b c y ≠ Option.none ∧ (x ∈ bO y ∨ y ∈ bO x)
noncomputable def pN (a b c pk : List (Str × V)) (x : Str) : Option Str := if x ∈ ax pk then gS pk x else st a b c x
structure OkJ (a b c pk : List (Str × V)) : Prop where
 cl : ∀ x, jw a b c x = true → x ∈ ax pk
 fre : ∀ x y, pN a b c pk x ≠ Option.none → pN a b c pk y ≠ Option.none → y ∉ bO x
structure D3 (K : List Str) (a b c : Addr) (ka kb kc : List (Str × V)) (e1 e2 e3 : Nat) (σ : ai) : Prop where
 xa : σ a = some (.dict ka e1)
 xb : σ b = some (.dict kb e2)
 xc : σ c = some (.dict kc e3)
 ta : In0 K ka
 tb : In0 K kb
 tc : In0 K kc
 un : Kp K
noncomputable def yn (c : String) (σ : ai) (X : String → ai → Prop) : Prop := ∀ σ', Grow σ σ' → X c σ'
noncomputable def nB (P : List (Str × V) → Prop) (σ : ai) (Q : V → ai → Prop) : Prop := ∀ f kf ep σ', Grow σ σ' → σ f = Option.none → σ' f = some (.dict kf ep) → P kf → Q (.ref f) σ'
inductive sp__law_cell_at (ns : List Int) (vs : List V) (σ : ai) (Q : V → ai → Prop) : Prop
 | mk (k : _) (h1 : vs = [.script, .int k]) (h2 : 0 ≤ k) (h3 : Q (.int (cell ns k)) σ) : sp__law_cell_at ns vs σ Q
inductive sp__law_sign_by (ns : List Int) (vs : List V) (σ : ai) (Q : V → ai → Prop) : Prop
 | mk (k : _) (h1 : vs = [.int k]) (h2 : ∀ x : Str, x.length = 1 → Q (.str x) σ) : sp__law_sign_by ns vs σ Q
inductive sp__law_name_by (ns : List Int) (vs : List V) (σ : ai) (Q : V → ai → Prop) : Prop
 | mk (c : _) (s : _) (h1 : vs = [.int c, .int s]) (h2 : ∀ (x : Str) σ', Grow σ σ' → x.length ≤ 25 → Q (.str x) σ') : sp__law_name_by ns vs σ Q
inductive sp__law_path_by (ns : List Int) (vs : List V) (σ : ai) (Q : V → ai → Prop) : Prop
 | mk (c : _) (s : _) (h1 : vs = [.int c, .int s]) (h2 : ∀ (x : Str) σ', Grow σ σ' → x.length ≤ 250 → Q (.str x) σ') : sp__law_path_by ns vs σ Q
inductive sp__law_line_by (ns : List Int) (vs : List V) (σ : ai) (Q : V → ai → Prop) : Prop
 | mk (c : _) (s : _) (h1 : vs = [.int c, .int s]) (h2 : ∀ (x : Str) σ', Grow σ σ' → Q (.str x) σ') : sp__law_line_by ns vs σ Q
inductive sp__law_is_free (ns : List Int) (vs : List V) (σ : ai) (Q : V → ai → Prop) : Prop
 | mk (a : _) (kvs : _) (ep : _) (x : _) (h1 : vs = [.ref a, .str x]) (h2 : σ a = some (.dict kvs ep)) (h3 : (∀ q ∈ kvs, q.1.length ≤ 300)) (h4 : x.length ≤ 1000) (h5 : ∀ b : Bool, Q (.bool b) σ) : sp__law_is_free ns vs σ Q
inductive sp__law_grown (ns : List Int) (vs : List V) (σ : ai) (Q : V → ai → Prop) : Prop
 | mk (a : _) (kvs : _) (ep : _) (c : _) (s : _) (n : _) (h1 : vs = [.ref a, .int c, .int s]) (h2 : σ a = some (.dict kvs ep)) (h3 : Tr n kvs) (h4 : n ≤ 900) (h5 : nB (Tr (n + 1)) σ Q) : sp__law_grown ns vs σ Q
inductive sp__law_trees (ns : List Int) (vs : List V) (σ : ai) (Q : V → ai → Prop) : Prop
 | mk (z : _) (h1 : vs = [z]) (h2 : z = V.script) (h3 : ∀ a b c ka kb kc e1 e2 e3 σ', Grow σ σ' → σ' a = some (.dict ka e1) → σ' b = some (.dict kb e2) → σ' c = some (.dict kc e3) → Tr 200 ka → Tr 200 kb → Tr 200 kc → Q (.tup [.ref a, .ref b, .ref c]) σ') : sp__law_trees ns vs σ Q
inductive sp__law_at (ns : List Int) (vs : List V) (σ : ai) (Q : V → ai → Prop) : Prop
 | mk (w : _) (m : _) (t : _) (h1 : vs = [dt w, dt m, dt t]) (h2 : Q (dt (lE w m t)) σ) : sp__law_at ns vs σ Q
inductive sp__law_splits (ns : List Int) (vs : List V) (σ : ai) (Q : V → ai → Prop) : Prop
 | mk (w : _) (m : _) (t : _) (h1 : vs = [dt w, dt m, dt t]) (h2 : Q (.bool (fz w m t)) σ) : sp__law_splits ns vs σ Q
inductive sp__law_uppers (ns : List Int) (vs : List V) (σ : ai) (Q : V → ai → Prop) : Prop
 | mk (x : _) (h1 : vs = [.str x]) (h2 : x.length ≤ 300) (h3 : iz ((jW x).map .str) σ Q) : sp__law_uppers ns vs σ Q
inductive sp_above (ns : List Int) (vs : List V) (σ : ai) (Q : V → ai → Prop) : Prop
 | mk (x : _) (h1 : vs = [.str x]) (h2 : x.length ≤ 300) (h3 : iz ((bO x).map .str) σ Q) : sp_above ns vs σ Q
inductive sp_all_paths (ns : List Int) (vs : List V) (σ : ai) (Q : V → ai → Prop) : Prop
 | mk (K : _) (a : _) (b : _) (c : _) (ka : _) (kb : _) (kc : _) (e1 : _) (e2 : _) (e3 : _) (h1 : vs = [.ref a, .ref b, .ref c]) (h2 : D3 K a b c ka kb kc e1 e2 e3 σ) (h3 : ∀ ks, Al ka kb kc ks → iz (ks.map .str) σ Q) : sp_all_paths ns vs σ Q
inductive sp_marks (ns : List Int) (vs : List V) (σ : ai) (Q : V → ai → Prop) : Prop
 | mk (K : _) (a : _) (b : _) (c : _) (ka : _) (kb : _) (kc : _) (e1 : _) (e2 : _) (e3 : _) (h1 : vs = [.ref a, .ref b, .ref c]) (h2 : D3 K a b c ka kb kc e1 e2 e3 σ) (h3 : ∀ ks, Al ka kb kc ks → iz (ks.filterMap (qT ka kb kc)) σ Q) : sp_marks ns vs σ Q
inductive sp_clashing (ns : List Int) (vs : List V) (σ : ai) (Q : V → ai → Prop) : Prop
 | mk (K : _) (a : _) (b : _) (c : _) (ka : _) (kb : _) (kc : _) (e1 : _) (e2 : _) (e3 : _) (h1 : vs = [.ref a, .ref b, .ref c]) (h2 : D3 K a b c ka kb kc e1 e2 e3 σ) (h3 : ∀ cs : List Str, (∀ x, x ∈ cs ↔ jw ka kb kc x = true) → cs.length ≤ 1000 → iz (cs.map .str) σ Q) : sp_clashing ns vs σ Q
inductive sp_standing (ns : List Int) (vs : List V) (σ : ai) (Q : V → ai → Prop) : Prop
 | mk (K : _) (a : _) (b : _) (c : _) (ka : _) (kb : _) (kc : _) (e1 : _) (e2 : _) (e3 : _) (h1 : vs = [.ref a, .ref b, .ref c]) (h2 : D3 K a b c ka kb kc e1 e2 e3 σ) (h3 : nB (Is K (st ka kb kc)) σ Q) : sp_standing ns vs σ Q
inductive sp_clashes (ns : List Int) (vs : List V) (σ : ai) (Q : V → ai → Prop) : Prop
 | mk (K : _) (a : _) (b : _) (c : _) (ka : _) (kb : _) (kc : _) (e1 : _) (e2 : _) (e3 : _) (h1 : vs = [.ref a, .ref b, .ref c]) (h2 : D3 K a b c ka kb kc e1 e2 e3 σ) (h3 : ∀ fs : List (List Str), (∀ x, (∃ l ∈ fs, x ∈ l) ↔ jS ka kb kc x) → iz (fs.map gY) σ Q) : sp_clashes ns vs σ Q
inductive sp_joined (ns : List Int) (vs : List V) (σ : ai) (Q : V → ai → Prop) (X : String → ai → Prop) : Prop
 | mk (K : _) (a : _) (b : _) (c : _) (ka : _) (kb : _) (kc : _) (e1 : _) (e2 : _) (e3 : _) (p : _) (pk : _) (ep : _) (h1 : vs = [.ref a, .ref b, .ref c, .ref p]) (h2 : D3 K a b c ka kb kc e1 e2 e3 σ) (h3 : σ p = some (.dict pk ep)) (h4 : Pk K pk) (h5 : (¬ (∀ x ∈ ax pk, jS ka kb kc x) → yn "NoClash" σ X)) (h6 : ((∀ x ∈ ax pk, jS ka kb kc x) → ¬ OkJ ka kb kc pk → yn "Clashed" σ X)) (h7 : ((∀ x ∈ ax pk, jS ka kb kc x) → OkJ ka kb kc pk → nB (Is K (pN ka kb kc pk)) σ Q)) : sp_joined ns vs σ Q X
inductive sp__law_places (ns : List Int) (vs : List V) (σ : ai) (Q : V → ai → Prop) : Prop
 | mk (K : _) (a : _) (b : _) (c : _) (ka : _) (kb : _) (kc : _) (e1 : _) (e2 : _) (e3 : _) (h1 : vs = [.ref a, .ref b, .ref c]) (h2 : D3 K a b c ka kb kc e1 e2 e3 σ) (h3 : ∀ xs : List Str, (∀ x, x ∈ xs ↔ jS ka kb kc x) → xs.length ≤ 1000 → iz (xs.map .str) σ Q) : sp__law_places ns vs σ Q
inductive sp__law_picks (ns : List Int) (vs : List V) (σ : ai) (Q : V → ai → Prop) : Prop
 | mk (K : _) (a : _) (b : _) (c : _) (ka : _) (kb : _) (kc : _) (e1 : _) (e2 : _) (e3 : _) (l : _) (t : _) (xs : _) (h1 : vs = [.ref l, .script, .ref t]) (h2 : D3 K a b c ka kb kc e1 e2 e3 σ) (h3 : σ l = some (.list (List.map V.str xs))) (h4 : (∀ x ∈ xs, x ∈ K)) (h5 : xs.length ≤ 1000) (h6 : σ t = some (.list [.ref a, .ref b, .ref c])) (h7 : nB (fun pk => Pk K pk ∧ ∀ x ∈ ax pk, x ∈ xs) σ Q) : sp__law_picks ns vs σ Q
inductive sp__law_due (ns : List Int) (vs : List V) (σ : ai) (Q : V → ai → Prop) : Prop
 | mk (K : _) (a : _) (b : _) (c : _) (ka : _) (kb : _) (kc : _) (e1 : _) (e2 : _) (e3 : _) (p : _) (pk : _) (ep : _) (h1 : vs = [.ref a, .ref b, .ref c, .ref p]) (h2 : D3 K a b c ka kb kc e1 e2 e3 σ) (h3 : σ p = some (.dict pk ep)) (h4 : Pk K pk) (h5 : (∀ x ∈ ax pk, jS ka kb kc x)) (h6 : (¬ OkJ ka kb kc pk → ∀ σ', Grow σ σ' → Q .none σ')) (h7 : (OkJ ka kb kc pk → nB (Is K (pN ka kb kc pk)) σ Q)) : sp__law_due ns vs σ Q
inductive sp__law_told (ns : List Int) (vs : List V) (σ : ai) (Q : V → ai → Prop) (d9 : String → ai → Prop) : Prop
 | mk (K : _) (a : _) (b : _) (c : _) (ka : _) (kb : _) (kc : _) (e1 : _) (e2 : _) (e3 : _) (p : _) (pk : _) (ep : _) (h1 : vs = [.ref a, .ref b, .ref c, .ref p]) (h2 : D3 K a b c ka kb kc e1 e2 e3 σ) (h3 : σ p = some (.dict pk ep)) (h4 : Pk K pk) (h5 : (¬ (∀ x ∈ ax pk, jS ka kb kc x) → ∀ σ', Grow σ σ' → Q (.tup [.str (Str.ofString "NoClash"), .bool true]) σ')) (h6 : ((∀ x ∈ ax pk, jS ka kb kc x) → ¬ OkJ ka kb kc pk → ∀ σ', Grow σ σ' → Q (.tup [.str (Str.ofString "Clashed"), .bool true]) σ')) (h7 : ((∀ x ∈ ax pk, jS ka kb kc x) → OkJ ka kb kc pk → nB (Is K (pN ka kb kc pk)) σ fun v σ' => Q (.tup [.str (Str.ofString "made"), v]) σ')) : sp__law_told ns vs σ Q d9
noncomputable def ma (_ns : List Int) : iW := rl
end Mine
end
noncomputable section
set_option maxRecDepth 100000
set_option maxHeartbeats 4000000
namespace Mine
open PySem PySem.W PyProof.Rows PySem.Calls
noncomputable def lW (ns : List Int) : ST :=
 (a7 "parts" (a4 cT jJ (af "path") (ah (ak (.str (Str.ofString "/"))) az)))
noncomputable def lV (ns : List Int) : ST :=
 (bH (eo ["parts"] (.name "size") (ce (ah (ak (.int 1)) (ah (aC (dA ns) (ah (af "parts") az)) az))) tT (a4 cT cw (ak (.str (Str.ofString "/"))) (ah (nZ ns (af "parts") j9 (ix (af "size"))) az))))
noncomputable def jR (ns : List Int) : ST := (au (lW ns) (au (lV ns) aA))
theorem tM {C : Cx} (G : Gl C Hd.vw) (hz : C.held = none)   : HS C (aN Hd.vw 8) 0 (bq Hd.vw 8) (jR C.ns) :=
 (aj (aF (.inr rfl) (sD (ae rfl rfl) (ag aL am rfl) rfl (fun _ => rfl) rfl (by decide)) (fun _ _ => rfl))
 (aj (aV (gX (CompOk.of rfl) (dz G hz rfl (ag ar (ag (fH G rfl (ag (aP rfl rfl) am rfl) rfl) am rfl) rfl) rfl) (aY rfl) gV (dL aL (ag (jo G.ok (aP rfl rfl) iX (fG (ae rfl rfl))) am rfl) rfl (fun _ => rfl) rfl (by decide)) (fun _ _ => rfl)))
 av))
theorem tD {C : Cx} (G : Gl C Hd.vw) (hz : C.held = none)   (hspec : ∀ vs σ Q, sp_above C.ns vs σ Q → vs.length = 1 ∧ jR C.ns (aM ["path"] vs aW) σ (fin Q)) : FnAt C 0 "above" (sp_above C.ns) :=
 FnAt.mk (xs := ["path"]) G 0 8 rfl rfl rfl rfl rfl (fun ws pm code doc h => by
  obtain ⟨w0, rfl⟩ := qA h
  rfl) rfl (tM G hz  ) hspec
noncomputable def hW (ns : List Int) : ST :=
 (a7 "found" eD)
noncomputable def hV (ns : List Int) : ST :=
 (dp (.name "tree") (jx ns (bC (ah (af "elder") (ah (af "one") (ah (af "other") az))))) (au (dp (.name "path") (jx ns (af "tree")) (au (aH bN (ak (.bool true)) (af "found") (af "path"))
 aA))
 aA))
noncomputable def hU (ns : List Int) : ST :=
 (bH (o9 (af "found")))
noncomputable def ew (ns : List Int) : ST := (au (hW ns) (au (hV ns) (au (hU ns) aA)))
theorem oj {C : Cx} (G : Gl C Hd.vw) (hz : C.held = none)   : HS C (aN Hd.vw 9) 0 (bq Hd.vw 9) (ew C.ns) :=
 (aj (aF (.inl rfl) ds (fun _ _ => rfl))
 (aj (bu (aY rfl) (ch G.ok hz (bv (ag (ae rfl rfl) (ag (ae rfl rfl) (ag (ae rfl rfl) am rfl) rfl) rfl))) (aj (bu (aY rfl) (ch G.ok hz (ae rfl rfl)) (aj (aU bA cu (ae rfl rfl) (ae rfl rfl) (fun _ _ => rfl))
 av) (fun _ _ => rfl))
 av) (fun _ _ => rfl))
 (aj (aV (lu G hz rfl (ae rfl rfl) (fun _ => rfl) rfl))
 av)))
theorem nX {C : Cx} (G : Gl C Hd.vw) (hz : C.held = none)   (hspec : ∀ vs σ Q, sp_all_paths C.ns vs σ Q → vs.length = 3 ∧ ew C.ns (aM ["elder", "one", "other"] vs aW) σ (fin Q)) : FnAt C 0 "all_paths" (sp_all_paths C.ns) :=
 FnAt.mk (xs := ["elder", "one", "other"]) G 1 9 rfl rfl rfl rfl rfl (fun ws pm code doc h => by
  obtain ⟨w0, w1, w2, rfl⟩ := kj h
  rfl) rfl (oj G hz  ) hspec
noncomputable def lU (ns : List Int) : ST :=
 (a7 "told" (bC az))
noncomputable def lT (ns : List Int) : ST :=
 (dp (.name "path") (jx ns (aC (sp_all_paths ns) (ah (af "elder") (ah (af "one") (ah (af "other") az))))) (au (a7 "was" (a4 bi bX (af "elder") (ah (af "path") az)))
 (au (a7 "mine" (a4 bi bX (af "one") (ah (af "path") az)))
 (au (a7 "theirs" (a4 bi bX (af "other") (ah (af "path") az)))
 (au (b8 (aE (an bk (af "mine") (af "theirs"))) (au (b8 (aE (an cb (af "mine") (af "was"))) (au (ge (a4 eB cr (af "told") (ah (cQ (ah (af "path") (ah (ak (.str (Str.ofString "alike"))) az))) az)))
 aA) aA)
 aA) (au (b8 (aE (an bk (af "theirs") (af "was"))) (au (ge (a4 eB cr (af "told") (ah (cQ (ah (af "path") (ah (ak (.str (Str.ofString "one"))) az))) az)))
 aA) (au (b8 (aE (an bk (af "mine") (af "was"))) (au (ge (a4 eB cr (af "told") (ah (cQ (ah (af "path") (ah (ak (.str (Str.ofString "other"))) az))) az)))
 aA) (au (ge (a4 eB cr (af "told") (ah (cQ (ah (af "path") (ah (ak (.str (Str.ofString "clash"))) az))) az)))
 aA))
 aA))
 aA))
 aA)))))
noncomputable def lS (ns : List Int) : ST :=
 (bH (af "told"))
noncomputable def jP (ns : List Int) : ST := (au (lU ns) (au (lT ns) (au (lS ns) aA)))
theorem tL {C : Cx} (G : Gl C Hd.vw) (hz : C.held = none)  (h_all_paths : FnAt C 0 "all_paths" (sp_all_paths C.ns)) : HS C (aN Hd.vw 10) 1 (bq Hd.vw 10) (jP C.ns) :=
 (aj (aF (.inl rfl) (bv am) (fun _ _ => rfl))
 (aj (bu (aY rfl) (ch G.ok hz (aD G h_all_paths (by decide) rfl rfl (ag (ae rfl rfl) (ag (ae rfl rfl) (ag (ae rfl rfl) am rfl) rfl) rfl) rfl)) (aj (aF (.inl rfl) (bD G (ae rfl rfl) (ag (ae rfl rfl) am rfl) rfl (fun _ => rfl) rfl (by decide)) (fun _ _ => rfl))
 (aj (aF (.inl rfl) (bD G (ae rfl rfl) (ag (ae rfl rfl) am rfl) rfl (fun _ => rfl) rfl (by decide)) (fun _ _ => rfl))
 (aj (aF (.inl rfl) (bD G (ae rfl rfl) (ag (ae rfl rfl) am rfl) rfl (fun _ => rfl) rfl (by decide)) (fun _ _ => rfl))
 (aj (aK (aO bz (ae rfl rfl) (ae rfl rfl) rfl) (aj (aK (aO ii (ae rfl rfl) (ae rfl rfl) rfl) (aj (dX (fh (ae rfl rfl) (ag (ci (ag (ae rfl rfl) (ag aL am rfl) rfl)) am rfl) rfl (fun _ => rfl) rfl (by decide)) (fun _ _ => rfl))
 av) av)
 av) (aj (aK (aO bz (ae rfl rfl) (ae rfl rfl) rfl) (aj (dX (fh (ae rfl rfl) (ag (ci (ag (ae rfl rfl) (ag aL am rfl) rfl)) am rfl) rfl (fun _ => rfl) rfl (by decide)) (fun _ _ => rfl))
 av) (aj (aK (aO bz (ae rfl rfl) (ae rfl rfl) rfl) (aj (dX (fh (ae rfl rfl) (ag (ci (ag (ae rfl rfl) (ag aL am rfl) rfl)) am rfl) rfl (fun _ => rfl) rfl (by decide)) (fun _ _ => rfl))
 av) (aj (dX (fh (ae rfl rfl) (ag (ci (ag (ae rfl rfl) (ag aL am rfl) rfl)) am rfl) rfl (fun _ => rfl) rfl (by decide)) (fun _ _ => rfl))
 av))
 av))
 av))
 av)))) (fun _ _ => rfl))
 (aj (aV (ae rfl rfl))
 av)))
theorem tC {C : Cx} (G : Gl C Hd.vw) (hz : C.held = none)  (h_all_paths : FnAt C 0 "all_paths" (sp_all_paths C.ns)) (hspec : ∀ vs σ Q, sp_marks C.ns vs σ Q → vs.length = 3 ∧ jP C.ns (aM ["elder", "one", "other"] vs aW) σ (fin Q)) : FnAt C 1 "marks" (sp_marks C.ns) :=
 FnAt.mk (xs := ["elder", "one", "other"]) G 2 10 rfl rfl rfl rfl rfl (fun ws pm code doc h => by
  obtain ⟨w0, w1, w2, rfl⟩ := kj h
  rfl) rfl (tL G hz  h_all_paths) hspec
noncomputable def iR (ns : List Int) : ST :=
 (bH (eo [] (.tup ["path", "word"]) (jx ns (aC (sp_marks ns) (ah (af "elder") (ah (af "one") (ah (af "other") az))))) (aE (an bk (af "word") (ak (.str (Str.ofString "clash"))))) (af "path")))
noncomputable def fE (ns : List Int) : ST := (au (iR ns) aA)
theorem pg {C : Cx} (G : Gl C Hd.vw) (hz : C.held = none)  (h_marks : FnAt C 1 "marks" (sp_marks C.ns)) : HS C (aN Hd.vw 11) 2 (bq Hd.vw 11) (fE C.ns) :=
 (aj (aV (gX (CompOk.of rfl) (ch G.ok hz (aD G h_marks (by decide) rfl rfl (ag (ae rfl rfl) (ag (ae rfl rfl) (ag (ae rfl rfl) am rfl) rfl) rfl) rfl)) (mT G.ok (l := [("path", _), ("word", _)]) (by decide)) (jT (aO bz (ae rfl rfl) aL rfl)) (ae rfl rfl) (fun _ _ => rfl)))
 av)
theorem o6 {C : Cx} (G : Gl C Hd.vw) (hz : C.held = none)  (h_marks : FnAt C 1 "marks" (sp_marks C.ns)) (hspec : ∀ vs σ Q, sp_clashing C.ns vs σ Q → vs.length = 3 ∧ fE C.ns (aM ["elder", "one", "other"] vs aW) σ (fin Q)) : FnAt C 2 "clashing" (sp_clashing C.ns) :=
 FnAt.mk (xs := ["elder", "one", "other"]) G 3 11 rfl rfl rfl rfl rfl (fun ws pm code doc h => by
  obtain ⟨w0, w1, w2, rfl⟩ := kj h
  rfl) rfl (pg G hz  h_marks) hspec
noncomputable def iO (ns : List Int) : ST :=
 (a7 "away" (aC (sp_clashing ns) (ah (af "elder") (ah (af "one") (ah (af "other") az)))))
noncomputable def iN (ns : List Int) : ST :=
 (a7 "found" eD)
noncomputable def iM (ns : List Int) : ST :=
 (dp (.name "path") (jx ns (aC (sp_all_paths ns) (ah (af "elder") (ah (af "one") (ah (af "other") az))))) (au (a7 "text" (a4 bi bX (af "one") (ah (af "path") az)))
 (au (b8 (aE (an bk (a4 bi bX (af "one") (ah (af "path") az)) (a4 bi bX (af "elder") (ah (af "path") az)))) (au (a7 "text" (a4 bi bX (af "other") (ah (af "path") az)))
 aA) aA)
 (au (b8 (dD (aE (an iy (af "path") (af "away"))) (dD (aE (an bY (af "text") (ak .none))) tT)) (au (aH bN (af "text") (af "found") (af "path"))
 aA) aA)
 aA))))
noncomputable def iL (ns : List Int) : ST :=
 (bH (af "found"))
noncomputable def fD (ns : List Int) : ST := (au (iO ns) (au (iN ns) (au (iM ns) (au (iL ns) aA))))
theorem pf {C : Cx} (G : Gl C Hd.vw) (hz : C.held = none)  (h_clashing : FnAt C 2 "clashing" (sp_clashing C.ns)) (h_all_paths : FnAt C 0 "all_paths" (sp_all_paths C.ns)) : HS C (aN Hd.vw 12) 3 (bq Hd.vw 12) (fD C.ns) :=
 (aj (aF (.inl rfl) (aD G h_clashing (by decide) rfl rfl (ag (ae rfl rfl) (ag (ae rfl rfl) (ag (ae rfl rfl) am rfl) rfl) rfl) rfl) (fun _ _ => rfl))
 (aj (aF (.inl rfl) ds (fun _ _ => rfl))
 (aj (bu (aY rfl) (ch G.ok hz (aD G h_all_paths (by decide) rfl rfl (ag (ae rfl rfl) (ag (ae rfl rfl) (ag (ae rfl rfl) am rfl) rfl) rfl) rfl)) (aj (aF (.inl rfl) (bD G (ae rfl rfl) (ag (ae rfl rfl) am rfl) rfl (fun _ => rfl) rfl (by decide)) (fun _ _ => rfl))
 (aj (aK (aO bz (bD G (ae rfl rfl) (ag (ae rfl rfl) am rfl) rfl (fun _ => rfl) rfl (by decide)) (bD G (ae rfl rfl) (ag (ae rfl rfl) am rfl) rfl (fun _ => rfl) rfl (by decide)) rfl) (aj (aF (.inl rfl) (bD G (ae rfl rfl) (ag (ae rfl rfl) am rfl) rfl (fun _ => rfl) rfl (by decide)) (fun _ _ => rfl))
 av) av)
 (aj (aK (b7 (dk (aO lB (ae rfl rfl) (ae rfl rfl) rfl) (dk (aO gj (ae rfl rfl) dK rfl) ee))) (aj (aU bA (ae rfl rfl) (ae rfl rfl) (ae rfl rfl) (fun _ _ => rfl))
 av) av)
 av))) (fun _ _ => rfl))
 (aj (aV (ae rfl rfl))
 av))))
theorem o5 {C : Cx} (G : Gl C Hd.vw) (hz : C.held = none)  (h_clashing : FnAt C 2 "clashing" (sp_clashing C.ns)) (h_all_paths : FnAt C 0 "all_paths" (sp_all_paths C.ns)) (hspec : ∀ vs σ Q, sp_standing C.ns vs σ Q → vs.length = 3 ∧ fD C.ns (aM ["elder", "one", "other"] vs aW) σ (fin Q)) : FnAt C 3 "standing" (sp_standing C.ns) :=
 FnAt.mk (xs := ["elder", "one", "other"]) G 4 12 rfl rfl rfl rfl rfl (fun ws pm code doc h => by
  obtain ⟨w0, w1, w2, rfl⟩ := kj h
  rfl) rfl (pf G hz  h_clashing h_all_paths) hspec
noncomputable def jE (ns : List Int) : ST :=
 (a7 "told" (eo [] (.name "path") (jx ns (aC (sp_clashing ns) (ah (af "elder") (ah (af "one") (ah (af "other") az))))) tT (cQ (ah (af "path") az))))
noncomputable def jD (ns : List Int) : ST :=
 (a7 "files" (aC (sp_standing ns) (ah (af "elder") (ah (af "one") (ah (af "other") az)))))
noncomputable def jC (ns : List Int) : ST :=
 (dp (.name "path") (jx ns (af "files")) (au (dp (.name "folder") (jx ns (aC (sp_above ns) (ah (af "path") az))) (au (b8 (aE (an dQ (af "folder") (af "files"))) (au (ge (a4 eB cr (af "told") (ah (cQ (ah (af "folder") (ah (af "path") az))) az)))
 aA) aA)
 aA))
 aA))
noncomputable def jB (ns : List Int) : ST :=
 (bH (aC eJ (ah (af "told") az)))
noncomputable def gT (ns : List Int) : ST := (au (jE ns) (au (jD ns) (au (jC ns) (au (jB ns) aA))))
theorem qP {C : Cx} (G : Gl C Hd.vw) (hz : C.held = none)  (h_clashing : FnAt C 2 "clashing" (sp_clashing C.ns)) (h_standing : FnAt C 3 "standing" (sp_standing C.ns)) (h_above : FnAt C 0 "above" (sp_above C.ns)) : HS C (aN Hd.vw 13) 4 (bq Hd.vw 13) (gT C.ns) :=
 (aj (eA (CompOk.of rfl) (ch G.ok hz (aD G h_clashing (by decide) rfl rfl (ag (ae rfl rfl) (ag (ae rfl rfl) (ag (ae rfl rfl) am rfl) rfl) rfl) rfl)) (aY rfl) gV (ci (ag (ae rfl rfl) am rfl)) (fun _ _ => rfl) rfl (eh rfl rfl rfl))
 (aj (aF (.inl rfl) (aD G h_standing (by decide) rfl rfl (ag (ae rfl rfl) (ag (ae rfl rfl) (ag (ae rfl rfl) am rfl) rfl) rfl) rfl) (fun _ _ => rfl))
 (aj (bu (aY rfl) (ch G.ok hz (ae rfl rfl)) (aj (bu (aY rfl) (ch G.ok hz (aD G h_above (by decide) rfl rfl (ag (ae rfl rfl) am rfl) rfl)) (aj (aK (aO (gk G.ok) (ae rfl rfl) (ae rfl rfl) rfl) (aj (dX (fh (ae rfl rfl) (ag (ci (ag (ae rfl rfl) (ag (ae rfl rfl) am rfl) rfl)) am rfl) rfl (fun _ => rfl) rfl (by decide)) (fun _ _ => rfl))
 av) av)
 av) (fun _ _ => rfl))
 av) (fun _ _ => rfl))
 (aj (aV (lf G hz rfl (ag (ae rfl rfl) am rfl) rfl))
 av))))
theorem qH {C : Cx} (G : Gl C Hd.vw) (hz : C.held = none)  (h_clashing : FnAt C 2 "clashing" (sp_clashing C.ns)) (h_standing : FnAt C 3 "standing" (sp_standing C.ns)) (h_above : FnAt C 0 "above" (sp_above C.ns)) (hspec : ∀ vs σ Q, sp_clashes C.ns vs σ Q → vs.length = 3 ∧ gT C.ns (aM ["elder", "one", "other"] vs aW) σ (fin Q)) : FnAt C 4 "clashes" (sp_clashes C.ns) :=
 FnAt.mk (xs := ["elder", "one", "other"]) G 5 13 rfl rfl rfl rfl rfl (fun ws pm code doc h => by
  obtain ⟨w0, w1, w2, rfl⟩ := kj h
  rfl) rfl (qP G hz  h_clashing h_standing h_above) hspec
noncomputable def kZ (ns : List Int) : dy :=
 (xP (a7 "known" eD))
noncomputable def kY (ns : List Int) : dy :=
 (xP (dp (.name "clash") (jx ns (aC (sp_clashes ns) (ah (af "elder") (ah (af "one") (ah (af "other") az))))) (au (dp (.name "path") (jx ns (af "clash")) (au (aH bN (ak (.bool true)) (af "known") (af "path"))
 aA))
 aA)))
noncomputable def kX (ns : List Int) : dy :=
 (oy (.name "path") (jx ns (af "picks")) (bW (vx (aE (an dq (af "path") (af "known"))) (bW (i7 "NoClash")
 (xP aA)) (xP aA))
 (xP aA)))
noncomputable def kW (ns : List Int) : dy :=
 (oy (.name "path") (jx ns (aC (sp_clashing ns) (ah (af "elder") (ah (af "one") (ah (af "other") az))))) (bW (vx (aE (an dq (af "path") (af "picks"))) (bW (i7 "Clashed")
 (xP aA)) (xP aA))
 (xP aA)))
noncomputable def kU (ns : List Int) : dy :=
 (xP (a7 "files" (aC (sp_standing ns) (ah (af "elder") (ah (af "one") (ah (af "other") az))))))
noncomputable def kT (ns : List Int) : dy :=
 (xP (dp (.name "path") (jx ns (af "picks")) (au (b8 (aE (an bY (an ej (af "picks") (af "path")) (ak .none))) (au (aH bN (an ej (af "picks") (af "path")) (af "files") (af "path"))
 aA) (au (b8 (aE (an dQ (af "path") (af "files"))) (au (ge (a4 bi ly (af "files") (ah (af "path") az)))
 aA) aA)
 aA))
 aA)))
noncomputable def kS (ns : List Int) : dy :=
 (oy (.name "path") (jx ns (af "files")) (bW (oy (.name "folder") (jx ns (aC (sp_above ns) (ah (af "path") az))) (bW (vx (aE (an dQ (af "folder") (af "files"))) (bW (i7 "Clashed")
 (xP aA)) (xP aA))
 (xP aA)))
 (xP aA)))
noncomputable def kR (ns : List Int) : ST :=
 (bH (af "files"))
noncomputable def iQ (ns : List Int) : dy := (bW (kZ ns) (bW (kY ns) (bW (kX ns) (bW (kW ns) (bW (kU ns) (bW (kT ns) (bW (kS ns) (xP (au (kR ns) aA)))))))))
theorem sw {C : Cx} (G : Gl C Hd.vw) (hz : C.held = none)  {ad : String → Addr} (Tb : XTab C t8 tx ad) (h_clashes : FnAt C 4 "clashes" (sp_clashes C.ns)) (h_clashing : FnAt C 2 "clashing" (sp_clashing C.ns)) (h_standing : FnAt C 3 "standing" (sp_standing C.ns)) (h_above : FnAt C 0 "above" (sp_above C.ns)) : HSX C (aN Hd.vw 14) 5 (bq Hd.vw 14) (iQ C.ns) :=
 (HSX.cons (HSX1.plain (aF (.inl rfl) ds (fun _ _ => rfl)))
 (HSX.cons (HSX1.plain (bu (aY rfl) (ch G.ok hz (aD G h_clashes (by decide) rfl rfl (ag (ae rfl rfl) (ag (ae rfl rfl) (ag (ae rfl rfl) am rfl) rfl) rfl) rfl)) (aj (bu (aY rfl) (ch G.ok hz (ae rfl rfl)) (aj (aU bA cu (ae rfl rfl) (ae rfl rfl) (fun _ _ => rfl))
 av) (fun _ _ => rfl))
 av) (fun _ _ => rfl)))
 (HSX.cons (HSX1.for (aY rfl) (ch G.ok hz (ae rfl rfl)) (HSX.cons (HSX1.ite (aO (gO G.ok) (ae rfl rfl) (ae rfl rfl) rfl) (HSX.cons (HSX1.raiseAt G hz Tb (by decide) rfl rfl)
 (HSX.plain av)) (HSX.plain av))
 (HSX.plain av)) (fun _ _ => rfl))
 (HSX.cons (HSX1.for (aY rfl) (ch G.ok hz (aD G h_clashing (by decide) rfl rfl (ag (ae rfl rfl) (ag (ae rfl rfl) (ag (ae rfl rfl) am rfl) rfl) rfl) rfl)) (HSX.cons (HSX1.ite (aO (gO G.ok) (ae rfl rfl) (ae rfl rfl) rfl) (HSX.cons (HSX1.raiseAt G hz Tb (by decide) rfl rfl)
 (HSX.plain av)) (HSX.plain av))
 (HSX.plain av)) (fun _ _ => rfl))
 (HSX.cons (HSX1.plain (aF (.inl rfl) (aD G h_standing (by decide) rfl rfl (ag (ae rfl rfl) (ag (ae rfl rfl) (ag (ae rfl rfl) am rfl) rfl) rfl) rfl) (fun _ _ => rfl)))
 (HSX.cons (HSX1.plain (bu (aY rfl) (ch G.ok hz (ae rfl rfl)) (aj (aK (aO gj (lh (ae rfl rfl) (ae rfl rfl) rfl) dK rfl) (aj (aU bA (lh (ae rfl rfl) (ae rfl rfl) rfl) (ae rfl rfl) (ae rfl rfl) (fun _ _ => rfl))
 av) (aj (aK (aO (gk G.ok) (ae rfl rfl) (ae rfl rfl) rfl) (aj (dX (p6 (ae rfl rfl) (ag (ae rfl rfl) am rfl) rfl (fun _ => rfl) rfl (by decide)) (fun _ _ => rfl))
 av) av)
 av))
 av) (fun _ _ => rfl)))
 (HSX.cons (HSX1.for (aY rfl) (ch G.ok hz (ae rfl rfl)) (HSX.cons (HSX1.for (aY rfl) (ch G.ok hz (aD G h_above (by decide) rfl rfl (ag (ae rfl rfl) am rfl) rfl)) (HSX.cons (HSX1.ite (aO (gk G.ok) (ae rfl rfl) (ae rfl rfl) rfl) (HSX.cons (HSX1.raiseAt G hz Tb (by decide) rfl rfl)
 (HSX.plain av)) (HSX.plain av))
 (HSX.plain av)) (fun _ _ => rfl))
 (HSX.plain av)) (fun _ _ => rfl))
 (HSX.plain (aj (aV (ae rfl rfl))
 av)))))))))
theorem si {C : Cx} (G : Gl C Hd.vw) (hz : C.held = none)  {ad : String → Addr} (Tb : XTab C t8 tx ad) (h_clashes : FnAt C 4 "clashes" (sp_clashes C.ns)) (h_clashing : FnAt C 2 "clashing" (sp_clashing C.ns)) (h_standing : FnAt C 3 "standing" (sp_standing C.ns)) (h_above : FnAt C 0 "above" (sp_above C.ns)) (hspec : ∀ vs σ Q X, sp_joined C.ns vs σ Q X → vs.length = 4 ∧ iQ C.ns (aM ["elder", "one", "other", "picks"] vs aW) σ (fin Q) (fun c _ σ' => X c σ')) : FnAtX C 5 "joined" (sp_joined C.ns) :=
 FnAtX.mk (xs := ["elder", "one", "other", "picks"]) G 6 14 rfl rfl rfl rfl rfl (fun ws pm code doc h => by
  obtain ⟨w0, w1, w2, w3, rfl⟩ := uJ h
  rfl) rfl (sw G hz  Tb h_clashes h_clashing h_standing h_above) hspec
noncomputable def fg (ns : List Int) : ST :=
 (b8 (aE (an rC (af "_law_k") (aC (dA ns) (ah (af "_law_script") az)))) (au (bH (an (aG ns) (af "_law_script") (af "_law_k")))
 aA) aA)
noncomputable def ff (ns : List Int) : ST :=
 (bH (ak (.int 0)))
noncomputable def cP (ns : List Int) : ST := (au (fg ns) (au (ff ns) aA))
theorem kP {C : Cx} (G : Gl C Hd.vw) (hz : C.held = none)   : HS C (aN Hd.vw 15) 0 (bq Hd.vw 15) (cP C.ns) :=
 (aj (aK (aO rI (ae rfl rfl) (fH G rfl (ag (ae rfl rfl) am rfl) rfl) rfl) (aj (aV (bd G (ae rfl rfl) (ae rfl rfl) rfl))
 av) av)
 (aj (aV ar)
 av))
theorem kB {C : Cx} (G : Gl C Hd.vw) (hz : C.held = none)   (hspec : ∀ vs σ Q, sp__law_cell_at C.ns vs σ Q → vs.length = 2 ∧ cP C.ns (aM ["_law_script", "_law_k"] vs aW) σ (fin Q)) : FnAt C 0 "_law_cell_at" (sp__law_cell_at C.ns) :=
 FnAt.mk (xs := ["_law_script", "_law_k"]) G 7 15 rfl rfl rfl rfl rfl (fun ws pm code doc h => by
  obtain ⟨w0, w1, rfl⟩ := qz h
  rfl) rfl (kP G hz  ) hspec
noncomputable def eU (ns : List Int) : ST :=
 (bH (an (aG ns) (ak (.str (Str.ofString "abcdefghijklmnopqrstuvwxyzABCDEFGHIJKLMNOPQRSTUVWXYZ0123456789.-_"))) (an a6 (af "_law_k") (ak (.int 65)))))
noncomputable def cI (ns : List Int) : ST := (au (eU ns) aA)
theorem kK {C : Cx} (G : Gl C Hd.vw) (hz : C.held = none)   : HS C (aN Hd.vw 16) 0 (bq Hd.vw 16) (cI C.ns) :=
 (aj (aV (bd G aL (aB aZ (ae rfl rfl) ar) rfl))
 av)
theorem kq {C : Cx} (G : Gl C Hd.vw) (hz : C.held = none)   (hspec : ∀ vs σ Q, sp__law_sign_by C.ns vs σ Q → vs.length = 1 ∧ cI C.ns (aM ["_law_k"] vs aW) σ (fin Q)) : FnAt C 0 "_law_sign_by" (sp__law_sign_by C.ns) :=
 FnAt.mk (xs := ["_law_k"]) G 8 16 rfl rfl rfl rfl rfl (fun ws pm code doc h => by
  obtain ⟨w0, rfl⟩ := qA h
  rfl) rfl (kK G hz  ) hspec
noncomputable def eX (ns : List Int) : ST :=
 (a7 "_law_size" (ak (.int 1)))
noncomputable def eW (ns : List Int) : ST :=
 (b8 (aE (an bk (an a6 (an bL (af "_law_shift") (ak (.int 65))) (ak (.int 3))) (ak (.int 1)))) (au (a7 "_law_size" (an aR (ak (.int 1)) (an a6 (an bL (af "_law_shift") (ak (.int 195))) (ak (.int 12)))))
 aA) aA)
noncomputable def db (ns : List Int) : ST :=
 (a7 "_law_way" (an a6 (an bL (af "_law_shift") (ak (.int 5))) (ak (.int 4))))
noncomputable def c9 (ns : List Int) : ST :=
 (a7 "_law_rest" (eo ["_law_shift", "_law_k", "_law_way"] (.name "_law_j") (ce (ah (ak (.int 12)) az)) tT (aC (sp__law_sign_by ns) (ah (an aR (an aR (an bL (af "_law_shift") (ak (.int 195))) (an hJ (ak (.int 7)) (af "_law_j"))) (an hJ (af "_law_k") (aC j2 (ah (an bk (af "_law_way") (ak (.int 0))) az)))) az))))
noncomputable def c8 (ns : List Int) : ST :=
 (a7 "_law_at_here" (an hJ (an a6 (an bL (af "_law_shift") (ak (.int 20))) (af "_law_size")) (aC j2 (ah (an bk (af "_law_way") (ak (.int 1))) az))))
noncomputable def c7 (ns : List Int) : ST :=
 (a7 "_law_told_here" (aC (sp__law_sign_by ns) (ah (an aR (af "_law_shift") (an hJ (af "_law_k") (an (aG ns) (bC (ah (ak (.int 1)) (ah (ak (.int 26)) az))) (aC j2 (ah (an bk (af "_law_way") (ak (.int 3))) az))))) az)))
noncomputable def co (ns : List Int) : ST :=
 (a7 "_law_name" (an aR (an aR (a4 cT cw (ak (.str (Str.ofString ""))) (ah (nZ ns (af "_law_rest") j9 (ix (af "_law_at_here"))) az)) (af "_law_told_here")) (a4 cT cw (ak (.str (Str.ofString ""))) (ah (nZ ns (af "_law_rest") (ix (af "_law_at_here")) (ix (an nw (af "_law_size") (ak (.int 1))))) az))))
noncomputable def cn (ns : List Int) : ST :=
 (b8 (aE (an bk (af "_law_way") (ak (.int 2)))) (au (a7 "_law_name" (a4 cT cw (ak (.str (Str.ofString ""))) (ah (nZ ns (af "_law_rest") j9 (ix (an aR (ak (.int 1)) (an a6 (an aR (an bL (af "_law_shift") (ak (.int 65))) (af "_law_k")) (ak (.int 12)))))) az)))
 aA) aA)
noncomputable def bU (ns : List Int) : ST :=
 (b8 (i5 (aE (an bk (af "_law_name") (ak (.str (Str.ofString "."))))) (i5 (aE (an bk (af "_law_name") (ak (.str (Str.ofString ".."))))) tF)) (au (bH (ak (.str (Str.ofString "0x"))))
 aA) aA)
noncomputable def bS (ns : List Int) : ST :=
 (bH (af "_law_name"))
noncomputable def cK (ns : List Int) : ST := (au (eX ns) (au (eW ns) (au (db ns) (au (c9 ns) (au (c8 ns) (au (c7 ns) (au (co ns) (au (cn ns) (au (bU ns) (au (bS ns) aA))))))))))
theorem kM {C : Cx} (G : Gl C Hd.vw) (hz : C.held = none)  (h__law_sign_by : FnAt C 0 "_law_sign_by" (sp__law_sign_by C.ns)) : HS C (aN Hd.vw 17) 1 (bq Hd.vw 17) (cK C.ns) :=
 (aj (aF (.inl rfl) ar (fun _ _ => rfl))
 (aj (aK (aO bz (aB aZ (aB bI (aP rfl rfl) ar) ar) ar rfl) (aj (aF (.inl rfl) (aB aX ar (aB aZ (aB bI (aP rfl rfl) ar) ar)) (fun _ _ => rfl))
 av) av)
 (aj (aF (.inr rfl) (aB aZ (aB bI (aP rfl rfl) ar) ar) (fun _ _ => rfl))
 (aj (eA (CompOk.of rfl) (dz G hz rfl (ag ar am rfl) rfl) (aY rfl) gV (aD G h__law_sign_by (by decide) rfl rfl (ag (aB aX (aB aX (aB bI (aP rfl rfl) ar) (aB gi ar (ae rfl rfl))) (aB gi (aP rfl rfl) (jU G rfl (ag (fI bz (aP rfl rfl) ar rfl) am rfl) rfl))) am rfl) rfl) (fun _ _ => rfl) rfl (eh rfl rfl rfl))
 (aj (aF (.inl rfl) (aB gi (aB aZ (aB bI (aP rfl rfl) ar) (ae rfl rfl)) (jU G rfl (ag (fI bz (aP rfl rfl) ar rfl) am rfl) rfl)) (fun _ _ => rfl))
 (aj (aF (.inl rfl) (aD G h__law_sign_by (by decide) rfl rfl (ag (aB aX (aP rfl rfl) (aB gi (aP rfl rfl) (bd G (bv (ag ar (ag ar am rfl) rfl)) (jU G rfl (ag (fI bz (aP rfl rfl) ar rfl) am rfl) rfl) rfl))) am rfl) rfl) (fun _ _ => rfl))
 (aj (aF (.inl rfl) (aB aX (aB aX (dL aL (ag (jo G.ok (ae rfl rfl) iX (fG (ae rfl rfl))) am rfl) rfl (fun _ => rfl) rfl (by decide)) (ae rfl rfl)) (dL aL (ag (jo G.ok (ae rfl rfl) (fG (ae rfl rfl)) (fG (aB rG (ae rfl rfl) ar))) am rfl) rfl (fun _ => rfl) rfl (by decide))) (fun _ _ => rfl))
 (aj (aK (aO bz (aP rfl rfl) ar rfl) (aj (aF (.inl rfl) (dL aL (ag (jo G.ok (ae rfl rfl) iX (fG (aB aX ar (aB aZ (aB aX (aB bI (aP rfl rfl) ar) (aP rfl rfl)) ar)))) am rfl) rfl (fun _ => rfl) rfl (by decide)) (fun _ _ => rfl))
 av) av)
 (aj (aK (b7 (eE (aO bz (ae rfl rfl) aL rfl) (eE (aO bz (ae rfl rfl) aL rfl) fi))) (aj (aV aL)
 av) av)
 (aj (aV (ae rfl rfl))
 av))))))))))
theorem ku {C : Cx} (G : Gl C Hd.vw) (hz : C.held = none)  (h__law_sign_by : FnAt C 0 "_law_sign_by" (sp__law_sign_by C.ns)) (hspec : ∀ vs σ Q, sp__law_name_by C.ns vs σ Q → vs.length = 2 ∧ cK C.ns (aM ["_law_k", "_law_shift"] vs aW) σ (fin Q)) : FnAt C 1 "_law_name_by" (sp__law_name_by C.ns) :=
 FnAt.mk (xs := ["_law_k", "_law_shift"]) G 9 17 rfl rfl rfl rfl rfl (fun ws pm code doc h => by
  obtain ⟨w0, w1, rfl⟩ := qz h
  rfl) rfl (kM G hz  h__law_sign_by) hspec
noncomputable def eV (ns : List Int) : ST :=
 (a7 "_law_low" (eo ["_law_cell", "_law_shift"] (.name "_law_j") (ce (ah (an (aG ns) (bC (ah (ak (.int 1)) (ah (ak (.int 1)) (ah (ak (.int 2)) (ah (ak (.int 2)) (ah (ak (.int 3)) az)))))) (an a6 (af "_law_cell") (ak (.int 5)))) az)) tT (aC (sp__law_name_by ns) (ah (an a6 (an bL (an bL (af "_law_cell") (ak (.int 5))) (an (aG ns) (bC (ah (ak (.int 1)) (ah (ak (.int 3)) (ah (ak (.int 9)) az)))) (af "_law_j"))) (ak (.int 3))) (ah (af "_law_shift") az)))))
noncomputable def cZ (ns : List Int) : ST :=
 (b8 (aE (an cb (an a6 (af "_law_shift") (ak (.int 7))) (ak (.int 3)))) (au (bH (a4 cT cw (ak (.str (Str.ofString "/"))) (ah (af "_law_low") az)))
 aA) aA)
noncomputable def cY (ns : List Int) : ST :=
 (a7 "_law_high" (eo ["_law_shift"] (.name "_law_j") (ce (ah (an aR (ak (.int 1)) (an a6 (an bL (af "_law_shift") (ak (.int 7))) (ak (.int 5)))) az)) tT (aC (sp__law_name_by ns) (ah (an aR (ak (.int 3)) (af "_law_j")) (ah (af "_law_shift") az)))))
noncomputable def cX (ns : List Int) : ST :=
 (b8 (aE (an bk (an a6 (af "_law_cell") (ak (.int 13))) (ak (.int 6)))) (au (bH (a4 cT cw (ak (.str (Str.ofString "/"))) (ah (nZ ns (an aR (af "_law_high") (af "_law_low")) j9 (ix (an aR (ak (.int 1)) (an a6 (an bL (af "_law_cell") (ak (.int 13))) (an aR (aC (dA ns) (ah (af "_law_high") az)) (aC (dA ns) (ah (af "_law_low") az))))))) az)))
 aA) aA)
noncomputable def cW (ns : List Int) : ST :=
 (bH (a4 cT cw (ak (.str (Str.ofString "/"))) (ah (an aR (af "_law_high") (af "_law_low")) az)))
noncomputable def cJ (ns : List Int) : ST := (au (eV ns) (au (cZ ns) (au (cY ns) (au (cX ns) (au (cW ns) aA)))))
theorem kL {C : Cx} (G : Gl C Hd.vw) (hz : C.held = none)  (h__law_name_by : FnAt C 1 "_law_name_by" (sp__law_name_by C.ns)) : HS C (aN Hd.vw 18) 2 (bq Hd.vw 18) (cJ C.ns) :=
 (aj (eA (CompOk.of rfl) (dz G hz rfl (ag (bd G (bv (ag ar (ag ar (ag ar (ag ar (ag ar am rfl) rfl) rfl) rfl) rfl)) (aB aZ (aP rfl rfl) ar) rfl) am rfl) rfl) (aY rfl) gV (aD G h__law_name_by (by decide) rfl rfl (ag (aB aZ (aB bI (aB bI (aP rfl rfl) ar) (bd G (bv (ag ar (ag ar (ag ar am rfl) rfl) rfl)) (ae rfl rfl) rfl)) ar) (ag (aP rfl rfl) am rfl) rfl) rfl) (fun _ _ => rfl) rfl (eh rfl rfl rfl))
 (aj (aK (aO ii (aB aZ (aP rfl rfl) ar) ar rfl) (aj (aV (dL aL (ag (ae rfl rfl) am rfl) rfl (fun _ => rfl) rfl (by decide)))
 av) av)
 (aj (eA (CompOk.of rfl) (dz G hz rfl (ag (aB aX ar (aB aZ (aB bI (aP rfl rfl) ar) ar)) am rfl) rfl) (aY rfl) gV (aD G h__law_name_by (by decide) rfl rfl (ag (aB aX ar (ae rfl rfl)) (ag (aP rfl rfl) am rfl) rfl) rfl) (fun _ _ => rfl) rfl (eh rfl rfl rfl))
 (aj (aK (aO bz (aB aZ (aP rfl rfl) ar) ar rfl) (aj (aV (dL aL (ag (jo G.ok (aB aX (ae rfl rfl) (ae rfl rfl)) iX (fG (aB aX ar (aB aZ (aB bI (aP rfl rfl) ar) (aB aX (fH G rfl (ag (ae rfl rfl) am rfl) rfl) (fH G rfl (ag (ae rfl rfl) am rfl) rfl)))))) am rfl) rfl (fun _ => rfl) rfl (by decide)))
 av) av)
 (aj (aV (dL aL (ag (aB aX (ae rfl rfl) (ae rfl rfl)) am rfl) rfl (fun _ => rfl) rfl (by decide)))
 av)))))
theorem kr {C : Cx} (G : Gl C Hd.vw) (hz : C.held = none)  (h__law_name_by : FnAt C 1 "_law_name_by" (sp__law_name_by C.ns)) (hspec : ∀ vs σ Q, sp__law_path_by C.ns vs σ Q → vs.length = 2 ∧ cJ C.ns (aM ["_law_cell", "_law_shift"] vs aW) σ (fin Q)) : FnAt C 2 "_law_path_by" (sp__law_path_by C.ns) :=
 FnAt.mk (xs := ["_law_cell", "_law_shift"]) G 10 18 rfl rfl rfl rfl rfl (fun ws pm code doc h => by
  obtain ⟨w0, w1, rfl⟩ := qz h
  rfl) rfl (kL G hz  h__law_name_by) hspec
noncomputable def e0 (ns : List Int) : ST :=
 (a7 "_law_some" (ak (.str (Str.ofString " !\"#$&'()*+,-./0123456789:;<=>?@ABCDEFGHIJKLMNOPQRSTUVWXYZ[\\]^_`"))))
noncomputable def eZ (ns : List Int) : ST :=
 (a7 "_law_some" (an aR (af "_law_some") (ak (.str (Str.ofString "abcdefghijklmnopqrstuvwxyz{|}~\n\t")))))
noncomputable def eY (ns : List Int) : ST :=
 (a7 "_law_sizes" (bC (ah (ak (.int 0)) (ah (ak (.int 1)) (ah (ak (.int 2)) (ah (an aR (ak (.int 3)) (an (aG ns) (bC (ah (an a6 (af "_law_shift") (ak (.int 60))) (ah (an a6 (an bL (af "_law_shift") (ak (.int 240))) (ak (.int 600))) az))) (aC j2 (ah (an bk (an a6 (an bL (af "_law_shift") (ak (.int 60))) (ak (.int 4))) (ak (.int 3))) az)))) az))))))
noncomputable def dc (ns : List Int) : ST :=
 (bH (a4 cT cw (ak (.str (Str.ofString ""))) (ah (eo ["_law_some", "_law_shift", "_law_k"] (.name "_law_j") (ce (ah (an (aG ns) (af "_law_sizes") (an a6 (af "_law_k") (ak (.int 4)))) az)) tT (an (aG ns) (af "_law_some") (an a6 (an aR (an aR (af "_law_shift") (an hJ (ak (.int 5)) (af "_law_k"))) (af "_law_j")) (ak (.int 96))))) az)))
noncomputable def cL (ns : List Int) : ST := (au (e0 ns) (au (eZ ns) (au (eY ns) (au (dc ns) aA))))
theorem kN {C : Cx} (G : Gl C Hd.vw) (hz : C.held = none)   : HS C (aN Hd.vw 19) 0 (bq Hd.vw 19) (cL C.ns) :=
 (aj (aF (.inr rfl) aL (fun _ _ => rfl))
 (aj (aF (.inr rfl) (aB aX (aP rfl rfl) aL) (fun _ _ => rfl))
 (aj (aF (.inl rfl) (bv (ag ar (ag ar (ag ar (ag (aB aX ar (bd G (bv (ag (aB aZ (aP rfl rfl) ar) (ag (aB aZ (aB bI (aP rfl rfl) ar) ar) am rfl) rfl)) (jU G rfl (ag (fI bz (aB aZ (aB bI (aP rfl rfl) ar) ar) ar rfl) am rfl) rfl) rfl)) am rfl) rfl) rfl) rfl)) (fun _ _ => rfl))
 (aj (aV (dL aL (ag (gX (CompOk.of rfl) (dz G hz rfl (ag (bd G (ae rfl rfl) (aB aZ (aP rfl rfl) ar) rfl) am rfl) rfl) (aY rfl) gV (bd G (aP rfl rfl) (aB aZ (aB aX (aB aX (aP rfl rfl) (aB gi ar (aP rfl rfl))) (ae rfl rfl)) ar) rfl) (fun _ _ => rfl)) am rfl) rfl (fun _ => rfl) rfl (by decide)))
 av))))
theorem kw {C : Cx} (G : Gl C Hd.vw) (hz : C.held = none)   (hspec : ∀ vs σ Q, sp__law_line_by C.ns vs σ Q → vs.length = 2 ∧ cL C.ns (aM ["_law_k", "_law_shift"] vs aW) σ (fin Q)) : FnAt C 0 "_law_line_by" (sp__law_line_by C.ns) :=
 FnAt.mk (xs := ["_law_k", "_law_shift"]) G 11 19 rfl rfl rfl rfl rfl (fun ws pm code doc h => by
  obtain ⟨w0, w1, rfl⟩ := qz h
  rfl) rfl (kN G hz  ) hspec
noncomputable def fe (ns : List Int) : ST :=
 (dp (.name "_law_other") (jx ns (af "_law_tree")) (au (b8 (i5 (aE (a4 cT gc (af "_law_other") (ah (an aR (af "_law_path") (ak (.str (Str.ofString "/")))) az))) (i5 (aE (a4 cT gc (af "_law_path") (ah (an aR (af "_law_other") (ak (.str (Str.ofString "/")))) az))) tF)) (au (bH (ak (.bool false)))
 aA) aA)
 aA))
noncomputable def e8 (ns : List Int) : ST :=
 (bH (ak (.bool true)))
noncomputable def cM (ns : List Int) : ST := (au (fe ns) (au (e8 ns) aA))
theorem kO {C : Cx} (G : Gl C Hd.vw) (hz : C.held = none)   : HS C (aN Hd.vw 20) 0 (bq Hd.vw 20) (cM C.ns) :=
 (aj (bu (aY rfl) (ch G.ok hz (ae rfl rfl)) (aj (aK (b7 (eE (fJ (lY (ae rfl rfl) (ag (aB aX (ae rfl rfl) aL) am rfl) rfl (fun _ => rfl) rfl (by decide)) (fun _ _ => rfl)) (eE (fJ (lY (ae rfl rfl) (ag (aB aX (ae rfl rfl) aL) am rfl) rfl (fun _ => rfl) rfl (by decide)) (fun _ _ => rfl)) fi))) (aj (aV cu)
 av) av)
 av) (fun _ _ => rfl))
 (aj (aV cu)
 av))
theorem kA {C : Cx} (G : Gl C Hd.vw) (hz : C.held = none)   (hspec : ∀ vs σ Q, sp__law_is_free C.ns vs σ Q → vs.length = 2 ∧ cM C.ns (aM ["_law_tree", "_law_path"] vs aW) σ (fin Q)) : FnAt C 0 "_law_is_free" (sp__law_is_free C.ns) :=
 FnAt.mk (xs := ["_law_tree", "_law_path"]) G 12 20 rfl rfl rfl rfl rfl (fun ws pm code doc h => by
  obtain ⟨w0, w1, rfl⟩ := qz h
  rfl) rfl (kO G hz  ) hspec
noncomputable def gK (ns : List Int) : ST :=
 (a7 "_law_path" (aC (sp__law_path_by ns) (ah (af "_law_cell") (ah (af "_law_shift") az))))
noncomputable def gJ (ns : List Int) : ST :=
 (a7 "_law_is_far" (an bk (an a6 (af "_law_cell") (ak (.int 11))) (ak (.int 4))))
noncomputable def gI (ns : List Int) : ST :=
 (b8 (dD (aE (an bk (an a6 (af "_law_cell") (ak (.int 3))) (ak (.int 2)))) (dD (rc rC rC (ak (.int 0)) (aC (dA ns) (ah (af "_law_tree") az)) (ak (.int 30))) tT)) (au (a7 "_law_path" (an (aG ns) (aC ck (ah (af "_law_tree") az)) (an a6 (an bL (af "_law_cell") (ak (.int 3))) (aC (dA ns) (ah (af "_law_tree") az)))))
 aA) (au (b8 (aE (af "_law_is_far")) (au (a7 "_law_path" (an aR (an aR (ak (.str (Str.ofString "tops"))) (aC dP (ah (an a6 (an bL (af "_law_cell") (ak (.int 11))) (an (aG ns) (bC (ah (ak (.int 40)) (ah (ak (.int 170)) az))) (an a6 (an bL (af "_law_cell") (ak (.int 440))) (ak (.int 2))))) az))) (ak (.str (Str.ofString "/x")))))
 aA) aA)
 aA))
noncomputable def cO (ns : List Int) : ST :=
 (a7 "_law_made" (aC dg (ah (af "_law_tree") az)))
noncomputable def cN (ns : List Int) : ST :=
 (b8 (aE (an dq (af "_law_path") (af "_law_made"))) (au (b8 (dD (nf (aE (af "_law_is_far"))) (dD (aE (aC (sp__law_is_free ns) (ah (af "_law_made") (ah (af "_law_path") az)))) tT)) (au (aH bN (aC (sp__law_line_by ns) (ah (an bL (af "_law_cell") (ak (.int 405))) (ah (af "_law_shift") az))) (af "_law_made") (af "_law_path"))
 aA) aA)
 aA) (au (b8 (aE (an bk (an a6 (an bL (af "_law_cell") (ak (.int 135))) (ak (.int 3))) (ak (.int 0)))) (au (ge (a4 bi ly (af "_law_made") (ah (af "_law_path") az)))
 aA) (au (aH bN (aC (sp__law_line_by ns) (ah (an bL (af "_law_cell") (ak (.int 405))) (ah (af "_law_shift") az))) (af "_law_made") (af "_law_path"))
 aA))
 aA))
noncomputable def bV (ns : List Int) : ST :=
 (bH (af "_law_made"))
noncomputable def dJ (ns : List Int) : ST := (au (gK ns) (au (gJ ns) (au (gI ns) (au (cO ns) (au (cN ns) (au (bV ns) aA))))))
theorem mM {C : Cx} (G : Gl C Hd.vw) (hz : C.held = none)  (h__law_path_by : FnAt C 2 "_law_path_by" (sp__law_path_by C.ns)) (h__law_is_free : FnAt C 0 "_law_is_free" (sp__law_is_free C.ns)) (h__law_line_by : FnAt C 0 "_law_line_by" (sp__law_line_by C.ns)) : HS C (aN Hd.vw 21) 3 (bq Hd.vw 21) (dJ C.ns) :=
 (aj (aF (.inl rfl) (aD G h__law_path_by (by decide) rfl rfl (ag (ae rfl rfl) (ag (ae rfl rfl) am rfl) rfl) rfl) (fun _ _ => rfl))
 (aj (aF (.inl rfl) (fI bz (aB aZ (ae rfl rfl) ar) ar rfl) (fun _ _ => rfl))
 (aj (aK (b7 (dk (aO bz (aB aZ (ae rfl rfl) ar) ar rfl) (dk (tV rI rI ar (fH G rfl (ag (ae rfl rfl) am rfl) rfl) ar rfl) ee))) (aj (aF (.inl rfl) (bd G (dY G hz rfl (ag (ae rfl rfl) am rfl) rfl) (aB aZ (aB bI (ae rfl rfl) ar) (fH G rfl (ag (ae rfl rfl) am rfl) rfl)) rfl) (fun _ _ => rfl))
 av) (aj (aK (fJ (ae rfl rfl) (fun _ _ => rfl)) (aj (aF (.inl rfl) (aB aX (aB aX aL (iY G rfl (ag (aB aZ (aB bI (ae rfl rfl) ar) (bd G (bv (ag ar (ag ar am rfl) rfl)) (aB aZ (aB bI (ae rfl rfl) ar) ar) rfl)) am rfl) rfl)) aL) (fun _ _ => rfl))
 av) av)
 av))
 (aj (aF (.inl rfl) (dZ G rfl (ag (ae rfl rfl) am rfl) rfl) (fun _ _ => rfl))
 (aj (aK (aO (gO G.ok) (ae rfl rfl) (ae rfl rfl) rfl) (aj (aK (b7 (dk (sG (fJ (ae rfl rfl) (fun _ _ => rfl))) (dk (fJ (aD G h__law_is_free (by decide) rfl rfl (ag (ae rfl rfl) (ag (ae rfl rfl) am rfl) rfl) rfl) (fun _ _ => rfl)) ee))) (aj (aU bA (aD G h__law_line_by (by decide) rfl rfl (ag (aB bI (ae rfl rfl) ar) (ag (ae rfl rfl) am rfl) rfl) rfl) (ae rfl rfl) (ae rfl rfl) (fun _ _ => rfl))
 av) av)
 av) (aj (aK (aO bz (aB aZ (aB bI (ae rfl rfl) ar) ar) ar rfl) (aj (dX (p6 (ae rfl rfl) (ag (ae rfl rfl) am rfl) rfl (fun _ => rfl) rfl (by decide)) (fun _ _ => rfl))
 av) (aj (aU bA (aD G h__law_line_by (by decide) rfl rfl (ag (aB bI (ae rfl rfl) ar) (ag (ae rfl rfl) am rfl) rfl) rfl) (ae rfl rfl) (ae rfl rfl) (fun _ _ => rfl))
 av))
 av))
 (aj (aV (ae rfl rfl))
 av))))))
theorem mG {C : Cx} (G : Gl C Hd.vw) (hz : C.held = none)  (h__law_path_by : FnAt C 2 "_law_path_by" (sp__law_path_by C.ns)) (h__law_is_free : FnAt C 0 "_law_is_free" (sp__law_is_free C.ns)) (h__law_line_by : FnAt C 0 "_law_line_by" (sp__law_line_by C.ns)) (hspec : ∀ vs σ Q, sp__law_grown C.ns vs σ Q → vs.length = 3 ∧ dJ C.ns (aM ["_law_tree", "_law_cell", "_law_shift"] vs aW) σ (fin Q)) : FnAt C 3 "_law_grown" (sp__law_grown C.ns) :=
 FnAt.mk (xs := ["_law_tree", "_law_cell", "_law_shift"]) G 13 21 rfl rfl rfl rfl rfl (fun ws pm code doc h => by
  obtain ⟨w0, w1, w2, rfl⟩ := kj h
  rfl) rfl (mM G hz  h__law_path_by h__law_is_free h__law_line_by) hspec
noncomputable def gE (ns : List Int) : ST :=
 (a7 "_law_shift" (aC (sp__law_cell_at ns) (ah (af "_law_script") (ah (ak (.int 0)) az))))
noncomputable def gz (ns : List Int) : ST :=
 (a7 "_law_cell" (aC (sp__law_cell_at ns) (ah (af "_law_script") (ah (ak (.int 1)) az))))
noncomputable def gy (ns : List Int) : ST :=
 (a7 "_law_elder" eD)
noncomputable def gx (ns : List Int) : ST :=
 (dp (.name "_law_k") (ce (ah (an (aG ns) (bC (ah (ak (.int 0)) (ah (an a6 (af "_law_cell") (ak (.int 7))) az))) (an a6 (an bL (af "_law_cell") (ak (.int 56))) (ak (.int 2)))) az)) (au (a7 "_law_elder" (aC (sp__law_grown ns) (ah (af "_law_elder") (ah (aC (sp__law_cell_at ns) (ah (af "_law_script") (ah (an aR (ak (.int 4)) (af "_law_k")) az))) (ah (af "_law_shift") az)))))
 aA))
noncomputable def gw (ns : List Int) : ST :=
 (dp (.name "_law_j") (ce (ah (an (aG ns) (bC (ah (ak (.int 0)) (ah (ak (.int 40)) (ah (ak (.int 0)) (ah (ak (.int 0)) (ah (ak (.int 0)) (ah (ak (.int 0)) (ah (ak (.int 170)) (ah (ak (.int 0)) (ah (ak (.int 0)) (ah (ak (.int 40)) (ah (ak (.int 0)) (ah (ak (.int 0)) (ah (ak (.int 0)) (ah (ak (.int 0)) (ah (ak (.int 0)) (ah (ak (.int 0)) az))))))))))))))))) (an a6 (an bL (af "_law_cell") (ak (.int 7))) (ak (.int 16)))) az)) (au (b8 (aE (an dq (an aR (ak (.str (Str.ofString "tops"))) (aC dP (ah (af "_law_j") az))) (af "_law_elder"))) (au (aH bN (aC (sp__law_line_by ns) (ah (an a6 (af "_law_j") (ak (.int 3))) (ah (af "_law_shift") az))) (af "_law_elder") (an aR (an aR (ak (.str (Str.ofString "tops"))) (aC dP (ah (af "_law_j") az))) (ak (.str (Str.ofString "/x")))))
 aA) aA)
 aA))
noncomputable def gv (ns : List Int) : ST :=
 (a7 "_law_one" (aC dg (ah (af "_law_elder") az)))
noncomputable def gu (ns : List Int) : ST :=
 (dp (.name "_law_k") (ce (ah (an a6 (aC (sp__law_cell_at ns) (ah (af "_law_script") (ah (ak (.int 2)) az))) (ak (.int 9))) az)) (au (a7 "_law_one" (aC (sp__law_grown ns) (ah (af "_law_one") (ah (aC (sp__law_cell_at ns) (ah (af "_law_script") (ah (an aR (ak (.int 10)) (af "_law_k")) az))) (ah (af "_law_shift") az)))))
 aA))
noncomputable def gt (ns : List Int) : ST :=
 (a7 "_law_other" (aC dg (ah (af "_law_elder") az)))
noncomputable def gq (ns : List Int) : ST :=
 (dp (.name "_law_k") (ce (ah (an a6 (aC (sp__law_cell_at ns) (ah (af "_law_script") (ah (ak (.int 3)) az))) (ak (.int 9))) az)) (au (a7 "_law_other" (aC (sp__law_grown ns) (ah (af "_law_other") (ah (aC (sp__law_cell_at ns) (ah (af "_law_script") (ah (an aR (ak (.int 18)) (af "_law_k")) az))) (ah (af "_law_shift") az)))))
 aA))
noncomputable def fQ (ns : List Int) : ST :=
 (a7 "_law_first" (an a6 (an bL (aC (sp__law_cell_at ns) (ah (af "_law_script") (ah (ak (.int 2)) az))) (ak (.int 9))) (ak (.int 150))))
noncomputable def fP (ns : List Int) : ST :=
 (dp (.name "_law_j") (ce (ah (af "_law_first") (ah (an aR (af "_law_first") (an hJ (ak (.int 40)) (an a6 (an bL (af "_law_cell") (ak (.int 112))) (ak (.int 2))))) az))) (au (a7 "_law_path" (an aR (an aR (ak (.str (Str.ofString "tops"))) (aC dP (ah (af "_law_j") az))) (ak (.str (Str.ofString "/x")))))
 (au (b8 (dD (aE (an dQ (af "_law_path") (af "_law_one"))) (dD (aE (an dQ (af "_law_path") (af "_law_other"))) tT)) (au (aH bN (ak (.str (Str.ofString "left"))) (af "_law_one") (af "_law_path"))
 (au (aH bN (an aR (ak (.str (Str.ofString "right"))) (aC dP (ah (an a6 (af "_law_j") (ak (.int 2))) az))) (af "_law_other") (af "_law_path"))
 aA)) aA)
 aA)))
noncomputable def fO (ns : List Int) : ST :=
 (bH (cQ (ah (af "_law_elder") (ah (af "_law_one") (ah (af "_law_other") az)))))
noncomputable def dH (ns : List Int) : ST := (au (gE ns) (au (gz ns) (au (gy ns) (au (gx ns) (au (gw ns) (au (gv ns) (au (gu ns) (au (gt ns) (au (gq ns) (au (fQ ns) (au (fP ns) (au (fO ns) aA))))))))))))
theorem mJ {C : Cx} (G : Gl C Hd.vw) (hz : C.held = none)  (h__law_cell_at : FnAt C 0 "_law_cell_at" (sp__law_cell_at C.ns)) (h__law_grown : FnAt C 3 "_law_grown" (sp__law_grown C.ns)) (h__law_line_by : FnAt C 0 "_law_line_by" (sp__law_line_by C.ns)) : HS C (aN Hd.vw 22) 4 (bq Hd.vw 22) (dH C.ns) :=
 (aj (aF (.inl rfl) (aD G h__law_cell_at (by decide) rfl rfl (ag (ae rfl rfl) (ag ar am rfl) rfl) rfl) (fun _ _ => rfl))
 (aj (aF (.inl rfl) (aD G h__law_cell_at (by decide) rfl rfl (ag (ae rfl rfl) (ag ar am rfl) rfl) rfl) (fun _ _ => rfl))
 (aj (aF (.inl rfl) ds (fun _ _ => rfl))
 (aj (bu (aY rfl) (dz G hz rfl (ag (bd G (bv (ag ar (ag (aB aZ (ae rfl rfl) ar) am rfl) rfl)) (aB aZ (aB bI (ae rfl rfl) ar) ar) rfl) am rfl) rfl) (aj (aF (.inl rfl) (aD G h__law_grown (by decide) rfl rfl (ag (ae rfl rfl) (ag (aD G h__law_cell_at (by decide) rfl rfl (ag (ae rfl rfl) (ag (aB aX ar (ae rfl rfl)) am rfl) rfl) rfl) (ag (ae rfl rfl) am rfl) rfl) rfl) rfl) (fun _ _ => rfl))
 av) (fun _ _ => rfl))
 (aj (bu (aY rfl) (dz G hz rfl (ag (bd G (bv (ag ar (ag ar (ag ar (ag ar (ag ar (ag ar (ag ar (ag ar (ag ar (ag ar (ag ar (ag ar (ag ar (ag ar (ag ar (ag ar am rfl) rfl) rfl) rfl) rfl) rfl) rfl) rfl) rfl) rfl) rfl) rfl) rfl) rfl) rfl) rfl)) (aB aZ (aB bI (ae rfl rfl) ar) ar) rfl) am rfl) rfl) (aj (aK (aO (gO G.ok) (aB aX aL (iY G rfl (ag (ae rfl rfl) am rfl) rfl)) (ae rfl rfl) rfl) (aj (aU bA (aD G h__law_line_by (by decide) rfl rfl (ag (aB aZ (ae rfl rfl) ar) (ag (ae rfl rfl) am rfl) rfl) rfl) (ae rfl rfl) (aB aX (aB aX aL (iY G rfl (ag (ae rfl rfl) am rfl) rfl)) aL) (fun _ _ => rfl))
 av) av)
 av) (fun _ _ => rfl))
 (aj (aF (.inl rfl) (dZ G rfl (ag (ae rfl rfl) am rfl) rfl) (fun _ _ => rfl))
 (aj (bu (aY rfl) (dz G hz rfl (ag (aB aZ (aD G h__law_cell_at (by decide) rfl rfl (ag (ae rfl rfl) (ag ar am rfl) rfl) rfl) ar) am rfl) rfl) (aj (aF (.inl rfl) (aD G h__law_grown (by decide) rfl rfl (ag (ae rfl rfl) (ag (aD G h__law_cell_at (by decide) rfl rfl (ag (ae rfl rfl) (ag (aB aX ar (ae rfl rfl)) am rfl) rfl) rfl) (ag (ae rfl rfl) am rfl) rfl) rfl) rfl) (fun _ _ => rfl))
 av) (fun _ _ => rfl))
 (aj (aF (.inl rfl) (dZ G rfl (ag (ae rfl rfl) am rfl) rfl) (fun _ _ => rfl))
 (aj (bu (aY rfl) (dz G hz rfl (ag (aB aZ (aD G h__law_cell_at (by decide) rfl rfl (ag (ae rfl rfl) (ag ar am rfl) rfl) rfl) ar) am rfl) rfl) (aj (aF (.inl rfl) (aD G h__law_grown (by decide) rfl rfl (ag (ae rfl rfl) (ag (aD G h__law_cell_at (by decide) rfl rfl (ag (ae rfl rfl) (ag (aB aX ar (ae rfl rfl)) am rfl) rfl) rfl) (ag (ae rfl rfl) am rfl) rfl) rfl) rfl) (fun _ _ => rfl))
 av) (fun _ _ => rfl))
 (aj (aF (.inl rfl) (aB aZ (aB bI (aD G h__law_cell_at (by decide) rfl rfl (ag (ae rfl rfl) (ag ar am rfl) rfl) rfl) ar) ar) (fun _ _ => rfl))
 (aj (bu (aY rfl) (dz G hz rfl (ag (ae rfl rfl) (ag (aB aX (ae rfl rfl) (aB gi ar (aB aZ (aB bI (ae rfl rfl) ar) ar))) am rfl) rfl) rfl) (aj (aF (.inl rfl) (aB aX (aB aX aL (iY G rfl (ag (ae rfl rfl) am rfl) rfl)) aL) (fun _ _ => rfl))
 (aj (aK (b7 (dk (aO (gk G.ok) (ae rfl rfl) (ae rfl rfl) rfl) (dk (aO (gk G.ok) (ae rfl rfl) (ae rfl rfl) rfl) ee))) (aj (aU bA aL (ae rfl rfl) (ae rfl rfl) (fun _ _ => rfl))
 (aj (aU bA (aB aX aL (iY G rfl (ag (aB aZ (ae rfl rfl) ar) am rfl) rfl)) (ae rfl rfl) (ae rfl rfl) (fun _ _ => rfl))
 av)) av)
 av)) (fun _ _ => rfl))
 (aj (aV (ci (ag (ae rfl rfl) (ag (ae rfl rfl) (ag (ae rfl rfl) am rfl) rfl) rfl)))
 av))))))))))))
theorem mE {C : Cx} (G : Gl C Hd.vw) (hz : C.held = none)  (h__law_cell_at : FnAt C 0 "_law_cell_at" (sp__law_cell_at C.ns)) (h__law_grown : FnAt C 3 "_law_grown" (sp__law_grown C.ns)) (h__law_line_by : FnAt C 0 "_law_line_by" (sp__law_line_by C.ns)) (hspec : ∀ vs σ Q, sp__law_trees C.ns vs σ Q → vs.length = 1 ∧ dH C.ns (aM ["_law_script"] vs aW) σ (fin Q)) : FnAt C 4 "_law_trees" (sp__law_trees C.ns) :=
 FnAt.mk (xs := ["_law_script"]) G 14 22 rfl rfl rfl rfl rfl (fun ws pm code doc h => by
  obtain ⟨w0, rfl⟩ := qA h
  rfl) rfl (mJ G hz  h__law_cell_at h__law_grown h__law_line_by) hspec
noncomputable def jG (ns : List Int) : ST :=
 (b8 (i5 (aE (an bk (af "_law_left") (af "_law_right"))) (i5 (aE (an bk (af "_law_right") (af "_law_was"))) tF)) (au (bH (af "_law_left"))
 aA) aA)
noncomputable def jF (ns : List Int) : ST :=
 (bH (af "_law_right"))
noncomputable def gU (ns : List Int) : ST := (au (jG ns) (au (jF ns) aA))
theorem qQ {C : Cx} (G : Gl C Hd.vw) (hz : C.held = none)   : HS C (aN Hd.vw 23) 0 (bq Hd.vw 23) (gU C.ns) :=
 (aj (aK (b7 (eE (aO bz (ae rfl rfl) (ae rfl rfl) rfl) (eE (aO bz (ae rfl rfl) (ae rfl rfl) rfl) fi))) (aj (aV (ae rfl rfl))
 av) av)
 (aj (aV (ae rfl rfl))
 av))
theorem qI {C : Cx} (G : Gl C Hd.vw) (hz : C.held = none)   (hspec : ∀ vs σ Q, sp__law_at C.ns vs σ Q → vs.length = 3 ∧ gU C.ns (aM ["_law_was", "_law_left", "_law_right"] vs aW) σ (fin Q)) : FnAt C 0 "_law_at" (sp__law_at C.ns) :=
 FnAt.mk (xs := ["_law_was", "_law_left", "_law_right"]) G 15 23 rfl rfl rfl rfl rfl (fun ws pm code doc h => by
  obtain ⟨w0, w1, w2, rfl⟩ := kj h
  rfl) rfl (qQ G hz  ) hspec
noncomputable def fR (ns : List Int) : ST :=
 (bH (tG (an cb (af "_law_left") (af "_law_right")) (tG (an cb (af "_law_left") (af "_law_was")) (an cb (af "_law_right") (af "_law_was")))))
noncomputable def di (ns : List Int) : ST := (au (fR ns) aA)
theorem lr {C : Cx} (G : Gl C Hd.vw) (hz : C.held = none)   : HS C (aN Hd.vw 24) 0 (bq Hd.vw 24) (di C.ns) :=
 (aj (aV (qS (pZ (fI ii (ae rfl rfl) (ae rfl rfl) rfl) (pZ (fI ii (ae rfl rfl) (ae rfl rfl) rfl) (tP (fI ii (ae rfl rfl) (ae rfl rfl) rfl))))))
 av)
theorem ll {C : Cx} (G : Gl C Hd.vw) (hz : C.held = none)   (hspec : ∀ vs σ Q, sp__law_splits C.ns vs σ Q → vs.length = 3 ∧ di C.ns (aM ["_law_was", "_law_left", "_law_right"] vs aW) σ (fin Q)) : FnAt C 0 "_law_splits" (sp__law_splits C.ns) :=
 FnAt.mk (xs := ["_law_was", "_law_left", "_law_right"]) G 16 24 rfl rfl rfl rfl rfl (fun ws pm code doc h => by
  obtain ⟨w0, w1, w2, rfl⟩ := kj h
  rfl) rfl (lr G hz  ) hspec
noncomputable def fN (ns : List Int) : ST :=
 (bH (eo ["_law_path"] (.name "_law_k") (ce (ah (aC (dA ns) (ah (af "_law_path") az)) az)) (aE (an bk (an (aG ns) (af "_law_path") (af "_law_k")) (ak (.str (Str.ofString "/"))))) (nZ ns (af "_law_path") j9 (ix (af "_law_k")))))
noncomputable def dh (ns : List Int) : ST := (au (fN ns) aA)
theorem lq {C : Cx} (G : Gl C Hd.vw) (hz : C.held = none)   : HS C (aN Hd.vw 25) 0 (bq Hd.vw 25) (dh C.ns) :=
 (aj (aV (gX (CompOk.of rfl) (dz G hz rfl (ag (fH G rfl (ag (aP rfl rfl) am rfl) rfl) am rfl) rfl) (aY rfl) (jT (aO bz (bd G (aP rfl rfl) (ae rfl rfl) rfl) aL rfl)) (jo G.ok (aP rfl rfl) iX (fG (ae rfl rfl))) (fun _ _ => rfl)))
 av)
theorem lk {C : Cx} (G : Gl C Hd.vw) (hz : C.held = none)   (hspec : ∀ vs σ Q, sp__law_uppers C.ns vs σ Q → vs.length = 1 ∧ dh C.ns (aM ["_law_path"] vs aW) σ (fin Q)) : FnAt C 0 "_law_uppers" (sp__law_uppers C.ns) :=
 FnAt.mk (xs := ["_law_path"]) G 17 25 rfl rfl rfl rfl rfl (fun ws pm code doc h => by
  obtain ⟨w0, rfl⟩ := qA h
  rfl) rfl (lq G hz  ) hspec
noncomputable def fX (ns : List Int) : ST :=
 (a7 "_law_made" eD)
noncomputable def fW (ns : List Int) : ST :=
 (a7 "_law_places_here" eD)
noncomputable def fV (ns : List Int) : ST :=
 (dp (.name "_law_path") (jx ns (eR (an aR (an aR (aC ck (ah (af "_law_elder") az)) (aC ck (ah (af "_law_one") az))) (aC ck (ah (af "_law_other") az))))) (au (b8 (aE (aC (sp__law_splits ns) (ah (a4 bi bX (af "_law_elder") (ah (af "_law_path") az)) (ah (a4 bi bX (af "_law_one") (ah (af "_law_path") az)) (ah (a4 bi bX (af "_law_other") (ah (af "_law_path") az)) az))))) (au (aH bN (ak (.bool true)) (af "_law_places_here") (af "_law_path"))
 aA) (au (b8 (aE (an bY (aC (sp__law_at ns) (ah (a4 bi bX (af "_law_elder") (ah (af "_law_path") az)) (ah (a4 bi bX (af "_law_one") (ah (af "_law_path") az)) (ah (a4 bi bX (af "_law_other") (ah (af "_law_path") az)) az)))) (ak .none))) (au (aH bN (ak (.bool true)) (af "_law_made") (af "_law_path"))
 aA) aA)
 aA))
 aA))
noncomputable def fU (ns : List Int) : ST :=
 (dp (.name "_law_lower") (jx ns (af "_law_made")) (au (dp (.name "_law_upper") (jx ns (aC (sp__law_uppers ns) (ah (af "_law_lower") az))) (au (b8 (aE (an dQ (af "_law_upper") (af "_law_made"))) (au (aH bN (ak (.bool true)) (af "_law_places_here") (af "_law_upper"))
 (au (aH bN (ak (.bool true)) (af "_law_places_here") (af "_law_lower"))
 aA)) aA)
 aA))
 aA))
noncomputable def fT (ns : List Int) : ST :=
 (bH (aC eJ (ah (af "_law_places_here") az)))
noncomputable def dj (ns : List Int) : ST := (au (fX ns) (au (fW ns) (au (fV ns) (au (fU ns) (au (fT ns) aA)))))
theorem ls {C : Cx} (G : Gl C Hd.vw) (hz : C.held = none)  (h__law_splits : FnAt C 0 "_law_splits" (sp__law_splits C.ns)) (h__law_at : FnAt C 0 "_law_at" (sp__law_at C.ns)) (h__law_uppers : FnAt C 0 "_law_uppers" (sp__law_uppers C.ns)) : HS C (aN Hd.vw 26) 1 (bq Hd.vw 26) (dj C.ns) :=
 (aj (aF (.inl rfl) ds (fun _ _ => rfl))
 (aj (aF (.inl rfl) ds (fun _ _ => rfl))
 (aj (bu (aY rfl) (ch G.ok hz (iZ G hz rfl rfl (aB aX (aB aX (dY G hz rfl (ag (ae rfl rfl) am rfl) rfl) (dY G hz rfl (ag (ae rfl rfl) am rfl) rfl)) (dY G hz rfl (ag (ae rfl rfl) am rfl) rfl)) rfl)) (aj (aK (fJ (aD G h__law_splits (by decide) rfl rfl (ag (bD G (ae rfl rfl) (ag (ae rfl rfl) am rfl) rfl (fun _ => rfl) rfl (by decide)) (ag (bD G (ae rfl rfl) (ag (ae rfl rfl) am rfl) rfl (fun _ => rfl) rfl (by decide)) (ag (bD G (ae rfl rfl) (ag (ae rfl rfl) am rfl) rfl (fun _ => rfl) rfl (by decide)) am rfl) rfl) rfl) rfl) (fun _ _ => rfl)) (aj (aU bA cu (ae rfl rfl) (ae rfl rfl) (fun _ _ => rfl))
 av) (aj (aK (aO gj (aD G h__law_at (by decide) rfl rfl (ag (bD G (ae rfl rfl) (ag (ae rfl rfl) am rfl) rfl (fun _ => rfl) rfl (by decide)) (ag (bD G (ae rfl rfl) (ag (ae rfl rfl) am rfl) rfl (fun _ => rfl) rfl (by decide)) (ag (bD G (ae rfl rfl) (ag (ae rfl rfl) am rfl) rfl (fun _ => rfl) rfl (by decide)) am rfl) rfl) rfl) rfl) dK rfl) (aj (aU bA cu (ae rfl rfl) (ae rfl rfl) (fun _ _ => rfl))
 av) av)
 av))
 av) (fun _ _ => rfl))
 (aj (bu (aY rfl) (ch G.ok hz (ae rfl rfl)) (aj (bu (aY rfl) (ch G.ok hz (aD G h__law_uppers (by decide) rfl rfl (ag (ae rfl rfl) am rfl) rfl)) (aj (aK (aO (gk G.ok) (ae rfl rfl) (ae rfl rfl) rfl) (aj (aU bA cu (ae rfl rfl) (ae rfl rfl) (fun _ _ => rfl))
 (aj (aU bA cu (ae rfl rfl) (ae rfl rfl) (fun _ _ => rfl))
 av)) av)
 av) (fun _ _ => rfl))
 av) (fun _ _ => rfl))
 (aj (aV (lf G hz rfl (ag (ae rfl rfl) am rfl) rfl))
 av)))))
theorem ln {C : Cx} (G : Gl C Hd.vw) (hz : C.held = none)  (h__law_splits : FnAt C 0 "_law_splits" (sp__law_splits C.ns)) (h__law_at : FnAt C 0 "_law_at" (sp__law_at C.ns)) (h__law_uppers : FnAt C 0 "_law_uppers" (sp__law_uppers C.ns)) (hspec : ∀ vs σ Q, sp__law_places C.ns vs σ Q → vs.length = 3 ∧ dj C.ns (aM ["_law_elder", "_law_one", "_law_other"] vs aW) σ (fin Q)) : FnAt C 1 "_law_places" (sp__law_places C.ns) :=
 FnAt.mk (xs := ["_law_elder", "_law_one", "_law_other"]) G 18 26 rfl rfl rfl rfl rfl (fun ws pm code doc h => by
  obtain ⟨w0, w1, w2, rfl⟩ := kj h
  rfl) rfl (ls G hz  h__law_splits h__law_at h__law_uppers) hspec
noncomputable def gH (ns : List Int) : ST :=
 (a7 "_law_picks_here" eD)
noncomputable def gG (ns : List Int) : ST :=
 (dp (.name "_law_k") (ce (ah (aC (dA ns) (ah (af "_law_places_here") az)) az)) (au (a7 "_law_way" (an a6 (an a6 (an hJ (an aR (aC (sp__law_cell_at ns) (ah (af "_law_script") (ah (ak (.int 26)) az))) (an hJ (ak (.int 5)) (af "_law_k"))) (ak (.int 48271))) (ak (.int 65537))) (ak (.int 6))))
 (au (b8 (aE (an bk (an a6 (aC (sp__law_cell_at ns) (ah (af "_law_script") (ah (ak (.int 26)) az))) (ak (.int 3))) (ak (.int 2)))) (au (a7 "_law_way" (an aR (ak (.int 1)) (an a6 (af "_law_way") (ak (.int 5)))))
 aA) aA)
 (au (b8 (aE (an bk (af "_law_way") (ak (.int 1)))) (au (aH bN (aC (sp__law_line_by ns) (ah (an aR (ak (.int 1)) (af "_law_k")) (ah (aC (sp__law_cell_at ns) (ah (af "_law_script") (ah (ak (.int 27)) az))) az))) (af "_law_picks_here") (an (aG ns) (af "_law_places_here") (af "_law_k")))
 aA) (au (b8 (aE (an bk (af "_law_way") (ak (.int 2)))) (au (aH bN (ak (.str (Str.ofString ""))) (af "_law_picks_here") (an (aG ns) (af "_law_places_here") (af "_law_k")))
 aA) (au (b8 (aE (an bk (af "_law_way") (ak (.int 3)))) (au (aH bN (ak .none) (af "_law_picks_here") (an (aG ns) (af "_law_places_here") (af "_law_k")))
 aA) (au (b8 (aE (an rD (af "_law_way") (ak (.int 3)))) (au (aH bN (a4 bi bX (an (aG ns) (af "_law_trees_here") (an nw (af "_law_way") (ak (.int 3)))) (ah (an (aG ns) (af "_law_places_here") (af "_law_k")) az)) (af "_law_picks_here") (an (aG ns) (af "_law_places_here") (af "_law_k")))
 aA) aA)
 aA))
 aA))
 aA))
 aA))))
noncomputable def gF (ns : List Int) : ST :=
 (bH (af "_law_picks_here"))
noncomputable def dI (ns : List Int) : ST := (au (gH ns) (au (gG ns) (au (gF ns) aA)))
theorem mK {C : Cx} (G : Gl C Hd.vw) (hz : C.held = none)  (h__law_cell_at : FnAt C 0 "_law_cell_at" (sp__law_cell_at C.ns)) (h__law_line_by : FnAt C 0 "_law_line_by" (sp__law_line_by C.ns)) : HS C (aN Hd.vw 27) 1 (bq Hd.vw 27) (dI C.ns) :=
 (aj (aF (.inl rfl) ds (fun _ _ => rfl))
 (aj (bu (aY rfl) (dz G hz rfl (ag (fH G rfl (ag (ae rfl rfl) am rfl) rfl) am rfl) rfl) (aj (aF (.inl rfl) (aB aZ (aB aZ (aB gi (aB aX (aD G h__law_cell_at (by decide) rfl rfl (ag (ae rfl rfl) (ag ar am rfl) rfl) rfl) (aB gi ar (ae rfl rfl))) ar) ar) ar) (fun _ _ => rfl))
 (aj (aK (aO bz (aB aZ (aD G h__law_cell_at (by decide) rfl rfl (ag (ae rfl rfl) (ag ar am rfl) rfl) rfl) ar) ar rfl) (aj (aF (.inl rfl) (aB aX ar (aB aZ (ae rfl rfl) ar)) (fun _ _ => rfl))
 av) av)
 (aj (aK (aO bz (ae rfl rfl) ar rfl) (aj (aU bA (aD G h__law_line_by (by decide) rfl rfl (ag (aB aX ar (ae rfl rfl)) (ag (aD G h__law_cell_at (by decide) rfl rfl (ag (ae rfl rfl) (ag ar am rfl) rfl) rfl) am rfl) rfl) rfl) (ae rfl rfl) (bd G (ae rfl rfl) (ae rfl rfl) rfl) (fun _ _ => rfl))
 av) (aj (aK (aO bz (ae rfl rfl) ar rfl) (aj (aU bA aL (ae rfl rfl) (bd G (ae rfl rfl) (ae rfl rfl) rfl) (fun _ _ => rfl))
 av) (aj (aK (aO bz (ae rfl rfl) ar rfl) (aj (aU bA dK (ae rfl rfl) (bd G (ae rfl rfl) (ae rfl rfl) rfl) (fun _ _ => rfl))
 av) (aj (aK (aO t6 (ae rfl rfl) ar rfl) (aj (aU bA (bD G (bd G (ae rfl rfl) (aB rG (ae rfl rfl) ar) rfl) (ag (bd G (ae rfl rfl) (ae rfl rfl) rfl) am rfl) rfl (fun _ => rfl) rfl (by decide)) (ae rfl rfl) (bd G (ae rfl rfl) (ae rfl rfl) rfl) (fun _ _ => rfl))
 av) av)
 av))
 av))
 av))
 av))) (fun _ _ => rfl))
 (aj (aV (ae rfl rfl))
 av)))
theorem mF {C : Cx} (G : Gl C Hd.vw) (hz : C.held = none)  (h__law_cell_at : FnAt C 0 "_law_cell_at" (sp__law_cell_at C.ns)) (h__law_line_by : FnAt C 0 "_law_line_by" (sp__law_line_by C.ns)) (hspec : ∀ vs σ Q, sp__law_picks C.ns vs σ Q → vs.length = 3 ∧ dI C.ns (aM ["_law_places_here", "_law_script", "_law_trees_here"] vs aW) σ (fin Q)) : FnAt C 1 "_law_picks" (sp__law_picks C.ns) :=
 FnAt.mk (xs := ["_law_places_here", "_law_script", "_law_trees_here"]) G 19 27 rfl rfl rfl rfl rfl (fun ws pm code doc h => by
  obtain ⟨w0, w1, w2, rfl⟩ := kj h
  rfl) rfl (mK G hz  h__law_cell_at h__law_line_by) hspec
noncomputable def hZ (ns : List Int) (ad : String → Addr) : dy :=
 (sM "e" t8 (bW (uc (qX (ak (.str (Str.ofString "made"))) (mW (sp_joined ns) (ah (af "_law_elder") (ah (af "_law_one") (ah (af "_law_other") (ah (af "_law_picks_here") az)))))))
 (xP aA)) (fun e c => (au (a7 "_law_some" (bC (ah (cQ (ah (ak (.str (Str.ofString "NoClash"))) (ah (aC (b0 e (.ref (ad "NoClash")) (bM c "NoClash")) (ah (af "e") (ah (ak (.ref (ad "NoClash"))) az))) az))) (ah (cQ (ah (ak (.str (Str.ofString "Clashed"))) (ah (aC (b0 e (.ref (ad "Clashed")) (bM c "Clashed")) (ah (af "e") (ah (ak (.ref (ad "Clashed"))) az))) az))) az))))
 (au (a7 "_law_some" (an aR (af "_law_some") (bC (ah (cQ (ah (ak (.str (Str.ofString "NoPath"))) (ah (aC (b0 e (.ref (ad "NoPath")) (bM c "NoPath")) (ah (af "e") (ah (ak (.ref (ad "NoPath"))) az))) az))) (ah (cQ (ah (ak (.str (Str.ofString "NoFile"))) (ah (aC (b0 e (.ref (ad "NoFile")) (bM c "NoFile")) (ah (af "e") (ah (ak (.ref (ad "NoFile"))) az))) az))) az)))))
 (au (a7 "_law_some" (an aR (af "_law_some") (bC (ah (cQ (ah (ak (.str (Str.ofString "InTheWay"))) (ah (aC (b0 e (.ref (ad "InTheWay")) (bM c "InTheWay")) (ah (af "e") (ah (ak (.ref (ad "InTheWay"))) az))) az))) (ah (cQ (ah (ak (.str (Str.ofString "NoVersion"))) (ah (aC (b0 e (.ref (ad "NoVersion")) (bM c "NoVersion")) (ah (af "e") (ah (ak (.ref (ad "NoVersion"))) az))) az))) az)))))
 (au (a7 "_law_some" (an aR (af "_law_some") (bC (ah (cQ (ah (ak (.str (Str.ofString "SameVersion"))) (ah (aC (b0 e (.ref (ad "SameVersion")) (bM c "SameVersion")) (ah (af "e") (ah (ak (.ref (ad "SameVersion"))) az))) az))) az))))
 (au (bH (cQ (ah (a4 cT cw (ak (.str (Str.ofString ""))) (ah (eo [] (.tup ["_law_word", "_law_fits"]) (pK (af "_law_some")) (aE (af "_law_fits")) (af "_law_word")) az)) (ah (aC (b0 e (.ty "ValueError") true) (ah (af "e") (ah (ak (.ty "ValueError")) az))) az))))
 aA)))))))
noncomputable def ex (ns : List Int) (ad : String → Addr) : dy := (bW (hZ ns ad) (xP aA))
theorem om {C : Cx} (G : Gl C Hd.vw) (hz : C.held = none)  {ad : String → Addr} (Tb : XTab C t8 tx ad) (h_joined : FnAtX C 5 "joined" (sp_joined C.ns)) : HSX C (aN Hd.vw 28) 6 (bq Hd.vw 28) (ex C.ns ad) :=
 (HSX.cons (HSX1.tryAt G hz Tb (HSX.cons (HSX1.ret (HEX.pair aL (HEX.callAt G h_joined (by decide) rfl rfl (ag (ae rfl rfl) (ag (ae rfl rfl) (ag (ae rfl rfl) (ag (ae rfl rfl) am rfl) rfl) rfl) rfl) rfl) rfl rfl))
 (HSX.plain av)) (by decide) (by decide) rfl rfl rfl (fun e o vs c hc hez hof hcls hd h2 => (aj (aF (.inl rfl) (bv (ag (ci (ag aL (ag (ip G Tb hc hez hof hcls hd h2 (by decide) rfl rfl rfl rfl rfl) am rfl) rfl)) (ag (ci (ag aL (ag (ip G Tb hc hez hof hcls hd h2 (by decide) rfl rfl rfl rfl rfl) am rfl) rfl)) am rfl) rfl)) (fun _ _ => rfl))
 (aj (aF (.inl rfl) (aB aX (ae rfl rfl) (bv (ag (ci (ag aL (ag (ip G Tb hc hez hof hcls hd h2 (by decide) rfl rfl rfl rfl rfl) am rfl) rfl)) (ag (ci (ag aL (ag (ip G Tb hc hez hof hcls hd h2 (by decide) rfl rfl rfl rfl rfl) am rfl) rfl)) am rfl) rfl))) (fun _ _ => rfl))
 (aj (aF (.inl rfl) (aB aX (ae rfl rfl) (bv (ag (ci (ag aL (ag (ip G Tb hc hez hof hcls hd h2 (by decide) rfl rfl rfl rfl rfl) am rfl) rfl)) (ag (ci (ag aL (ag (ip G Tb hc hez hof hcls hd h2 (by decide) rfl rfl rfl rfl rfl) am rfl) rfl)) am rfl) rfl))) (fun _ _ => rfl))
 (aj (aF (.inl rfl) (aB aX (ae rfl rfl) (bv (ag (ci (ag aL (ag (ip G Tb hc hez hof hcls hd h2 (by decide) rfl rfl rfl rfl rfl) am rfl) rfl)) am rfl))) (fun _ _ => rfl))
 (aj (aV (ci (ag (dL aL (ag (gX (CompOk.of rfl) (tQ (G.hold hez hof hd h2).ok (ae rfl rfl)) (mT (G.hold hez hof hd h2).ok (l := [("_law_word", _), ("_law_fits", _)]) (by decide)) (jT (fJ (ae rfl rfl) (fun _ _ => rfl))) (ae rfl rfl) (fun _ _ => rfl)) am rfl) rfl (fun _ => rfl) rfl (by decide)) (ag (u7 G Tb hc hez hof hcls hd h2 rfl rfl rfl rfl) am rfl) rfl)))
 av)))))))
 (HSX.plain av))
theorem nY {C : Cx} (G : Gl C Hd.vw) (hz : C.held = none)  {ad : String → Addr} (Tb : XTab C t8 tx ad) (h_joined : FnAtX C 5 "joined" (sp_joined C.ns)) (hspec : ∀ vs σ Q X, sp__law_told C.ns vs σ Q X → vs.length = 4 ∧ ex C.ns ad (aM ["_law_elder", "_law_one", "_law_other", "_law_picks_here"] vs aW) σ (fin Q) (fun c _ σ' => X c σ')) : FnAtX C 6 "_law_told" (sp__law_told C.ns) :=
 FnAtX.mk (xs := ["_law_elder", "_law_one", "_law_other", "_law_picks_here"]) G 20 28 rfl rfl rfl rfl rfl (fun ws pm code doc h => by
  obtain ⟨w0, w1, w2, w3, rfl⟩ := uJ h
  rfl) rfl (om G hz  Tb h_joined) hspec
noncomputable def iV (ns : List Int) : ST :=
 (a7 "_law_due_here" eD)
noncomputable def iU (ns : List Int) : ST :=
 (dp (.name "_law_path") (jx ns (eR (an aR (an aR (aC ck (ah (af "_law_elder") az)) (aC ck (ah (af "_law_one") az))) (aC ck (ah (af "_law_other") az))))) (au (a7 "_law_line" (aC (sp__law_at ns) (ah (a4 bi bX (af "_law_elder") (ah (af "_law_path") az)) (ah (a4 bi bX (af "_law_one") (ah (af "_law_path") az)) (ah (a4 bi bX (af "_law_other") (ah (af "_law_path") az)) az)))))
 (au (b8 (aE (an dQ (af "_law_path") (af "_law_picks_here"))) (au (a7 "_law_line" (an ej (af "_law_picks_here") (af "_law_path")))
 aA) (au (b8 (aE (aC (sp__law_splits ns) (ah (a4 bi bX (af "_law_elder") (ah (af "_law_path") az)) (ah (a4 bi bX (af "_law_one") (ah (af "_law_path") az)) (ah (a4 bi bX (af "_law_other") (ah (af "_law_path") az)) az))))) (au (bH (ak .none))
 aA) aA)
 aA))
 (au (b8 (aE (an bY (af "_law_line") (ak .none))) (au (aH bN (af "_law_line") (af "_law_due_here") (af "_law_path"))
 aA) aA)
 aA))))
noncomputable def iT (ns : List Int) : ST :=
 (dp (.name "_law_path") (jx ns (af "_law_due_here")) (au (b8 (aE (an rD (aC (dA ns) (ah (eo ["_law_due_here"] (.name "_law_upper") (jx ns (aC (sp__law_uppers ns) (ah (af "_law_path") az))) (aE (an dQ (af "_law_upper") (af "_law_due_here"))) (af "_law_upper")) az)) (ak (.int 0)))) (au (bH (ak .none))
 aA) aA)
 aA))
noncomputable def iS (ns : List Int) : ST :=
 (bH (af "_law_due_here"))
noncomputable def fF (ns : List Int) : ST := (au (iV ns) (au (iU ns) (au (iT ns) (au (iS ns) aA))))
theorem ph {C : Cx} (G : Gl C Hd.vw) (hz : C.held = none)  (h__law_at : FnAt C 0 "_law_at" (sp__law_at C.ns)) (h__law_splits : FnAt C 0 "_law_splits" (sp__law_splits C.ns)) (h__law_uppers : FnAt C 0 "_law_uppers" (sp__law_uppers C.ns)) : HS C (aN Hd.vw 29) 1 (bq Hd.vw 29) (fF C.ns) :=
 (aj (aF (.inr rfl) ds (fun _ _ => rfl))
 (aj (bu (aY rfl) (ch G.ok hz (iZ G hz rfl rfl (aB aX (aB aX (dY G hz rfl (ag (ae rfl rfl) am rfl) rfl) (dY G hz rfl (ag (ae rfl rfl) am rfl) rfl)) (dY G hz rfl (ag (ae rfl rfl) am rfl) rfl)) rfl)) (aj (aF (.inl rfl) (aD G h__law_at (by decide) rfl rfl (ag (bD G (ae rfl rfl) (ag (ae rfl rfl) am rfl) rfl (fun _ => rfl) rfl (by decide)) (ag (bD G (ae rfl rfl) (ag (ae rfl rfl) am rfl) rfl (fun _ => rfl) rfl (by decide)) (ag (bD G (ae rfl rfl) (ag (ae rfl rfl) am rfl) rfl (fun _ => rfl) rfl (by decide)) am rfl) rfl) rfl) rfl) (fun _ _ => rfl))
 (aj (aK (aO (gk G.ok) (ae rfl rfl) (ae rfl rfl) rfl) (aj (aF (.inl rfl) (lh (ae rfl rfl) (ae rfl rfl) rfl) (fun _ _ => rfl))
 av) (aj (aK (fJ (aD G h__law_splits (by decide) rfl rfl (ag (bD G (ae rfl rfl) (ag (ae rfl rfl) am rfl) rfl (fun _ => rfl) rfl (by decide)) (ag (bD G (ae rfl rfl) (ag (ae rfl rfl) am rfl) rfl (fun _ => rfl) rfl (by decide)) (ag (bD G (ae rfl rfl) (ag (ae rfl rfl) am rfl) rfl (fun _ => rfl) rfl (by decide)) am rfl) rfl) rfl) rfl) (fun _ _ => rfl)) (aj (aV dK)
 av) av)
 av))
 (aj (aK (aO gj (ae rfl rfl) dK rfl) (aj (aU bA (ae rfl rfl) (aP rfl rfl) (ae rfl rfl) (fun _ _ => rfl))
 av) av)
 av))) (fun _ _ => rfl))
 (aj (bu (aY rfl) (ch G.ok hz (aP rfl rfl)) (aj (aK (aO t6 (fH G rfl (ag (gX (CompOk.of rfl) (ch G.ok hz (aD G h__law_uppers (by decide) rfl rfl (ag (ae rfl rfl) am rfl) rfl)) (aY rfl) (jT (aO (gk G.ok) (ae rfl rfl) (aP rfl rfl) rfl)) (ae rfl rfl) (fun _ _ => rfl)) am rfl) rfl) ar rfl) (aj (aV dK)
 av) av)
 av) (fun _ _ => rfl))
 (aj (aV (aP rfl rfl))
 av))))
theorem o7 {C : Cx} (G : Gl C Hd.vw) (hz : C.held = none)  (h__law_at : FnAt C 0 "_law_at" (sp__law_at C.ns)) (h__law_splits : FnAt C 0 "_law_splits" (sp__law_splits C.ns)) (h__law_uppers : FnAt C 0 "_law_uppers" (sp__law_uppers C.ns)) (hspec : ∀ vs σ Q, sp__law_due C.ns vs σ Q → vs.length = 4 ∧ fF C.ns (aM ["_law_elder", "_law_one", "_law_other", "_law_picks_here"] vs aW) σ (fin Q)) : FnAt C 1 "_law_due" (sp__law_due C.ns) :=
 FnAt.mk (xs := ["_law_elder", "_law_one", "_law_other", "_law_picks_here"]) G 21 29 rfl rfl rfl rfl rfl (fun ws pm code doc h => by
  obtain ⟨w0, w1, w2, w3, rfl⟩ := uJ h
  rfl) rfl (ph G hz  h__law_at h__law_splits h__law_uppers) hspec
noncomputable def pX (ns : List Int) : dy :=
 (xP (rx (.tup ["_law_elder", "_law_one", "_law_other"]) (aC (sp__law_trees ns) (ah (af "_law_script") az))))
noncomputable def pW (ns : List Int) : dy :=
 (xP (a7 "_law_places_here" (aC (sp__law_places ns) (ah (af "_law_elder") (ah (af "_law_one") (ah (af "_law_other") az))))))
noncomputable def pV (ns : List Int) : dy :=
 (xP (a7 "_law_picks_here" (aC (sp__law_picks ns) (ah (af "_law_places_here") (ah (af "_law_script") (ah (bC (ah (af "_law_elder") (ah (af "_law_one") (ah (af "_law_other") az)))) az))))))
noncomputable def pU (ns : List Int) : dy :=
 (xP (a7 "_law_word" (ak (.str (Str.ofString "made")))))
noncomputable def pT (ns : List Int) : dy :=
 (xP (a7 "_law_due_here" (aC (sp__law_due ns) (ah (af "_law_elder") (ah (af "_law_one") (ah (af "_law_other") (ah (af "_law_picks_here") az)))))))
noncomputable def mS (ns : List Int) : dy :=
 (xP (b8 (aE (an tm (af "_law_due_here") (ak .none))) (au (a7 "_law_word" (ak (.str (Str.ofString "Clashed"))))
 aA) aA))
noncomputable def mR (ns : List Int) : dy :=
 (xP (b8 (aE (an bk (an a6 (aC (sp__law_cell_at ns) (ah (af "_law_script") (ah (ak (.int 28)) az))) (ak (.int 6))) (ak (.int 1)))) (au (a7 "_law_odd" (an (aG ns) (bC (ah (ak (.str (Str.ofString "tops1/x"))) (ah (ak (.str (Str.ofString "no/such/path/here"))) (ah (ak (.str (Str.ofString "a b"))) az)))) (an a6 (an bL (aC (sp__law_cell_at ns) (ah (af "_law_script") (ah (ak (.int 28)) az))) (ak (.int 6))) (ak (.int 3)))))
 (au (b8 (aE (an iy (af "_law_odd") (af "_law_places_here"))) (au (aH bN (an (aG ns) (bC (ah (ak (.str (Str.ofString "x"))) (ah (ak .none) az))) (an a6 (an bL (aC (sp__law_cell_at ns) (ah (af "_law_script") (ah (ak (.int 28)) az))) (ak (.int 18))) (ak (.int 2)))) (af "_law_picks_here") (af "_law_odd"))
 (au (a7 "_law_word" (ak (.str (Str.ofString "NoClash"))))
 aA)) aA)
 aA)) aA))
noncomputable def jQ (ns : List Int) : dy :=
 (xP (a7 "_law_kept" (bC (ah (aC dg (ah (af "_law_elder") az)) (ah (aC dg (ah (af "_law_one") az)) (ah (aC dg (ah (af "_law_other") az)) (ah (aC dg (ah (af "_law_picks_here") az)) az)))))))
noncomputable def iP (ns : List Int) : dy :=
 (oy (.tup ["_law_left", "_law_right"]) (jx ns (bC (ah (cQ (ah (af "_law_one") (ah (af "_law_other") az))) (ah (cQ (ah (af "_law_other") (ah (af "_law_one") az))) az)))) (bW (sO "_law_found" (mW (sp__law_told ns) (ah (af "_law_elder") (ah (af "_law_left") (ah (af "_law_right") (ah (af "_law_picks_here") az))))))
 (xP (au (b8 (i5 (aE (an cb (an (aG ns) (af "_law_found") (ak (.int 0))) (af "_law_word"))) (i5 (aE (an ke (bC (ah (af "_law_elder") (ah (af "_law_one") (ah (af "_law_other") (ah (af "_law_picks_here") az))))) (af "_law_kept"))) tF)) (au (bH (ak (.bool false)))
 aA) aA)
 (au (b8 (dD (aE (an cb (af "_law_word") (ak (.str (Str.ofString "made"))))) (dD (aE (an bY (an (aG ns) (af "_law_found") (ak (.int 1))) (ak (.bool true)))) tT)) (au (bH (ak (.bool false)))
 aA) aA)
 (au (b8 (aE (an bk (af "_law_word") (ak (.str (Str.ofString "made"))))) (au (b8 (i5 (nf (aE (aC dn (ah (an (aG ns) (af "_law_found") (ak (.int 1))) (ah (ak (.ty "dict")) az))))) (i5 (aE (an ig (an (aG ns) (af "_law_found") (ak (.int 1))) (af "_law_due_here"))) tF)) (au (bH (ak (.bool false)))
 aA) aA)
 (au (aH bN (ak (.str (Str.ofString "y"))) (an (aG ns) (af "_law_found") (ak (.int 1))) (ak (.str (Str.ofString "x"))))
 aA)) aA)
 aA))))))
noncomputable def gp (ns : List Int) : ST :=
 (bH (an rE (bC (ah (af "_law_elder") (ah (af "_law_one") (ah (af "_law_other") (ah (af "_law_picks_here") az))))) (af "_law_kept")))
noncomputable def pY (ns : List Int) : dy := (bW (pX ns) (bW (pW ns) (bW (pV ns) (bW (pU ns) (bW (pT ns) (bW (mS ns) (bW (mR ns) (bW (jQ ns) (bW (iP ns) (xP (au (gp ns) aA)))))))))))
theorem wt {C : Cx} (G : Gl C Hd.vw) (hz : C.held = none)  (h__law_trees : FnAt C 4 "_law_trees" (sp__law_trees C.ns)) (h__law_places : FnAt C 1 "_law_places" (sp__law_places C.ns)) (h__law_picks : FnAt C 1 "_law_picks" (sp__law_picks C.ns)) (h__law_due : FnAt C 1 "_law_due" (sp__law_due C.ns)) (h__law_cell_at : FnAt C 0 "_law_cell_at" (sp__law_cell_at C.ns)) (h__law_told : FnAtX C 6 "_law_told" (sp__law_told C.ns)) : HSX C (aN Hd.vw 30) 7 (bq Hd.vw 30) (pY C.ns) :=
 (HSX.cons (HSX1.plain (sA (mT G.ok (l := [("_law_elder", _), ("_law_one", _), ("_law_other", _)]) (by decide)) (aD G h__law_trees (by decide) rfl rfl (ag (ae rfl rfl) am rfl) rfl) (fun _ _ => rfl) (fun _ _ => rfl)))
 (HSX.cons (HSX1.plain (aF (.inl rfl) (aD G h__law_places (by decide) rfl rfl (ag (ae rfl rfl) (ag (ae rfl rfl) (ag (ae rfl rfl) am rfl) rfl) rfl) rfl) (fun _ _ => rfl)))
 (HSX.cons (HSX1.plain (aF (.inl rfl) (aD G h__law_picks (by decide) rfl rfl (ag (ae rfl rfl) (ag (ae rfl rfl) (ag (bv (ag (ae rfl rfl) (ag (ae rfl rfl) (ag (ae rfl rfl) am rfl) rfl) rfl)) am rfl) rfl) rfl) rfl) (fun _ _ => rfl)))
 (HSX.cons (HSX1.plain (aF (.inl rfl) aL (fun _ _ => rfl)))
 (HSX.cons (HSX1.plain (aF (.inl rfl) (aD G h__law_due (by decide) rfl rfl (ag (ae rfl rfl) (ag (ae rfl rfl) (ag (ae rfl rfl) (ag (ae rfl rfl) am rfl) rfl) rfl) rfl) rfl) (fun _ _ => rfl)))
 (HSX.cons (HSX1.plain (aK (aO vQ (ae rfl rfl) dK rfl) (aj (aF (.inl rfl) aL (fun _ _ => rfl))
 av) av))
 (HSX.cons (HSX1.plain (aK (aO bz (aB aZ (aD G h__law_cell_at (by decide) rfl rfl (ag (ae rfl rfl) (ag ar am rfl) rfl) rfl) ar) ar rfl) (aj (aF (.inl rfl) (bd G (bv (ag aL (ag aL (ag aL am rfl) rfl) rfl)) (aB aZ (aB bI (aD G h__law_cell_at (by decide) rfl rfl (ag (ae rfl rfl) (ag ar am rfl) rfl) rfl) ar) ar) rfl) (fun _ _ => rfl))
 (aj (aK (aO lB (ae rfl rfl) (ae rfl rfl) rfl) (aj (aU bA (bd G (bv (ag aL (ag dK am rfl) rfl)) (aB aZ (aB bI (aD G h__law_cell_at (by decide) rfl rfl (ag (ae rfl rfl) (ag ar am rfl) rfl) rfl) ar) ar) rfl) (ae rfl rfl) (ae rfl rfl) (fun _ _ => rfl))
 (aj (aF (.inl rfl) aL (fun _ _ => rfl))
 av)) av)
 av)) av))
 (HSX.cons (HSX1.plain (aF (.inl rfl) (bv (ag (dZ G rfl (ag (ae rfl rfl) am rfl) rfl) (ag (dZ G rfl (ag (ae rfl rfl) am rfl) rfl) (ag (dZ G rfl (ag (ae rfl rfl) am rfl) rfl) (ag (dZ G rfl (ag (ae rfl rfl) am rfl) rfl) am rfl) rfl) rfl) rfl)) (fun _ _ => rfl)))
 (HSX.cons (HSX1.for (mT G.ok (l := [("_law_left", _), ("_law_right", _)]) (by decide)) (ch G.ok hz (bv (ag (ci (ag (ae rfl rfl) (ag (ae rfl rfl) am rfl) rfl)) (ag (ci (ag (ae rfl rfl) (ag (ae rfl rfl) am rfl) rfl)) am rfl) rfl))) (HSX.cons (HSX1.set (.inl rfl) (HEX.callAt G h__law_told (by decide) rfl rfl (ag (ae rfl rfl) (ag (ae rfl rfl) (ag (ae rfl rfl) (ag (ae rfl rfl) am rfl) rfl) rfl) rfl) rfl) (fun _ _ => rfl))
 (HSX.plain (aj (aK (b7 (eE (aO ii (bd G (ae rfl rfl) ar rfl) (ae rfl rfl) rfl) (eE (aO (uy G.ok) (bv (ag (ae rfl rfl) (ag (ae rfl rfl) (ag (ae rfl rfl) (ag (ae rfl rfl) am rfl) rfl) rfl) rfl)) (ae rfl rfl) rfl) fi))) (aj (aV cu)
 av) av)
 (aj (aK (b7 (dk (aO ii (ae rfl rfl) aL rfl) (dk (aO gj (bd G (ae rfl rfl) ar rfl) cu rfl) ee))) (aj (aV cu)
 av) av)
 (aj (aK (aO bz (ae rfl rfl) aL rfl) (aj (aK (b7 (eE (sG (fJ (u5 G rfl (ag (bd G (ae rfl rfl) ar rfl) (ag (sF G rfl) am rfl) rfl) rfl) (fun _ _ => rfl))) (eE (aO (tn G.ok) (bd G (ae rfl rfl) ar rfl) (ae rfl rfl) rfl) fi))) (aj (aV cu)
 av) av)
 (aj (aU bA aL (bd G (ae rfl rfl) ar rfl) aL (fun _ _ => rfl))
 av)) av)
 av))))) (fun _ _ => rfl))
 (HSX.plain (aj (aV (fI (uE G.ok) (bv (ag (ae rfl rfl) (ag (ae rfl rfl) (ag (ae rfl rfl) (ag (ae rfl rfl) am rfl) rfl) rfl) rfl)) (ae rfl rfl) rfl))
 av)))))))))))
theorem wh {C : Cx} (G : Gl C Hd.vw) (hz : C.held = none)  (h__law_trees : FnAt C 4 "_law_trees" (sp__law_trees C.ns)) (h__law_places : FnAt C 1 "_law_places" (sp__law_places C.ns)) (h__law_picks : FnAt C 1 "_law_picks" (sp__law_picks C.ns)) (h__law_due : FnAt C 1 "_law_due" (sp__law_due C.ns)) (h__law_cell_at : FnAt C 0 "_law_cell_at" (sp__law_cell_at C.ns)) (h__law_told : FnAtX C 6 "_law_told" (sp__law_told C.ns)) (hspec : ∀ vs σ Q X, ma C.ns vs σ Q X → vs.length = 1 ∧ pY C.ns (aM ["_law_script"] vs aW) σ (fin Q) (fun c _ σ' => X c σ')) : FnAtX C 7 "law" (ma C.ns) :=
 FnAtX.mk (xs := ["_law_script"]) G 22 30 rfl rfl rfl rfl rfl (fun ws pm code doc h => by
  obtain ⟨w0, rfl⟩ := qA h
  rfl) rfl (wt G hz  h__law_trees h__law_places h__law_picks h__law_due h__law_cell_at h__law_told) hspec
end Mine
end
noncomputable section
set_option maxRecDepth 10000
namespace Mine
open PySem PySem.W PyProof.Rows PySem.Calls
section
variable {ns : List Int} {σ : ai} {Q : V → ai → Prop}
@[simp] theorem wG {k : Int} : sp__law_cell_at ns [.script, .int k] σ Q = (0 ≤ k ∧ Q (.int (cell ns k)) σ) := propext ⟨fun ⟨_, e, h, q⟩ => by cases e; exact ⟨h, q⟩, fun h => ⟨_, rfl, h.1, h.2⟩⟩
@[simp] theorem wD {k : Int} : sp__law_sign_by ns [.int k] σ Q = (∀ x : Str, x.length = 1 → Q (.str x) σ) := propext ⟨fun ⟨_, e, q⟩ => by cases e; exact q, fun h => ⟨_, rfl, h⟩⟩
@[simp] theorem wE {c n : Int} : sp__law_name_by ns [.int c, .int n] σ Q = (∀ (x : Str) σ', Grow σ σ' → x.length ≤ 25 → Q (.str x) σ') := propext ⟨fun ⟨_, _, e, q⟩ => by cases e; exact q, fun h => ⟨_, _, rfl, h⟩⟩
@[simp] theorem vf {c n : Int} : sp__law_path_by ns [.int c, .int n] σ Q = (∀ (x : Str) σ', Grow σ σ' → x.length ≤ 250 → Q (.str x) σ') := propext ⟨fun ⟨_, _, e, q⟩ => by cases e; exact q, fun h => ⟨_, _, rfl, h⟩⟩
@[simp] theorem wF {c n : Int} : sp__law_line_by ns [.int c, .int n] σ Q = (∀ (x : Str) σ', Grow σ σ' → Q (.str x) σ') := propext ⟨fun ⟨_, _, e, q⟩ => by cases e; exact q, fun h => ⟨_, _, rfl, h⟩⟩
end
theorem uu (ns : List Int) : ∀ vs σ Q, sp__law_cell_at ns vs σ Q → vs.length = 2 ∧ cP ns (aM ["_law_script", "_law_k"] vs aW) σ (fin Q) := by
 rintro vs σ Q ⟨k, rfl, hk, q⟩
 refine ⟨rfl, ?_⟩
 simp [cP, fg, ff, aq]
 split
 ·rename_i h; exact qM hk h q
 ·rename_i h; rw [su hk h] at q; exact q
theorem rg (k : Int) {m : Nat} (h : 0 < m) : ∃ r : Nat, k % (m : Int) = r ∧ r < m := by
 have a1 := Int.emod_nonneg k (b := (m : Int)) (by omega)
 have a2 := Int.emod_lt_of_pos k (b := (m : Int)) (by omega)
 exact ⟨(k % (m : Int)).toNat, by omega, by omega⟩
theorem nM {x : Str} {k : Int} {m : Nat} {ns : List Int} {σ : ai} {Q : V → ai → Prop} (hm : x.length = m) (h0 : 0 < m) (hz : m < 16777217) (q : ∀ y : Str, y.length = 1 → Q (.str y) σ) : aG ns (.str x) (.int (k % (m : Int))) σ Q := by
 obtain ⟨r, e, hr⟩ := rg k h0
 rw [e]
 have hr : r < (cl x).length := by rw [← du, hm]; exact hr
 exact nL (by rw [hm]; exact hz) (Int.natCast_nonneg _) (List.getElem?_eq_getElem hr) (q _ rfl)
theorem ek {a : Addr} {xs : List V} {k : Int} {m : Nat} {ns : List Int} {σ : ai} {Q : V → ai → Prop} (h : σ a = some (.list xs)) (hm : xs.length = m) (h0 : 0 < m) (q : ∀ v ∈ xs, Q v σ) : aG ns (.ref a) (.int (k % (m : Int))) σ Q := by
 obtain ⟨r, e, hr⟩ := rg k h0
 rw [e]
 have hr : r < xs.length := by rw [hm]; exact hr
 exact cA h (Int.natCast_nonneg _) (List.getElem?_eq_getElem hr) (q _ (List.getElem_mem hr))
theorem uo (ns : List Int) : ∀ vs σ Q, sp__law_sign_by ns vs σ Q → vs.length = 1 ∧ cI ns (aM ["_law_k"] vs aW) σ (fin Q) := by
 rintro vs σ Q ⟨k, rfl, q⟩
 refine ⟨rfl, ?_⟩
 simp [cI, eU, aq]
 exact nM (m := 65) (by decide +kernel) (by decide) (by decide) q
theorem cc (x y : Str) : (x ++ y).length = x.length + y.length := by rw [du, dN, List.length_append, ← du, ← du]
theorem pO : (Str.ofString "").length = 0 := by decide +kernel
theorem f0 {P : Str → Prop} : ∀ (ys : List V), (∀ (i : Nat) y, ys[i]? = some y → ∃ x, P x ∧ y = .str x) → ∃ xs : List Str, ys = xs.map .str ∧ ∀ x ∈ xs, P x
 | [], _ => ⟨[], rfl, fun _ h => nomatch h⟩
 | y :: r, h => by
  obtain ⟨x, hx, rfl⟩ := h 0 y rfl
  obtain ⟨xs, rfl, hxs⟩ := f0 r fun i z e => h (i + 1) z (by simpa using e)
  exact ⟨x :: xs, rfl, by intro z hz; rcases List.mem_cons.mp hz with rfl | hz; exact hx; exact hxs z hz⟩
theorem l9 {n : Nat} : ∀ (l : List Str), (∀ y ∈ l, y.length ≤ n) → (l.map (·.length)).sum ≤ l.length * n
 | [], _ => Nat.zero_le _
 | y :: r, h => by
  have h1 := h y (.head _)
  have h2 := l9 r fun z hz => h z (.tail _ hz)
  rw [List.map_cons, List.sum_cons, List.length_cons, Nat.succ_mul, Nat.add_comm]
  exact Nat.add_le_add h2 h1
theorem rX : ∀ (l : List Str), (Str.join (Str.ofString "") l).length ≤ (l.map (·.length)).sum
 | [] => Nat.le_of_eq pO
 | [x] => Nat.le_of_eq (Nat.add_zero x.length).symm
 | x :: y :: r => by
  have ih := rX (y :: r)
  have e : Str.join (Str.ofString "") (x :: y :: r) = x ++ Str.ofString "" ++ Str.join (Str.ofString "") (y :: r) := rfl
  rw [e, cc, cc, pO, List.map_cons, List.sum_cons]
  exact Nat.add_le_add_left ih x.length
theorem pR {α β : Type} (f : α → β) (l : List α) (lo hi : Option Int) : bG (l.map f) lo hi = (bG l lo hi).map f := by
 unfold bG; rw [List.length_map, List.map_take, List.map_drop]
theorem pQ {α : Type} {l : List α} {lo hi : Option Int} {x : α} (h : x ∈ bG l lo hi) : x ∈ l := List.mem_of_mem_drop (List.mem_of_mem_take h)
theorem kE {ns : List Int} {σ : ai} {a : Addr} {ks : List Str} {lo hi : Option Int} {Q : V → ai → Prop} (ha : σ a = some (.list (ks.map .str))) (h1 : ∀ x ∈ ks, x.length = 1) (hl : ks.length = 12)
  (q : ∀ (x : Str) σ', Grow σ σ' → x.length ≤ 12 → Q (.str x) σ') : pD ns lo hi (.ref a) σ fun v σ' => cw [.str (Str.ofString ""), v] σ' Q := by
 refine kD ha fun b hb => ?_
 rw [pR]
 have h2 := Nat.le_trans (jN ks lo hi) (Nat.le_of_eq hl)
 have h3 := l9 (n := 1) (bG ks lo hi) fun y hy => Nat.le_of_eq (h1 y (pQ hy))
 rw [Nat.mul_one] at h3
 have h4 := Nat.le_trans h3 h2
 refine eN (ys := bG ks lo hi) (ay _ _ _) (by rw [pO, Nat.mul_zero]; exact Nat.le_trans h4 (by decide)) ?_
 exact q _ _ (Grow.refl.upd hb) (Nat.le_trans (rX _) h4)
theorem uq (ns : List Int) : ∀ vs σ Q, sp__law_name_by ns vs σ Q → vs.length = 2 ∧ cK ns (aM ["_law_k", "_law_shift"] vs aW) σ (fin Q) := by
 rintro vs σ Q ⟨kk, sh, rfl, q⟩
 refine ⟨rfl, ?_⟩
 unfold cK
 rw [aq]
 simp [eX]
 have done : ∀ (m : aT) (σ' : ai) (x : Str), Grow σ σ' → m "_law_name" = some (.str x) → x.length ≤ 25 → au (bU ns) (au (bS ns) aA) m σ' (fin Q) := by
  intro m σ' x g hm l2
  rw [aq]
  simp [bU, bS, aq, hm]
  have e1 : (Str.ofString "0x").length ≤ 25 := by decide +kernel
  by_cases n1 : x = Str.ofString "."
  ·simpa [n1] using q _ _ g e1
  by_cases n2 : x = Str.ofString ".."
  ·simpa [n1, n2] using q _ _ g e1
  simpa [n1, n2] using q _ _ g l2
 have rest : ∀ (m : aT) (sz : Int), 1 ≤ sz → m "_law_k" = some (.int kk) → m "_law_shift" = some (.int sh) → m "_law_size" = some (.int sz) →
   au (db ns) (au (c9 ns) (au (c8 ns) (au (c7 ns) (au (co ns) (au (cn ns) (au (bU ns) (au (bS ns) aA))))))) m σ (fin Q) := by
  intro m sz z1 hk hs hz
  rw [aq]
  simp [db, hs]
  generalize sh / 5 % 4 = wy
  rw [aq]
  simp [c9]
  refine eT (fun σ' => σ' = σ) (fun _ y => ∃ x : Str, x.length = 1 ∧ y = .str x) (fun _ _ => trivial) _ [] 0 _ _ (by simp [bK]) ?_ rfl ?_
  ·rintro i v hv σ' Q' rfl nx
   obtain ⟨hi, rfl⟩ := b5 hv
   refine ⟨_, rfl, ?_⟩
   simp [hk, hs]
   exact ⟨.inl (by unfold ey; decide), .inr (by unfold ey; split <;> decide), fun x hx => nx _ _ rfl ⟨x, hx, rfl⟩⟩
  ·rintro ys σ' rfl hl hys a ha
   obtain ⟨ks, rfl, hx⟩ := f0 ys fun i y e => by simpa using hys i y e
   rw [List.length_map, bK] at hl
   rw [List.nil_append]
   have hkl : ks.length = 12 := hl
   have xa := ay σ' a (.list (ks.map .str))
   have g0 : Grow σ' (a8 σ' a (.list (ks.map .str))) := Grow.refl.upd ha
   generalize (a8 σ' a (.list (ks.map .str))) = σ₁ at xa g0 ⊢
   rw [aq]
   simp [c8, hs, hz]
   refine ⟨z1, .inr (by unfold ey; split <;> decide), ?_⟩
   generalize sh / 20 % sz * (if wy = 1 then 1 else 0) = at'
   rw [aq]
   simp [c7, hs, hk]
   intro b hb
   have hab : a ≠ b := by rintro rfl; rw [xa] at hb; cases hb
   have xa2 : a8 σ₁ b (.list [.int 1, .int 26]) a = some (.list (ks.map .str)) := by rw [bh hab]; exact xa
   have g1 := g0.upd (o := .list [.int 1, .int 26]) hb
   have xb := ay σ₁ b (.list [.int 1, .int 26])
   generalize (a8 σ₁ b (.list [.int 1, .int 26])) = σ₂ at xa2 g1 xb ⊢
   have go : ∀ x : Str, x.length = 1 → au (co ns) (au (cn ns) (au (bU ns) (au (bS ns) aA)))
     (put (put (put (put m "_law_way" (.int wy)) "_law_rest" (.ref a)) "_law_at_here" (.int at')) "_law_told_here" (.str x)) σ₂ (fin Q) := by
    intro x x1l
    rw [aq]
    simp [co]
    refine kE xa2 hx hkl fun x1 σ₃ g3 n1 => ?_
    simp [hz]
    have tl : (x1 ++ x).length ≤ 13 := by rw [cc, x1l]; exact Nat.succ_le_succ n1
    refine ⟨by rw [← cc]; exact Nat.le_trans tl (by decide), ?_⟩
    refine kE (g3 _ _ xa2) hx hkl fun x2 σ₄ g4 n2 => ?_
    have tl2 : (x1 ++ x ++ x2).length ≤ 25 := by rw [cc]; exact Nat.add_le_add tl n2
    simp
    refine ⟨by rw [← cc]; exact Nat.le_trans tl2 (by decide), ?_⟩
    have g5 := (g1.trans g3).trans g4
    have xa4 := g4 _ _ (g3 _ _ xa2)
    rw [aq]
    simp [cn, aq]
    split
    ·simp [hs, hk]
     refine kE xa4 hx hkl fun x3 σ₅ g6 n3 => ?_
     exact done _ _ x3 (g5.trans g6) (by simp) (Nat.le_trans n3 (by decide))
    ·exact done _ _ (x1 ++ x ++ x2) g5 (by simp) tl2
   by_cases w3 : wy = 3
   ·simp [w3]
    refine cA (v := .int 26) xb (by decide) rfl ?_
    simp
    refine ⟨.inr (by unfold ey; decide), fun x hx => ?_⟩
    simpa [w3] using go x hx
   ·simp [w3]
    refine cA (v := .int 1) xb (by decide) rfl ?_
    simp
    refine ⟨.inr (by unfold ey; decide), fun x hx => ?_⟩
    simpa [w3] using go x hx
 rw [aq]
 simp [eW]
 split
 ·simp [aq]
  obtain ⟨r, e, hr⟩ := rg (sh / 195) (m := 12) (by decide)
  have e : sh / 195 % 12 = r := e
  rw [e]
  exact rest _ (1 + (r : Int)) (by omega) (by simp) (by simp) (by simp)
 ·exact rest _ 1 (by decide) (by simp) (by simp) (by simp)
end Mine
end
noncomputable section
set_option maxRecDepth 10000
namespace Mine
open PySem PySem.W PyProof.Rows PySem.Calls
theorem Grow.over {σ σ' : ai} {b : Addr} {o : AObj} (g : Grow σ σ') (hb : σ b = Option.none) : Grow σ (Mine.a8 σ' b o) := fun c o' e => by
 rw [bh (by rintro rfl; rw [hb] at e; cases e)]; exact g c o' e
theorem jf {ns : List Int} {σ : ai} {Q : V → ai → Prop} {a : Addr} {xs : List Str} (ha : σ a = some (.list (xs.map .str))) (hl : xs.length ≤ 8) (hx : ∀ x ∈ xs, x.length ≤ 25) (q : ∀ x : Str, x.length ≤ 250 → Q (.str x) σ) : cw [.str (Str.ofString "/"), .ref a] σ Q := by
 have hs := l9 xs hx
 have hj := jv xs
 unfold iB at hj
 refine eN ha (by rw [i9]; omega) (q _ (by omega))
theorem qe {i : Nat} (h : i < 3) : ∃ d : Int, (0 < d ∧ d ≤ 9) ∧ ([V.int 1, V.int 3, V.int 9] : List V)[i]? = some (.int d) := by
 match i, h with
 | 0, _ => exact ⟨1, by decide, rfl⟩
 | 1, _ => exact ⟨3, by decide, rfl⟩
 | 2, _ => exact ⟨9, by decide, rfl⟩
theorem rt (ns : List Int) : ∀ vs σ Q, sp__law_path_by ns vs σ Q → vs.length = 2 ∧ cJ ns (aM ["_law_cell", "_law_shift"] vs aW) σ (fin Q) := by
 rintro vs σ Q ⟨c, sh, rfl, q⟩
 refine ⟨rfl, ?_⟩
 unfold cJ
 rw [aq]
 simp [eV]
 intro b hb
 have rest : ∀ (σ₁ : ai) (a : Addr) (xs : List Str), Grow σ σ₁ → σ₁ a = some (.list (xs.map .str)) → xs.length ≤ 3 → 1 ≤ xs.length → (∀ x ∈ xs, x.length ≤ 25) → au (cZ ns) (au (cY ns) (au (cX ns) (au (cW ns) aA)))
   (put (aM ["_law_cell", "_law_shift"] [.int c, .int sh] aW) "_law_low" (.ref a)) σ₁ (fin Q) := by
  intro σ₁ a xs g1 xa hl hl1 hx
  rw [aq]
  simp [cZ]
  split
  ·obtain ⟨r, e, hr⟩ := rg (sh / 7) (m := 5) (by decide)
   have e : sh / 7 % 5 = r := e
   rw [aq]
   simp [cY, e]
   refine ⟨by omega, ?_⟩
   refine eT (fun σ' => Grow σ₁ σ') (fun _ y => ∃ x : Str, x.length ≤ 25 ∧ y = .str x) (fun _ _ => trivial) _ [] 0 _ _ (by simp [bK]; omega) ?_ Grow.refl ?_
   ·rintro i v hv σ' Q' g nx
    obtain ⟨hi, rfl⟩ := b5 hv
    refine ⟨_, rfl, ?_⟩
    simp
    intro x σ'' g2 h1
    exact nx _ _ (g.trans g2) ⟨x, h1, rfl⟩
   ·rintro ys σ' g hl2 hys d hd
    obtain ⟨us, rfl, hu⟩ := f0 ys fun i y e => by simpa using hys i y e
    rw [List.length_map, bK] at hl2
    rw [List.nil_append]
    have hul : us.length ≤ 5 := by omega
    have xd := ay σ' d (.list (us.map .str))
    have g2 : Grow σ₁ (a8 σ' d (.list (us.map .str))) := g.upd hd
    generalize (a8 σ' d (.list (us.map .str))) = σ₂ at xd g2 ⊢
    have xa2 := g2 _ _ xa
    have hz : (us.map V.str).length + (xs.map V.str).length ≤ 16777216 := by rw [List.length_map, List.length_map]; omega
    have hall : ∀ x ∈ us ++ xs, x.length ≤ 25 := fun x h => (List.mem_append.mp h).elim (hu x) (hx x)
    rw [aq]
    simp [cX]
    split
    ·rw [aq]
     simp
     refine dW xd xa2 hz fun e he => ?_
     rw [← List.map_append]
     have xe := ay σ₂ e (.list ((us ++ xs).map .str))
     have g3 : Grow σ₂ (a8 σ₂ e (.list ((us ++ xs).map .str))) := Grow.refl.upd he
     generalize (a8 σ₂ e (.list ((us ++ xs).map .str))) = σ₃ at xe g3 ⊢
     simp [gm (g3 _ _ xd), gm (g3 _ _ xa2)]
     refine ⟨by omega, kD xe fun z hz => ?_⟩
     rw [pR]
     refine jf (ns := ns) (ay _ _ _) (Nat.le_trans (jN _ _ _) (by rw [List.length_append]; omega)) (fun x h => hall x (pQ h)) fun x h => ?_
     exact q x _ (((g1.trans g2).trans g3).upd hz) h
    ·rw [aq]
     simp [cW]
     refine dW xd xa2 hz fun e he => ?_
     rw [← List.map_append]
     refine jf (ns := ns) (ay _ _ _) (by rw [List.length_append]; omega) hall fun x h => ?_
     exact q x _ ((g1.trans g2).upd he) h
  ·rw [aq]
   simp
   exact jf (ns := ns) xa (by omega) hx fun x h => q x _ g1 h
 have g0 : Grow σ (a8 σ b (.list [.int 1, .int 1, .int 2, .int 2, .int 3])) := Grow.refl.upd hb
 have xb := ay σ b (.list [.int 1, .int 1, .int 2, .int 2, .int 3])
 generalize (a8 σ b (.list [.int 1, .int 1, .int 2, .int 2, .int 3])) = σ₀ at g0 xb ⊢
 refine ek (m := 5) xb rfl (by decide) fun v hv => ?_
 obtain ⟨N, rfl, n1, n3⟩ : ∃ N : Nat, v = .int N ∧ 1 ≤ N ∧ N ≤ 3 := by
  simp at hv
  rcases hv with rfl | rfl | rfl
  ·exact ⟨1, rfl, by decide, by decide⟩
  ·exact ⟨2, rfl, by decide, by decide⟩
  ·exact ⟨3, rfl, by decide, by decide⟩
 simp
 refine ⟨by omega, ?_⟩
 refine eT (fun σ' => Grow σ₀ σ') (fun _ y => ∃ x : Str, x.length ≤ 25 ∧ y = .str x) (fun _ _ => trivial) _ [] 0 _ _ (by simp [bK]; omega) ?_ Grow.refl ?_
 ·rintro i v hv σ' Q' g nx
  obtain ⟨hi, rfl⟩ := b5 hv
  refine ⟨_, rfl, ?_⟩
  simp
  intro d hd
  obtain ⟨dv, hdv, hg⟩ := qe (i := i) (by omega)
  refine cA (v := .int dv) (ay _ _ _) (by omega) (by simpa using hg) ?_
  simp
  refine ⟨by omega, fun x σ'' g2 h1 => ?_⟩
  exact nx _ _ ((g.upd hd).trans g2) ⟨x, h1, rfl⟩
 ·rintro ys σ' g hl hys d hd
  obtain ⟨us, rfl, hu⟩ := f0 ys fun i y e => by simpa using hys i y e
  rw [List.length_map, bK] at hl
  rw [List.nil_append]
  exact rest _ d us ((g0.trans g).upd hd) (ay _ _ _) (by omega) (by omega) hu
theorem ur (ns : List Int) : ∀ vs σ Q, sp__law_line_by ns vs σ Q → vs.length = 2 ∧ cL ns (aM ["_law_k", "_law_shift"] vs aW) σ (fin Q) := by
 rintro vs σ Q ⟨kk, sh, rfl, q⟩
 refine ⟨rfl, ?_⟩
 unfold cL
 rw [aq]
 simp [e0]
 rw [aq]
 simp [eZ]
 refine ⟨by decide +kernel, ?_⟩
 rw [aq]
 simp [eY]
 intro a ha
 obtain ⟨r1, e1, h1⟩ := rg sh (m := 60) (by decide)
 obtain ⟨r2, e2, h2⟩ := rg (sh / 240) (m := 600) (by decide)
 have e1 : sh % 60 = r1 := e1
 have e2 : sh / 240 % 600 = r2 := e2
 rw [e1, e2]
 have xa := ay σ a (.list [.int r1, .int r2])
 have g0 : Grow σ (a8 σ a (.list [.int r1, .int r2])) := Grow.refl.upd ha
 generalize (a8 σ a (.list [.int r1, .int r2])) = σ₁ at xa g0 ⊢
 have last : ∀ (m : aT) (n : Nat), n < 600 → ∀ b, σ₁ b = Option.none → m "_law_sizes" = some (.ref b) → m "_law_k" = some (.int kk) → m "_law_shift" = some (.int sh) → m "_law_some" = some (.str (Str.ofString " !\"#$&'()*+,-./0123456789:;<=>?@ABCDEFGHIJKLMNOPQRSTUVWXYZ[\\]^_`" ++ Str.ofString "abcdefghijklmnopqrstuvwxyz{|}~\n\t")) →
   au (dc ns) aA m (a8 σ₁ b (.list [.int 0, .int 1, .int 2, .int (3 + n)])) (fin Q) := by
  intro m n hn b hb m1 m2 m3 m4
  have xb := ay σ₁ b (.list [.int 0, .int 1, .int 2, .int (3 + n)])
  have g1 : Grow σ (a8 σ₁ b (.list [.int 0, .int 1, .int 2, .int (3 + n)])) := g0.upd hb
  generalize (a8 σ₁ b (.list [.int 0, .int 1, .int 2, .int (3 + n)])) = σ₂ at xb g1 ⊢
  rw [aq]
  simp [dc, m1, m2]
  refine ek (m := 4) xb rfl (by decide) fun v hv => ?_
  obtain ⟨N, rfl, n3⟩ : ∃ N : Nat, v = .int N ∧ N ≤ 603 := by
   simp at hv
   rcases hv with rfl | rfl | rfl | rfl
   ·exact ⟨0, rfl, by decide⟩
   ·exact ⟨1, rfl, by decide⟩
   ·exact ⟨2, rfl, by decide⟩
   ·exact ⟨3 + n, by simp, by omega⟩
  simp
  refine ⟨by omega, ?_⟩
  refine eT (fun s => s = σ₂) (fun _ y => ∃ x : Str, x.length = 1 ∧ y = .str x) (fun _ _ => trivial) _ [] 0 _ _ (by simp [bK]; omega) ?_ rfl ?_
  ·rintro i v hv s Q' rfl nx
   obtain ⟨hi, rfl⟩ := b5 hv
   refine ⟨_, rfl, ?_⟩
   simp [m2, m3, m4]
   refine ⟨.inl (by unfold ey; decide), ?_⟩
   exact nM (m := 96) (by decide +kernel) (by decide) (by decide) fun y hy => nx _ _ rfl ⟨y, hy, rfl⟩
  ·rintro ys s rfl hl hys d hd
   obtain ⟨xs, rfl, hx⟩ := f0 ys fun i y e => by simpa using hys i y e
   rw [List.length_map, bK] at hl
   rw [List.nil_append]
   have hsm := l9 (n := 1) xs fun y hy => Nat.le_of_eq (hx y hy)
   refine eN (ys := xs) (ay _ _ _) (by rw [pO]; omega) ?_
   exact q _ _ (g1.upd hd)
 split
 ·refine cA (v := .int r2) xa (by decide) rfl ?_
  simp
  exact fun b hb => last _ r2 h2 b hb (by simp) (by simp) (by simp) (by simp)
 ·refine cA (v := .int r1) xa (by decide) rfl ?_
  simp
  exact fun b hb => last _ r1 (by omega) b hb (by simp) (by simp) (by simp) (by simp)
end Mine
end
noncomputable section
set_option maxRecDepth 10000
namespace Mine
open PySem PySem.W PyProof.Rows PySem.Calls
theorem Tr.mono {n n' : Nat} {kvs : List (Str × V)} (h : Tr n kvs) (hn : n ≤ n') : Tr n' kvs := ⟨Nat.le_trans h.len hn, h.key, h.val, h.nodup⟩
theorem Tr.out {n : Nat} {kvs : List (Str × V)} (h : Tr n kvs) (x : Str) : Tr n (fY kvs x) :=
 ⟨Nat.le_trans (mY kvs x) h.len, fun q hq => h.key q (iq hq), fun q hq => h.val q (iq hq), jV h.nodup⟩
theorem Tr.put {n : Nat} {kvs : List (Str × V)} (h : Tr n kvs) {x y : Str} (hx : x.length ≤ 300) : Tr (n + 1) (a5 kvs x (.str y)) :=
 ⟨Nat.le_trans (jq kvs x _) (Nat.succ_le_succ h.len), fun q hq => (eg hq).elim (fun e => by rw [e]; exact hx) (h.key q), fun q hq => (eg hq).elim (fun e => by rw [e]; exact ⟨y, rfl⟩) (h.val q), df h.nodup⟩
theorem Tr.same {n : Nat} {kvs : List (Str × V)} (h : Tr n kvs) {x y : Str} (hx : x ∈ ax kvs) : Tr n (a5 kvs x (.str y)) := by
 obtain ⟨q, hq, rfl⟩ := List.mem_map.mp hx
 have any : (kvs.any fun kv => kv.1 = q.1) = true := List.any_eq_true.mpr ⟨q, hq, by simp⟩
 have t := h.put (y := y) (h.key q hq)
 refine ⟨?_, t.key, t.val, t.nodup⟩
 unfold a5
 rw [if_pos any, List.length_map]; exact h.len
theorem Tr.nil : Tr 0 [] := ⟨Nat.le_refl _, fun _ h => (nomatch h), fun _ h => (nomatch h), List.nodup_nil⟩
section
variable {ns : List Int} {σ : ai} {Q : V → ai → Prop}
theorem sY {a : Addr} {x : Str} {kvs : List (Str × V)} {ep : Nat} (h : σ a = some (.dict kvs ep)) (hk : ∀ q ∈ kvs, q.1.length ≤ 300) (hx : x.length ≤ 1000) (q : ∀ b : Bool, Q (.bool b) σ) : sp__law_is_free ns [.ref a, .str x] σ Q := ⟨a, kvs, ep, x, rfl, h, hk, hx, q⟩
theorem rh {a : Addr} {c s : Int} {kvs : List (Str × V)} {ep n : Nat} (h : σ a = some (.dict kvs ep)) (ht : Tr n kvs) (hn : n ≤ 900) (q : nB (Tr (n + 1)) σ Q) : sp__law_grown ns [.ref a, .int c, .int s] σ Q := ⟨a, kvs, ep, c, s, n, rfl, h, ht, hn, q⟩
end
theorem il {kvs : List (Str × V)} {i : Nat} {v : V} (h : (kvs.map fun q => V.str q.1)[i]? = some v) : ∃ y, (ax kvs)[i]? = some y ∧ v = .str y := by
 rw [List.getElem?_map] at h
 obtain ⟨q, hq, rfl⟩ := Option.map_eq_some_iff.mp h
 exact ⟨q.1, by unfold ax; rw [List.getElem?_map, hq]; rfl, rfl⟩
theorem ut (ns : List Int) : ∀ vs σ Q, sp__law_is_free ns vs σ Q → vs.length = 2 ∧ cM ns (aM ["_law_tree", "_law_path"] vs aW) σ (fin Q) := by
 rintro vs σ Q ⟨a, kvs, ep, x, rfl, ha, hk, hx, q⟩
 refine ⟨rfl, ?_⟩
 unfold cM
 rw [aq]
 simp [fe, cz ha]
 refine bp (fun i m σ' => σ' = σ ∧ m "_law_path" = some (.str x)) (fun u m σ' => σ' = σ ∧ u = .bool false)
  (fun i m σ' h => by rw [h.1]; exact ha) _ ?_ ?_ ?_ _ _ ⟨rfl, by simp⟩
 ·rintro i v m σ' Q' hv ⟨rfl, hm⟩ n1 n2 n3
  obtain ⟨y, hy, rfl⟩ := il hv
  have hyl : y.length ≤ 300 := by
   have := List.mem_of_getElem? hy
   obtain ⟨p, hp, rfl⟩ := List.mem_map.mp this
   exact hk p hp
  refine ⟨_, rfl, ?_⟩
  simp [aq, hm]
  refine ⟨by rw [i9]; exact Nat.lt_of_le_of_lt hx (by decide), ?_⟩
  split
  ·exact n3 _ _ _ ⟨rfl, rfl⟩
  ·refine ⟨by rw [i9]; exact Nat.lt_of_le_of_lt hyl (by decide), ?_⟩
   split
   ·exact n3 _ _ _ ⟨rfl, rfl⟩
   ·exact n1 _ _ ⟨rfl, by simp [hm]⟩
 ·rintro m σ' ⟨rfl, hm⟩
  simpa [aq, e8] using q true
 ·rintro u m σ' ⟨rfl, rfl⟩
  simpa using q false
noncomputable def l8 (j : Nat) : Str := Str.ofString "tops" ++ Str.ofString ((j : Int).repr) ++ Str.ofString "/x"
theorem m7 : ∀ j : Nat, j < 200 → (Str.ofString ((j : Int).repr)).length ≤ 8 := by decide +kernel
theorem vu : (Str.ofString "/x").length = 2 := by decide +kernel
theorem vB : (Str.ofString "tops").length = 4 := by decide +kernel
structure TopOk (j : Nat) : Prop where
 lg : (j : Int).natAbs.log2 < 1920
 l1 : (Str.ofString "tops").length + (Str.ofString ((j : Int).repr)).length ≤ 16777216
 l2 : (Str.ofString "tops" ++ Str.ofString ((j : Int).repr)).length + (Str.ofString "/x").length ≤ 16777216
 l3 : (l8 j).length ≤ 300
theorem l7 {j : Nat} (hj : j < 200) : TopOk j := by
 have h1 := m7 j hj
 have h2 := cc (Str.ofString "tops") (Str.ofString ((j : Int).repr))
 have h3 := cc (Str.ofString "tops" ++ Str.ofString ((j : Int).repr)) (Str.ofString "/x")
 have h4 := vu
 have h6 := vB
 have h5 : j.log2 ≤ j := Nat.log2_le_self j
 refine ⟨by rw [Int.natAbs_natCast]; exact Nat.lt_of_le_of_lt h5 (Nat.lt_trans hj (by decide)), by rw [h6]; exact Nat.le_trans (Nat.add_le_add_left h1 4) (by decide), ?_, ?_⟩
 ·rw [h2, h6, h4]; exact Nat.le_trans (Nat.add_le_add_right (Nat.add_le_add_left h1 4) 2) (by decide)
 ·unfold l8
  rw [h3, h2, h6, h4]; exact Nat.le_trans (Nat.add_le_add_right (Nat.add_le_add_left h1 4) 2) (by decide)
theorem s9 (ns : List Int) : ∀ vs σ Q, sp__law_grown ns vs σ Q → vs.length = 3 ∧ dJ ns (aM ["_law_tree", "_law_cell", "_law_shift"] vs aW) σ (fin Q) := by
 rintro vs σ Q ⟨a, kvs, ep, c, sh, n, rfl, ha, ht, hn, q⟩
 refine ⟨rfl, ?_⟩
 have len : kvs.length < 16777216 := Nat.lt_of_le_of_lt (Nat.le_trans ht.len hn) (by decide)
 unfold dJ
 have rest : ∀ (m : aT) (σ₁ : ai) (x : Str) (far : Bool), Grow σ σ₁ → m "_law_tree" = some (.ref a) → m "_law_path" = some (.str x) → m "_law_cell" = some (.int c) → m "_law_shift" = some (.int sh) → m "_law_is_far" = some (.bool far) → x.length ≤ 300 →
   au (cO ns) (au (cN ns) (au (bV ns) aA)) m σ₁ (fin Q) := by
  intro m σ₁ x far g1 mt mp mc ms mf hx
  rw [aq]
  simp [cO, mt]
  refine cx (g1 _ _ ha) fun b eb hb1 => ?_
  have hb : σ b = Option.none := g1.none hb1
  have xb := ay σ₁ b (.dict kvs eb)
  have g2 : Grow σ (a8 σ₁ b (.dict kvs eb)) := g1.upd hb1
  generalize (a8 σ₁ b (.dict kvs eb)) = σ₂ at xb g2 ⊢
  have fin1 : ∀ (m : aT) (σ₃ : ai) kvs' ep', Grow σ σ₃ → m "_law_made" = some (.ref b) → σ₃ b = some (.dict kvs' ep') → Tr (n + 1) kvs' → au (bV ns) aA m σ₃ (fin Q) := by
   intro m σ₃ kvs' ep' g3 hm hd ht'
   rw [aq]
   simp [bV, hm]
   exact q b kvs' ep' σ₃ g3 hb hd ht'
  have put1 : ∀ K : Fl → aT → ai → Prop, (∀ (y : Str) σ₃ ep', Grow σ₂ σ₃ → K .next (put m "_law_made" (.ref b)) (a8 σ₃ b (.dict (a5 kvs x (.str y)) ep'))) → (au (aH bN (aC (sp__law_line_by ns) (ah (an bL (af "_law_cell") (ak (.int 405))) (ah (af "_law_shift") az))) (af "_law_made") (af "_law_path"))
    aA) (put m "_law_made" (.ref b)) σ₂ K := by
   intro K hK
   rw [aq]
   simp [mc, ms, mp]
   intro y σ₃ g3
   exact bF (g3 _ _ xb) len fun ep' => hK y σ₃ ep' g3
  have put2 : ∀ (y : Str) σ₃ ep', Grow σ₂ σ₃ → au (bV ns) aA (put m "_law_made" (.ref b)) (a8 σ₃ b (.dict (a5 kvs x (.str y)) ep')) (fin Q) := fun y σ₃ ep' g3 =>
   fin1 _ _ _ _ ((g2.trans g3).over hb) (by simp) (ay _ _ _) (ht.put hx)
  show au _ _ _ _ _
  rw [aq]
  simp [cN, mp]
  refine fq xb ?_
  rw [bj]
  by_cases hin : x ∈ ax kvs
  ·have h' : x ∈ kvs.map (·.1) := hin
   simp only [h', decide_true, Bool.not_true, bn, Bool.false_eq_true, if_false]
   rw [aq]
   simp [mc]
   split
   ·rw [aq]
    simp [mp, fj xb]
    obtain ⟨v, hv, _⟩ := dl h'
    refine nt xb hv fun ep' => ?_
    exact fin1 _ _ _ _ (g2.over hb) (by simp) (ay _ _ _) ((ht.out x).mono (Nat.le_succ _))
   ·exact put1 _ fun y σ₃ ep' g3 => by simpa using put2 y σ₃ ep' g3
  ·have h' : x ∉ kvs.map (·.1) := hin
   simp only [h', decide_false, Bool.not_false, bn, if_true]
   rw [aq]
   simp [mf]
   split
   ·simpa using fin1 _ _ _ _ g2 (by simp) xb (ht.mono (Nat.le_succ _))
   ·simp [mp]
    refine sY xb ht.key (Nat.le_trans hx (by decide)) fun fr => ?_
    cases fr with
    | true => simpa using put1 _ fun y σ₃ ep' g3 => by simpa using put2 y σ₃ ep' g3
    | false => simpa using fin1 _ _ _ _ g2 (by simp) xb (ht.mono (Nat.le_succ _))
 rw [aq]
 simp [gK]
 intro x σ₁ g1 hx
 have hx : x.length ≤ 300 := Nat.le_trans hx (by decide)
 have xa := g1 _ _ ha
 rw [aq]
 simp [gJ]
 have els : ∀ K : Fl → aT → ai → Prop, (∀ m σ₂, au (cO ns) (au (cN ns) (au (bV ns) aA)) m σ₂ (fin Q) → K .next m σ₂) → (au (b8 (aE (af "_law_is_far")) (au (a7 "_law_path" (an aR (an aR (ak (.str (Str.ofString "tops"))) (aC dP (ah (an a6 (an bL (af "_law_cell") (ak (.int 11))) (an (aG ns) (bC (ah (ak (.int 40)) (ah (ak (.int 170)) az))) (an a6 (an bL (af "_law_cell") (ak (.int 440))) (ak (.int 2))))) az))) (ak (.str (Str.ofString "/x")))))
   aA) aA) aA) (put (put (aM ["_law_tree", "_law_cell", "_law_shift"] [.ref a, .int c, .int sh] aW) "_law_path" (.str x)) "_law_is_far" (.bool (decide (c % 11 = 4)))) σ₁ K := by
  intro K hK
  rw [aq]
  simp
  split
  ·rw [aq]
   simp
   intro d hd
   have xd := ay σ₁ d (.list [.int 40, .int 170])
   have g3 : Grow σ (a8 σ₁ d (.list [.int 40, .int 170])) := g1.upd hd
   generalize (a8 σ₁ d (.list [.int 40, .int 170])) = σ₃ at xd g3 ⊢
   refine ek (m := 2) xd rfl (by decide) fun v hv => ?_
   obtain ⟨N, rfl, n1, n2⟩ : ∃ N : Nat, v = .int N ∧ 0 < N ∧ N ≤ 170 := by
    simp at hv
    rcases hv with rfl | rfl
    ·exact ⟨40, rfl, by decide, by decide⟩
    ·exact ⟨170, rfl, by decide, by decide⟩
   obtain ⟨j, hj, hj2⟩ := rg (c / 11) n1
   obtain ⟨b1, b2, b3, b4⟩ := l7 (j := j) (by omega)
   simp [hj]
   exact ⟨n1, by simpa using b1, b2, b3, hK _ _ (rest _ _ (l8 j) (decide (c % 11 = 4)) g3 (by simp) (by simp [l8]) (by simp) (by simp) (by simp) b4)⟩
  ·exact hK _ _ (rest _ _ x (decide (c % 11 = 4)) g1 (by simp) (by simp) (by simp) (by simp) (by simp) hx)
 rw [aq]
 simp [gI]
 split
 ·simp [nH xa]
  split
  ·rename_i hpos
   split
   ·rw [aq]
    simp [fu xa]
    intro d hd
    have had : a ≠ d := by rintro rfl; rw [xa] at hd; cases hd
    have xa3 : a8 σ₁ d (.list (kvs.map fun q => V.str q.1)) a = some (.dict kvs ep) := by rw [bh had]; exact xa
    simp [nH xa3]
    have hp : 0 < kvs.length := by omega
    refine ⟨hp, ek (ay _ _ _) (List.length_map ..) hp fun v hv => ?_⟩
    obtain ⟨q', hq', rfl⟩ := List.mem_map.mp hv
    exact rest _ _ _ (decide (c % 11 = 4)) (g1.upd hd) (by simp) (by simp) (by simp) (by simp) (by simp) (ht.key q' hq')
   ·exact els _ fun m σ₂ h => by simpa using h
  ·exact els _ fun m σ₂ h => by simpa using h
 ·exact els _ fun m σ₂ h => by simpa using h
end Mine
end
noncomputable section
set_option maxRecDepth 10000
namespace Mine
open PySem PySem.W PyProof.Rows PySem.Calls
inductive GrI (X : String) (n : Nat) (m₀ : aT) (σ σ₀ : ai) (m : aT) (σ' : ai) : Prop
 | mk (b : Addr) (kvs : List (Str × V)) (ep : Nat) (hm : m X = some (.ref b)) (hx : σ' b = some (.dict kvs ep)) (ht : Tr n kvs) (g : Grow σ₀ σ') (hn : σ b = Option.none) (ho : ∀ y, y ≠ X → y ≠ "_law_k" → m y = m₀ y) : GrI X n m₀ σ σ₀ m σ'
theorem jh {ns : List Int} {X : String} {k0 : Int} {m₀ : aT} {σ σ₀ : ai} {sh : Int} {n₀ N : Nat} {b : Addr} {kvs : List (Str × V)} {ep : Nat} {Q : Fl → aT → ai → Prop} (x1 : X ≠ "_law_k") (x2 : X ≠ "_law_script") (x3 : X ≠ "_law_shift") (hsc : m₀ "_law_script" = some .script) (hsh : m₀ "_law_shift" = some (.int sh)) (hk0 : 0 ≤ k0)
  (hm : m₀ X = some (.ref b)) (hb : σ₀ b = some (.dict kvs ep)) (hbn : σ b = Option.none) (g₀ : Grow σ σ₀) (ht : Tr n₀ kvs) (hN : n₀ + N ≤ 900)
  (h : ∀ m σ', GrI X (n₀ + N) m₀ σ σ₀ m σ' → Q .next m σ') :
  fC (.name "_law_k") (fun _ => True) (au (a7 X (aC (sp__law_grown ns) (ah (af X) (ah (aC (sp__law_cell_at ns) (ah (af "_law_script") (ah (an aR (ak (.int k0)) (af "_law_k")) az))) (ah (af "_law_shift") az))))) aA) (ca 0 N) m₀ σ₀ Q := by
 refine bp (fun i m σ' => GrI X (n₀ + i) m₀ σ σ₀ m σ') (fun _ _ _ => False) (fun _ _ _ _ => trivial) _ ?_ ?_ (fun _ _ _ h => h.elim) _ _ ⟨b, kvs, ep, hm, hb, ht, Grow.refl, hbn, fun _ _ _ => rfl⟩
 ·rintro i v m σ' Q' hv ⟨b', kvs', ep', h1, h2, h3, h4, h6, h5⟩ n1 n2 n3
  obtain ⟨hi, rfl⟩ := b5 hv
  refine ⟨_, rfl, ?_⟩
  have e1 : m "_law_script" = some .script := by rw [h5 _ x2.symm (by decide)]; exact hsc
  have e2 : m "_law_shift" = some (.int sh) := by rw [h5 _ x3.symm (by decide)]; exact hsh
  simp [aq, x1, h1, e1, e2]
  refine ⟨by omega, rh h2 h3 (by omega) fun b2 k2 ep2 σ₂ g hn hd ht2 => ?_⟩
  exact n1 _ _ ⟨b2, k2, ep2, by simp, hd, ht2, h4.trans g, g₀.none (h4.none hn), fun y hy hk => by simp [hy, hk]; exact h5 y hy hk⟩
 ·intro m σ' I
  rw [bK] at I
  exact h m σ' I
inductive TpI (b : Addr) (n : Nat) (m₀ : aT) (σ₀ : ai) (m : aT) (σ' : ai) : Prop
 | mk (kvs : List (Str × V)) (ep : Nat) (hx : σ' b = some (.dict kvs ep)) (ht : Tr n kvs) (k : ∀ c o, c ≠ b → σ₀ c = some o → σ' c = some o) (ho : ∀ y, y ≠ "_law_j" → m y = m₀ y) : TpI b n m₀ σ₀ m σ'
theorem qd {ns : List Int} {m₀ : aT} {σ₀ : ai} {sh : Int} {n₀ N : Nat} {b : Addr} {kvs : List (Str × V)} {ep : Nat} {Q : Fl → aT → ai → Prop} (hsh : m₀ "_law_shift" = some (.int sh)) (hm : m₀ "_law_elder" = some (.ref b)) (hb : σ₀ b = some (.dict kvs ep)) (ht : Tr n₀ kvs) (hN2 : N ≤ 170) (hn0 : n₀ ≤ 10)
  (h : ∀ m σ', TpI b (n₀ + N) m₀ σ₀ m σ' → Q .next m σ') :
  fC (.name "_law_j") (fun _ => True) (au (b8 (aE (an dq (an aR (ak (.str (Str.ofString "tops"))) (aC dP (ah (af "_law_j") az))) (af "_law_elder"))) (au (aH bN (aC (sp__law_line_by ns) (ah (an a6 (af "_law_j") (ak (.int 3))) (ah (af "_law_shift") az))) (af "_law_elder") (an aR (an aR (ak (.str (Str.ofString "tops"))) (aC dP (ah (af "_law_j") az))) (ak (.str (Str.ofString "/x")))))
 aA) aA)
 aA) (ca 0 N) m₀ σ₀ Q := by
 refine bp (fun i m σ' => TpI b (n₀ + i) m₀ σ₀ m σ') (fun _ _ _ => False) (fun _ _ _ _ => trivial) _ ?_ ?_ (fun _ _ _ h => h.elim) _ _ ⟨kvs, ep, hb, ht, fun _ _ _ e => e, fun _ _ => rfl⟩
 ·rintro i v m σ' Q' hv ⟨kvs', ep', h2, h3, h4, h5⟩ n1 n2 n3
  obtain ⟨hi, rfl⟩ := b5 hv
  refine ⟨_, rfl, ?_⟩
  have e1 : m "_law_elder" = some (.ref b) := by rw [h5 _ (by decide)]; exact hm
  have e2 : m "_law_shift" = some (.int sh) := by rw [h5 _ (by decide)]; exact hsh
  obtain ⟨b1, b2, b3, b4⟩ := l7 (j := i) (by omega)
  have len := h3.len
  simp [aq, e1]
  refine ⟨by simpa using b1, b2, fq h2 ?_⟩
  try simp
  split
  ·simp [e2, e1]
   intro y σ₂ g
   refine ⟨by simpa using b1, b2, b3, ?_⟩
   refine bF (g _ _ h2) (by omega) fun ep2 => ?_
   exact n1 _ _ ⟨_, ep2, ay _ _ _, h3.put b4, fun c o hc e => by rw [bh hc]; exact g _ _ (h4 c o hc e), fun y hy => by simp [hy]; exact h5 y hy⟩
  ·exact n1 _ _ ⟨kvs', ep', h2, h3.mono (Nat.le_succ _), h4, fun y hy => by simp [hy]; exact h5 y hy⟩
 ·intro m σ' I
  rw [bK] at I
  exact h m σ' I
inductive LrI (b c : Addr) (m₀ : aT) (σ₀ : ai) (m : aT) (σ' : ai) : Prop
 | mk (kb kc : List (Str × V)) (e1 e2 : Nat) (hb : σ' b = some (.dict kb e1)) (hc : σ' c = some (.dict kc e2)) (tb : Tr 190 kb) (tc : Tr 190 kc) (k : ∀ z o, z ≠ b → z ≠ c → σ₀ z = some o → σ' z = some o) (ho : ∀ y, y ≠ "_law_j" → y ≠ "_law_path" → m y = m₀ y) : LrI b c m₀ σ₀ m σ'
theorem vN : (Str.ofString "right").length = 5 := by decide +kernel
theorem tv {ns : List Int} {m₀ : aT} {σ₀ : ai} {F N : Nat} {b c : Addr} {kb kc : List (Str × V)} {e1 e2 : Nat} {Q : Fl → aT → ai → Prop} (mb : m₀ "_law_one" = some (.ref b)) (mc : m₀ "_law_other" = some (.ref c)) (hb : σ₀ b = some (.dict kb e1)) (hc : σ₀ c = some (.dict kc e2)) (hbc : b ≠ c) (tb : Tr 190 kb) (tc : Tr 190 kc) (hF : F + N ≤ 190)
  (h : ∀ m σ', LrI b c m₀ σ₀ m σ' → Q .next m σ') :
  fC (.name "_law_j") (fun _ => True) (au (a7 "_law_path" (an aR (an aR (ak (.str (Str.ofString "tops"))) (aC dP (ah (af "_law_j") az))) (ak (.str (Str.ofString "/x")))))
 (au (b8 (dD (aE (an dQ (af "_law_path") (af "_law_one"))) (dD (aE (an dQ (af "_law_path") (af "_law_other"))) tT)) (au (aH bN (ak (.str (Str.ofString "left"))) (af "_law_one") (af "_law_path"))
 (au (aH bN (an aR (ak (.str (Str.ofString "right"))) (aC dP (ah (an a6 (af "_law_j") (ak (.int 2))) az))) (af "_law_other") (af "_law_path"))
 aA)) aA)
 aA)) (ca (F : Int) N) m₀ σ₀ Q := by
 refine bp (fun i m σ' => LrI b c m₀ σ₀ m σ') (fun _ _ _ => False) (fun _ _ _ _ => trivial) _ ?_ (fun m σ' I => h m σ' I) (fun _ _ _ h => h.elim) _ _ ⟨kb, kc, e1, e2, hb, hc, tb, tc, fun _ _ _ _ e => e, fun _ _ _ => rfl⟩
 rintro i v m σ' Q' hv ⟨kb', kc', f1, f2, h1, h2, h3, h4, h5, h6⟩ n1 n2 n3
 obtain ⟨hi, rfl⟩ := b5 hv
 refine ⟨_, rfl, ?_⟩
 obtain ⟨j, hj, hj2⟩ : ∃ j : Nat, (F : Int) + i = j ∧ j < 200 := ⟨F + i, by omega, by omega⟩
 rw [hj]
 have w1 : m "_law_one" = some (.ref b) := (h6 _ (by decide) (by decide)).trans mb
 have w2 : m "_law_other" = some (.ref c) := (h6 _ (by decide) (by decide)).trans mc
 obtain ⟨b1, b2, b3, b4⟩ := l7 hj2
 have l3 := h3.len
 have l4 := h4.len
 have locs : ∀ (v w : V) y, y ≠ "_law_j" → y ≠ "_law_path" → put (put m "_law_j" v) "_law_path" w y = m₀ y := fun v w y y1 y2 => by simp [y1, y2]; exact h6 y y1 y2
 have skip := n1 _ _ ⟨kb', kc', f1, f2, h1, h2, h3, h4, h5, locs (.int j) (.str (l8 j))⟩
 rw [aq]
 simp
 refine ⟨by simpa using b1, b2, b3, ?_⟩
 rw [aq]
 simp [w1, w2]
 refine em h1 ?_
 rw [bj]
 by_cases hin : l8 j ∈ ax kb'
 ·simp only [decide_eq_true (show (Str.ofString "tops" ++ Str.ofString ((j : Int).repr) ++ Str.ofString "/x") ∈ kb'.map (·.1) from hin), bn, if_true]
  refine em h2 ?_
  rw [bj]
  by_cases hin2 : l8 j ∈ ax kc'
  ·simp only [decide_eq_true (show (Str.ofString "tops" ++ Str.ofString ((j : Int).repr) ++ Str.ofString "/x") ∈ kc'.map (·.1) from hin2), bn, if_true]
   rw [aq]
   simp [w1, w2]
   refine bF h1 (by omega) fun ep1 => ?_
   rw [aq]
   obtain ⟨r, hr, hr2⟩ := rg (j : Int) (m := 2) (by decide)
   have hr : (j : Int) % 2 = r := hr
   obtain ⟨c1, c2, _, _⟩ := l7 (j := r) (by omega)
   simp [w1, w2, hr]
   refine ⟨by simpa using c1, by rw [vN]; exact Nat.le_trans (Nat.add_le_add_left (m7 r (by omega)) 5) (by decide), ?_⟩
   refine bF (kvs := kc') (ep := f2) (by rw [bh hbc.symm]; exact h2) (by omega) fun ep2 => ?_
   refine n1 _ _ ⟨_, _, ep1, ep2, by rw [bh hbc]; exact ay _ _ _, ay _ _ _, h3.same hin, h4.same hin2, fun z o z1 z2 e => by rw [bh z2, bh z1]; exact h5 z o z1 z2 e, locs _ _⟩
  ·simp only [decide_eq_false (show (Str.ofString "tops" ++ Str.ofString ((j : Int).repr) ++ Str.ofString "/x") ∉ kc'.map (·.1) from hin2), bn, Bool.false_eq_true, if_false]
   simpa [l8] using skip
 ·simp only [decide_eq_false (show (Str.ofString "tops" ++ Str.ofString ((j : Int).repr) ++ Str.ofString "/x") ∉ kb'.map (·.1) from hin), bn, Bool.false_eq_true, if_false]
  simpa [l8] using skip
noncomputable def nK : List Int → LT
 | [] => az
 | i :: l => ah (ak (.int i)) (nK l)
theorem nJ {m : aT} {σ : ai} : ∀ (l : List Int) {Q : List V → ai → Prop}, nK l m σ Q = Q (l.map .int) σ
 | [], Q => rfl
 | i :: l, Q => by show nK l m σ (fun vs σ' => Q (.int i :: vs) σ') = _; rw [nJ l]; rfl
noncomputable def kh : List Int := [0, 40, 0, 0, 0, 0, 170, 0, 0, 40, 0, 0, 0, 0, 0, 0]
theorem rA {ns : List Int} {m : aT} {σ : ai} {c : Int} {Q : Fl → aT → ai → Prop} {l : List Int} {B : ST} (hs : m "_law_cell" = some (.int c)) (h : l.length ≤ 1000 ∧ dF (l.map .int) σ fun a σ₁ => aG ns a (V.int (c / 7 % 16)) σ₁ fun v σ₁ => iw [v] σ₁ fun items inv σ' => fC (Tgt.name "_law_j") inv B items m σ' Q) :
  (dp (.name "_law_j") (ce (ah (an (aG ns) (bC (nK l)) (an a6 (an bL (af "_law_cell") (ak (.int 7))) (ak (.int 16)))) az)) B) m σ Q := by
 simp [nJ, hs]
 exact h
theorem vD (ns : List Int) : gw ns = (dp (.name "_law_j") (ce (ah (an (aG ns) (bC (nK kh)) (an a6 (an bL (af "_law_cell") (ak (.int 7))) (ak (.int 16)))) az)) (au (b8 (aE (an dq (an aR (ak (.str (Str.ofString "tops"))) (aC dP (ah (af "_law_j") az))) (af "_law_elder"))) (au (aH bN (aC (sp__law_line_by ns) (ah (an a6 (af "_law_j") (ak (.int 3))) (ah (af "_law_shift") az))) (af "_law_elder") (an aR (an aR (ak (.str (Str.ofString "tops"))) (aC dP (ah (af "_law_j") az))) (ak (.str (Str.ofString "/x")))))
 aA) aA)
 aA)) := rfl
theorem rP {v : V} (h : v ∈ kh.map V.int) : ∃ N : Nat, v = .int N ∧ N ≤ 170 := by
 obtain ⟨i, hi, rfl⟩ := List.mem_map.mp h
 have : ∀ i ∈ kh, 0 ≤ i ∧ i ≤ 170 := by decide
 obtain ⟨h1, h2⟩ := this i hi
 exact ⟨i.toNat, by rw [Int.toNat_of_nonneg h1], by omega⟩
theorem s6 (ns : List Int) : ∀ vs σ Q, sp__law_trees ns vs σ Q → vs.length = 1 ∧ dH ns (aM ["_law_script"] vs aW) σ (fin Q) := by
 rintro vs σ Q ⟨z, rfl, rfl, q⟩
 refine ⟨rfl, ?_⟩
 unfold dH
 rw [aq]
 simp [gE]
 generalize cell ns 0 = sh
 rw [aq]
 simp [gz]
 generalize cell ns 1 = c
 rw [aq]
 simp [gy]
 intro a ea ha
 have xa := ay σ a (.dict [] ea)
 have g0 : Grow σ (a8 σ a (.dict [] ea)) := Grow.refl.upd ha
 generalize (a8 σ a (.dict [] ea)) = σ₁ at xa g0 ⊢
 show au _ _ _ _ _
 rw [aq]
 obtain ⟨r7, e7, h7⟩ := rg c (m := 7) (by decide)
 have e7 : c % 7 = r7 := e7
 simp [gx, e7]
 intro l hl
 have xl := ay σ₁ l (.list [.int 0, .int r7])
 have g1 : Grow σ₁ (a8 σ₁ l (.list [.int 0, .int r7])) := Grow.refl.upd hl
 generalize (a8 σ₁ l (.list [.int 0, .int r7])) = σ₂ at xl g1 ⊢
 refine ek (m := 2) xl rfl (by decide) fun v hv => ?_
 obtain ⟨N, rfl, hN⟩ : ∃ N : Nat, v = .int N ∧ N ≤ 6 := by
  simp at hv
  rcases hv with rfl | rfl
  ·exact ⟨0, rfl, by decide⟩
  ·exact ⟨r7, rfl, by omega⟩
 simp
 refine ⟨by omega, ?_⟩
 refine jh (sh := sh) (σ := σ) (n₀ := 0) (by decide) (by decide) (by decide) (by simp) (by simp) (by decide) (by simp) (g1 _ _ xa) ha (g0.trans g1) Tr.nil (by omega) fun m₂ σ₃ ⟨a0, kvs, ep, mb, xb, tb, g2, hbn, ho⟩ => ?_
 have tb : Tr 6 kvs := tb.mono (by omega)
 have gb := (g0.trans g1).trans g2
 have s1 : m₂ "_law_script" = some .script := by rw [ho _ (by decide) (by decide)]; simp
 have s2 : m₂ "_law_shift" = some (.int sh) := by rw [ho _ (by decide) (by decide)]; simp
 have s3 : m₂ "_law_cell" = some (.int c) := by rw [ho _ (by decide) (by decide)]; simp
 clear ho g0 g1 g2 xl xa
 rw [be, aq, vD]
 refine rA s3 ⟨by decide, fun d hd => ?_⟩
 have gd := gb.upd (o := .list (kh.map .int)) hd
 have xb2 : a8 σ₃ d (.list (kh.map .int)) a0 = some (.dict kvs ep) := (Grow.refl.upd hd) _ _ xb
 have xd := ay σ₃ d (.list (kh.map .int))
 generalize (a8 σ₃ d (.list (kh.map .int))) = σ₄ at gd xb2 xd ⊢
 refine ek (m := 16) xd rfl (by decide) fun v hv => ?_
 obtain ⟨N, rfl, hN⟩ := rP hv
 simp only [tg]
 refine ⟨⟨by omega, by omega⟩, ?_⟩
 refine qd (sh := sh) s2 mb xb2 tb hN (by decide) fun m₅ σ₅ ⟨ka, e1, xa5, ta, k5, ho5⟩ => ?_
 have ta : Tr 176 ka := ta.mono (by omega)
 have g5 : Grow σ σ₅ := fun z o e => k5 z o (by rintro rfl; rw [hbn] at e; cases e) (gd _ _ e)
 replace s1 := (ho5 _ (by decide)).trans s1
 replace s2 := (ho5 _ (by decide)).trans s2
 replace s3 := (ho5 _ (by decide)).trans s3
 replace mb := (ho5 _ (by decide)).trans mb
 clear ho5 k5 gd xb2 xb gb tb
 rw [be, aq]
 simp [gv, mb]
 refine cx xa5 fun b1 eb hb1 => ?_
 have xb6 := ay σ₅ b1 (.dict ka eb)
 have g6 : Grow σ₅ (a8 σ₅ b1 (.dict ka eb)) := Grow.refl.upd hb1
 generalize (a8 σ₅ b1 (.dict ka eb)) = σ₆ at xb6 g6 ⊢
 show au _ _ _ _ _
 rw [aq]
 obtain ⟨r9, e9, h9⟩ := rg (cell ns 2) (m := 9) (by decide)
 have e9 : cell ns 2 % 9 = r9 := e9
 simp [gu, s1, e9]
 refine ⟨by omega, ?_⟩
 refine jh (sh := sh) (σ := σ₅) (n₀ := 176) (by decide) (by decide) (by decide) (by simp [s1]) (by simp [s2]) (by decide) (by simp) xb6 hb1 g6 ta (by omega) fun m₇ σ₇ ⟨b, kb, e2, mb7, xb7, tb, g7, hbn7, ho⟩ => ?_
 have tb : Tr 190 kb := tb.mono (by omega)
 have g57 := g6.trans g7
 replace s1 : m₇ "_law_script" = some .script := by rw [ho _ (by decide) (by decide)]; simp [s1]
 replace s2 : m₇ "_law_shift" = some (.int sh) := by rw [ho _ (by decide) (by decide)]; simp [s2]
 replace s3 : m₇ "_law_cell" = some (.int c) := by rw [ho _ (by decide) (by decide)]; simp [s3]
 replace mb : m₇ "_law_elder" = some (.ref a0) := by rw [ho _ (by decide) (by decide)]; simp [mb]
 have xa7 := g57 _ _ xa5
 clear ho g6 g7 xb6
 rw [be, aq]
 simp [gt, mb]
 refine cx xa7 fun c1 ec hc1 => ?_
 have xc8 := ay σ₇ c1 (.dict ka ec)
 have g8 : Grow σ₇ (a8 σ₇ c1 (.dict ka ec)) := Grow.refl.upd hc1
 generalize (a8 σ₇ c1 (.dict ka ec)) = σ₈ at xc8 g8 ⊢
 show au _ _ _ _ _
 rw [aq]
 obtain ⟨r9, e9, h9⟩ := rg (cell ns 3) (m := 9) (by decide)
 have e9 : cell ns 3 % 9 = r9 := e9
 simp [gq, s1, e9]
 refine ⟨by omega, ?_⟩
 refine jh (sh := sh) (σ := σ₇) (n₀ := 176) (by decide) (by decide) (by decide) (by simp [s1]) (by simp [s2]) (by decide) (by simp) xc8 hc1 g8 ta (by omega) fun m₉ σ₉ ⟨c2, kc, e3, mc9, xc9, tc, g9, hcn9, ho⟩ => ?_
 have tc : Tr 190 kc := tc.mono (by omega)
 have g79 := g8.trans g9
 replace s1 : m₉ "_law_script" = some .script := by rw [ho _ (by decide) (by decide)]; simp [s1]
 replace s3 : m₉ "_law_cell" = some (.int c) := by rw [ho _ (by decide) (by decide)]; simp [s3]
 replace mb : m₉ "_law_elder" = some (.ref a0) := by rw [ho _ (by decide) (by decide)]; simp [mb]
 have mo : m₉ "_law_one" = some (.ref b) := by rw [ho _ (by decide) (by decide)]; simp [mb7]
 have xa9 := g79 _ _ xa7
 have xb9 := g79 _ _ xb7
 have hbc : b ≠ c2 := by rintro rfl; rw [xb7] at hcn9; cases hcn9
 have g59 := g57.trans g79
 clear ho g8 g9 xc8 xa7 xb7 mb7
 rw [be, aq]
 obtain ⟨F, e150, hF⟩ := rg (cell ns 2 / 9) (m := 150) (by decide)
 have e150 : cell ns 2 / 9 % 150 = F := e150
 simp [fQ, s1, e150]
 rw [aq]
 obtain ⟨r2, er2, h2⟩ := rg (c / 112) (m := 2) (by decide)
 have er2 : c / 112 % 2 = r2 := er2
 simp [fP, s3, er2]
 refine ⟨.inl (by unfold ey; decide), ⟨by omega, by omega⟩, ?_⟩
 have hr : ((F : Int) + 40 * (r2 : Int)).toNat - F = 40 * r2 := by omega
 rw [hr]
 refine tv (ns := ns) (F := F) (N := 40 * r2) (by simp [mo]) (by simp [mc9]) xb9 xc9 hbc tb tc (by omega) fun m σ' ⟨kb', kc', f1, f2, y1, y2, y3, y4, y5, y6⟩ => ?_
 have me : m "_law_elder" = some (.ref a0) := (y6 _ (by decide) (by decide)).trans (by simp [mb])
 have mo2 : m "_law_one" = some (.ref b) := (y6 _ (by decide) (by decide)).trans (by simp [mo])
 have mc2 : m "_law_other" = some (.ref c2) := (y6 _ (by decide) (by decide)).trans (by simp [mc9])
 have k2 : ∀ z o, σ₅ z = some o → σ' z = some o := fun z o e => y5 z o (by rintro rfl; rw [hbn7] at e; cases e) (by rintro rfl; rw [g57.none hcn9] at e; cases e) (g59 _ _ e)
 rw [be, aq]
 simp [fO, me, mo2, mc2]
 exact q _ b c2 ka kb' kc' e1 f1 f2 σ' (fun z o e => k2 z o (g5 z o e)) (k2 _ _ xa5) y1 y2 (ta.mono (by decide)) (y3.mono (by decide)) (y4.mono (by decide))
end Mine
end
noncomputable section
set_option maxRecDepth 10000
set_option maxHeartbeats 1000000
namespace Mine
open PySem PySem.W PyProof.Rows PySem.Calls
section
variable {σ : ai} {Q : V → ai → Prop} {K : List Str} {kvs ka kb kc : List (Str × V)} {x : Str}
@[simp] theorem uS {a b : Option Str} : bk (dt a) (dt b) σ Q = Q (.bool (decide (a = b))) σ := by
 cases a <;> cases b <;> simp [dt]
@[simp] theorem xm {a b : Option Str} : cb (dt a) (dt b) σ Q = Q (.bool (!decide (a = b))) σ := by
 cases a <;> cases b <;> simp [dt]
theorem po (h : x ∉ ax kvs) : dm kvs x = Option.none := by
 have h' : x ∉ kvs.map (·.1) := h
 have := bj kvs x
 rw [decide_eq_false h', Option.isSome_eq_false_iff, Option.isNone_iff_eq_none] at this
 exact this
theorem bo (h : x ∉ ax kvs) : gS kvs x = Option.none := by
 unfold gS; rw [po h]
theorem se (h : In0 K kvs) (hx : x ∈ ax kvs) : ∃ y, dm kvs x = some (.str y) ∧ gS kvs x = some y := by
 obtain ⟨v, h1, h2⟩ := dl (show x ∈ kvs.map (·.1) from hx)
 obtain ⟨y, hy⟩ := h.val _ h2
 have hy : v = .str y := hy
 subst hy
 exact ⟨y, h1, by unfold gS; rw [h1]⟩
theorem uP (h : In0 K kvs) : gS kvs x = Option.none ↔ x ∉ ax kvs :=
 ⟨fun e hx => (by obtain ⟨y, _, h2⟩ := se h hx; rw [h2] at e; cases e), bo⟩
theorem wf (h : In0 K kvs) : (dm kvs x).getD .none = dt (gS kvs x) := by
 by_cases hx : x ∈ ax kvs
 ·obtain ⟨y, h1, h2⟩ := se h hx
  rw [h1, h2]; rfl
 ·rw [bo hx, po hx]; rfl
theorem bZ {a : Addr} {ep : Nat} (h : σ a = some (.dict kvs ep)) (t : In0 K kvs) (q : Q (dt (gS kvs x)) σ) : bi (.ref a) σ ∧ bX [.ref a, .str x] σ Q :=
 ⟨by rw [fj h]; trivial, nS h (by rw [wf t]; exact q)⟩
end
theorem aJ {xs : List String} {m : aT} {x y : String} {v : V} (hy : y ∉ xs) (hx : x ∈ xs) : put m x v y = m y := fp fun e => hy (e ▸ hx)
structure Lp (t : Addr) (o : AObj) (xs : List String) (m₀ : aT) (σ₀ : ai) (m : aT) (σ' : ai) : Prop where
 s : ∀ d, d ≠ t → σ' d = σ₀ d
 x : σ' t = some o
 m : ∀ y, y ∉ xs → m y = m₀ y
theorem Lp.set {t : Addr} {o o' : AObj} {xs : List String} {m₀ m m' : aT} {σ₀ σ' : ai} (I : Lp t o xs m₀ σ₀ m σ') (h : ∀ y, y ∉ xs → m' y = m y) : Lp t o' xs m₀ σ₀ m' (a8 σ' t o') :=
 ⟨fun d hd => by rw [bh hd]; exact I.s d hd, ay _ _ _, fun y hy => (h y hy).trans (I.m y hy)⟩
theorem Lp.at {t : Addr} {o o' : AObj} {xs : List String} {m₀ m m' : aT} {σ₀ σ' : ai} (I : Lp t o xs m₀ σ₀ m σ') (e : o = o') (h : ∀ y, y ∉ xs → m' y = m y) : Lp t o' xs m₀ σ₀ m' σ' :=
 ⟨I.s, e ▸ I.x, fun y hy => (h y hy).trans (I.m y hy)⟩
theorem Lp.grow {t : Addr} {o : AObj} {xs : List String} {m₀ m : aT} {σ σ₀ σ' : ai} (I : Lp t o xs m₀ σ₀ m σ') (ht : σ t = Option.none) (g : Grow σ σ₀) : Grow σ σ' := fun d o' e => by
 rw [I.s d (by rintro rfl; rw [ht] at e; cases e)]; exact g d o' e
structure Fnd (K : List Str) (fk : List (Str × V)) (S : List Str) : Prop where
 nodup : (ax fk).Nodup
 mem : ∀ x, x ∈ ax fk ↔ x ∈ S
 sub : ∀ x ∈ S, x ∈ K
theorem Fnd.len {K S : List Str} {fk : List (Str × V)} (h : Fnd K fk S) (hK : Kp K) : fk.length ≤ 1000 := by
 have := h.nodup.length_le_of_subset fun x hx => h.sub x ((h.mem x).mp hx)
 unfold ax at this
 rw [List.length_map] at this
 exact Nat.le_trans this hK.few
theorem Fnd.put {K S : List Str} {fk : List (Str × V)} {x : Str} {v : V} (h : Fnd K fk S) (hx : x ∈ K) : Fnd K (a5 fk x v) (S ++ [x]) :=
 ⟨df h.nodup, fun z => (cj _ _ _ z).trans (by
   rw [List.mem_append, List.mem_singleton]
   exact ⟨fun e => e.elim .inr fun e => .inl ((h.mem z).mp e), fun e => e.elim (fun e => .inr ((h.mem z).mpr e)) .inl⟩), fun z hz => by
   rcases List.mem_append.mp hz with e | e
   ·exact h.sub z e
   ·rw [List.mem_singleton.mp e]; exact hx⟩
inductive FndI (K : List Str) (t : Addr) (xs : List String) (m₀ : aT) (σ₀ : ai) (S : List Str) (m : aT) (σ' : ai) : Prop
 | mk (fk : List (Str × V)) (ep : Nat) (l : Lp t (.dict fk ep) xs m₀ σ₀ m σ') (F : Fnd K fk S) : FndI K t xs m₀ σ₀ S m σ'
theorem qr {m₀ : aT} {σ₀ : ai} {K S : List Str} {a t : Addr} {fk kvs : List (Str × V)} {ef ep : Nat} {Q : Fl → aT → ai → Prop} (hK : Kp K) (ha : σ₀ a = some (.dict fk ef)) (ht : σ₀ t = some (.dict kvs ep)) (hat : a ≠ t) (hm : m₀ "found" = some (.ref a)) (hn : Fnd K fk S) (tk : In0 K kvs)
  (h : ∀ m σ', FndI K a ["path"] m₀ σ₀ (S ++ ax kvs) m σ' → Q .next m σ') :
  fC (.name "path") (fun σ => σ t = some (.dict kvs ep)) (au (aH bN (ak (.bool true)) (af "found") (af "path")) aA) (kvs.map fun q => .str q.1) m₀ σ₀ Q := by
 refine bp (fun i m σ' => FndI K a ["path"] m₀ σ₀ (S ++ (ax kvs).take i) m σ') (fun _ _ _ => False)
  (fun i m σ' ⟨_, _, l, _⟩ => by rw [l.s t hat.symm]; exact ht) _ ?_ ?_ (fun _ _ _ h => h.elim) _ _ ⟨fk, ef, ⟨fun _ _ => rfl, ha, fun _ _ => rfl⟩, by rw [List.take_zero, List.append_nil]; exact hn⟩
 ·rintro i v m σ' Q' hv ⟨fk', ef', l, F⟩ n1 n2 n3
  obtain ⟨y, hy, rfl⟩ := il hv
  refine ⟨_, rfl, ?_⟩
  simp [aq, l.m "found" (by decide), hm]
  refine bF l.x (Nat.lt_of_le_of_lt (F.len hK) (by decide)) fun ep2 => ?_
  refine n1 _ _ ⟨_, ep2, l.set fun y hy => aJ hy (by decide), ?_⟩
  rw [List.take_add_one, hy, ← List.append_assoc]
  exact F.put (tk.sub _ (List.mem_of_getElem? hy))
 ·rintro m σ' I
  rw [List.take_of_length_le (by simp [ax])] at I
  exact h m σ' I
theorem vK (ns : List Int) : ∀ vs σ Q, sp_all_paths ns vs σ Q → vs.length = 3 ∧ ew ns (aM ["elder", "one", "other"] vs aW) σ (fin Q) := by
 rintro vs σ Q ⟨K, a, b, c, ka, kb, kc, e1, e2, e3, rfl, ⟨xa, xb, xc, ta, tb, tc, hu⟩, q⟩
 refine ⟨rfl, ?_⟩
 unfold ew
 rw [aq]
 simp [hW]
 intro f ef hf
 have fa : a ≠ f := by rintro rfl; rw [xa] at hf; cases hf
 have fb : b ≠ f := by rintro rfl; rw [xb] at hf; cases hf
 have fc : c ≠ f := by rintro rfl; rw [xc] at hf; cases hf
 show au _ _ _ _ _
 rw [aq]
 simp [hV]
 intro l hl
 have fl : l ≠ f := by rintro rfl; simp [Mine.a8] at hl
 rw [bB (ay _ _ _)]
 have hln : σ l = Option.none := by rw [bh fl] at hl; exact hl
 have al : a ≠ l := by rintro rfl; rw [xa] at hln; cases hln
 have bl : b ≠ l := by rintro rfl; rw [xb] at hln; cases hln
 have cl' : c ≠ l := by rintro rfl; rw [xc] at hln; cases hln
 generalize hσ : a8 (a8 σ f (.dict [] ef)) l (.list [.ref a, .ref b, .ref c]) = σ₁
 have s1 : ∀ d, d ≠ f → d ≠ l → σ₁ d = σ d := fun d h1 h2 => by rw [← hσ, bh h2, bh h1]
 have s2 : σ₁ f = some (.dict [] ef) := by rw [← hσ, bh fl.symm, ay]
 have s3 : σ₁ l = some (.list [.ref a, .ref b, .ref c]) := by rw [← hσ, ay]
 clear hσ
 refine bp (fun i m σ' => FndI K f ["tree", "path"] _ σ₁ (([ka, kb, kc].take i).flatMap ax) m σ') (fun _ _ _ => False)
  (fun i m σ' ⟨_, _, L, _⟩ => by rw [L.s l fl]; exact s3) _ ?_ ?_ (fun _ _ _ h => h.elim) _ _ ⟨[], ef, ⟨fun _ _ => rfl, s2, fun _ _ => rfl⟩, ⟨List.nodup_nil, fun _ => Iff.rfl, fun _ h => (nomatch h)⟩⟩
 ·rintro i v m σ' Q' hv ⟨fk, ef', L, F⟩ n1 n2 n3
  refine ⟨_, rfl, ?_⟩
  have h6 : m "found" = some (.ref f) := (L.m _ (by decide)).trans rfl
  have go : ∀ d kvs ep, d ≠ f → d ≠ l → σ d = some (.dict kvs ep) → In0 K kvs → v = .ref d → [ka, kb, kc][i]? = some kvs → (au (dp (.name "path") (jx ns (af "tree")) (au (aH bN (ak (.bool true)) (af "found") (af "path")) aA)) aA) (put m "tree" v) σ' Q' := by
   rintro d kvs ep hdf hdl hd ht rfl hk
   have hd' : σ' d = some (.dict kvs ep) := by rw [L.s d hdf, s1 d hdf hdl]; exact hd
   simp [aq, cz hd']
   refine qr hu L.x hd' hdf.symm h6 F ht fun m₂ σ₂ ⟨fk2, ef2, L2, F2⟩ => ?_
   try simp
   refine n1 _ _ ⟨fk2, ef2, ⟨fun c hc => by rw [L2.s c hc]; exact L.s c hc, L2.x, fun y hy => (L2.m y fun e => hy (List.mem_cons_of_mem _ e)).trans ((aJ hy (by decide)).trans (L.m y hy))⟩, ?_⟩
   rw [List.take_add_one, hk, List.flatMap_append]
   simpa using F2
  match i, hv with
  | 0, hv => simp at hv; exact go a ka e1 fa al xa ta hv.symm rfl
  | 1, hv => simp at hv; exact go b kb e2 fb bl xb tb hv.symm rfl
  | 2, hv => simp at hv; exact go c kc e3 fc cl' xc tc hv.symm rfl
  | n + 3, hv => simp at hv
 ·rintro m σ' ⟨fk, ef', L, F⟩
  have h6 : m "found" = some (.ref f) := (L.m _ (by decide)).trans rfl
  have h1 := L.x
  rw [be, aq]
  simp [hU, h6, h1]
  intro ks hp r hr
  have hrf : r ≠ f := by rintro rfl; rw [h1] at hr; cases hr
  have hrn : σ r = Option.none := by
   by_cases hrl : r = l
   ·rw [hrl]; exact hln
   ·rw [← s1 r hrf hrl, ← L.s r hrf]; exact hr
  refine q ks ⟨hp.nodup_iff.mpr F.nodup, fun x => hp.mem_iff.trans ((F.mem x).trans (by simp))⟩ r _ (fun d o hd => ?_) hrn (ay _ _ _)
  have d1 : d ≠ f := by rintro rfl; rw [hf] at hd; cases hd
  have d2 : d ≠ l := by rintro rfl; rw [hln] at hd; cases hd
  have d3 : d ≠ r := by rintro rfl; rw [hrn] at hd; cases hd
  rw [bh d3, L.s d d1, s1 d d1 d2]; exact hd
theorem de {ks : List Str} {i : Nat} {v : V} (h : (ks.map V.str)[i]? = some v) : ∃ y, ks[i]? = some y ∧ v = .str y := by
 rw [List.getElem?_map] at h
 obtain ⟨q, hq, rfl⟩ := Option.map_eq_some_iff.mp h
 exact ⟨q, hq, rfl⟩
section
variable {ns : List Int} {K ks : List Str} {σ σ' : ai} {Q : V → ai → Prop} {a b c : Addr} {ka kb kc : List (Str × V)} {e1 e2 e3 : Nat}
theorem D3.grow (d : D3 K a b c ka kb kc e1 e2 e3 σ) (g : Grow σ σ') : D3 K a b c ka kb kc e1 e2 e3 σ' := ⟨g _ _ d.xa, g _ _ d.xb, g _ _ d.xc, d.ta, d.tb, d.tc, d.un⟩
theorem D3.but (d : D3 K a b c ka kb kc e1 e2 e3 σ) {t : Addr} (ht : σ t = Option.none) {σ₂ : ai} (g : Grow σ σ₂) (h : ∀ z, z ≠ t → σ' z = σ₂ z) : D3 K a b c ka kb kc e1 e2 e3 σ' :=
 have ne : ∀ {z o}, σ z = some o → σ' z = some o := fun {z o} e => by rw [h z (by rintro rfl; rw [ht] at e; cases e)]; exact g _ _ e
 ⟨ne d.xa, ne d.xb, ne d.xc, d.ta, d.tb, d.tc, d.un⟩
theorem D3.key (d : D3 K a b c ka kb kc e1 e2 e3 σ) (h : Al ka kb kc ks) {x : Str} (hx : x ∈ ks) : x ∈ K := by
 rcases (h.mem x).mp hx with h | h | h
 ·exact d.ta.sub x h
 ·exact d.tb.sub x h
 ·exact d.tc.sub x h
theorem D3.len (d : D3 K a b c ka kb kc e1 e2 e3 σ) (h : Al ka kb kc ks) : ks.length ≤ 1000 := Nat.le_trans (h.nd.length_le_of_subset fun x hx => d.key h hx) d.un.few
theorem rj (d : D3 K a b c ka kb kc e1 e2 e3 σ) (q : ∀ ks, Al ka kb kc ks → iz (ks.map .str) σ Q) : sp_all_paths ns [.ref a, .ref b, .ref c] σ Q := ⟨K, a, b, c, ka, kb, kc, e1, e2, e3, rfl, d, q⟩
theorem vE (d : D3 K a b c ka kb kc e1 e2 e3 σ) (q : ∀ ks, Al ka kb kc ks → iz (ks.filterMap (qT ka kb kc)) σ Q) : sp_marks ns [.ref a, .ref b, .ref c] σ Q := ⟨K, a, b, c, ka, kb, kc, e1, e2, e3, rfl, d, q⟩
theorem ri (d : D3 K a b c ka kb kc e1 e2 e3 σ) (q : ∀ cs : List Str, (∀ x, x ∈ cs ↔ jw ka kb kc x = true) → cs.length ≤ 1000 → iz (cs.map .str) σ Q) : sp_clashing ns [.ref a, .ref b, .ref c] σ Q := ⟨K, a, b, c, ka, kb, kc, e1, e2, e3, rfl, d, q⟩
theorem tZ (d : D3 K a b c ka kb kc e1 e2 e3 σ) (q : nB (Is K (st ka kb kc)) σ Q) : sp_standing ns [.ref a, .ref b, .ref c] σ Q := ⟨K, a, b, c, ka, kb, kc, e1, e2, e3, rfl, d, q⟩
theorem vF (d : D3 K a b c ka kb kc e1 e2 e3 σ) (q : ∀ fs : List (List Str), (∀ x, (∃ l ∈ fs, x ∈ l) ↔ jS ka kb kc x) → iz (fs.map gY) σ Q) : sp_clashes ns [.ref a, .ref b, .ref c] σ Q := ⟨K, a, b, c, ka, kb, kc, e1, e2, e3, rfl, d, q⟩
end
theorem pM {α : Type} {β : Type} (f : α → Option β) (l : List α) {i : Nat} {y : α} (h : l[i]? = some y) : (l.take (i + 1)).filterMap f = (l.take i).filterMap f ++ (f y).toList := by
 rw [List.take_add_one, h, List.filterMap_append]
 simp only [Option.toList_some, List.filterMap_cons, List.filterMap_nil]
 cases f y <;> rfl
theorem uR {α : Type} {β : Type} (f : α → Option β) (l : List α) (i : Nat) : ((l.take i).filterMap f).length ≤ l.length :=
 Nat.le_trans (List.length_filterMap_le f (l.take i)) (List.length_take_le' i l)
theorem s8 (ns : List Int) : ∀ vs σ Q, sp_marks ns vs σ Q → vs.length = 3 ∧ jP ns (aM ["elder", "one", "other"] vs aW) σ (fin Q) := by
 rintro vs σ Q ⟨K, a, b, c, ka, kb, kc, e1, e2, e3, rfl, d, q⟩
 refine ⟨rfl, ?_⟩
 unfold jP
 rw [aq]
 simp [lU]
 intro t ht
 rw [aq]
 have g0 : Grow σ (a8 σ t (.list [])) := Grow.refl.upd ht
 have xt := ay σ t (.list [])
 generalize (a8 σ t (.list [])) = σ₁ at g0 xt ⊢
 simp [lT]
 refine rj (d.grow g0) fun ks hks l σ₂ g2 hl xl => ?_
 rw [bB xl]
 have lt : l ≠ t := by rintro rfl; rw [xt] at hl; cases hl
 have g02 := g0.trans g2
 have hk := d.len hks
 refine bp (fun i m σ' => Lp t (.list ((ks.take i).filterMap (qT ka kb kc))) ["path", "was", "mine", "theirs"] _ σ₂ m σ') (fun _ _ _ => False)
  (fun i m σ' h => by rw [h.s l lt]; exact xl) _ ?_ ?_ (fun _ _ _ h => h.elim) _ _ ⟨fun _ _ => rfl, g2 _ _ xt, fun _ _ => rfl⟩
 ·intro i v m σ' Q' hv I n1 n2 n3
  obtain ⟨y, hy, rfl⟩ := de hv
  refine ⟨_, rfl, ?_⟩
  have dd := d.but ht g02 I.s
  have hll := uR (qT ka kb kc) ks i
  have h2 := I.x
  have h3 : m "told" = some (.ref t) := (I.m _ (by decide)).trans rfl
  have h4 : m "elder" = some (.ref a) := (I.m _ (by decide)).trans rfl
  have h5 : m "one" = some (.ref b) := (I.m _ (by decide)).trans rfl
  have h6 : m "other" = some (.ref c) := (I.m _ (by decide)).trans rfl
  have hm : ∀ (u w z x : V) s, s ∉ ["path", "was", "mine", "theirs"] → put (put (put (put m "path" u) "was" w) "mine" z) "theirs" x s = m s := fun u w z x s hs => by
   rw [aJ hs (by decide), aJ hs (by decide), aJ hs (by decide), aJ hs (by decide)]
  simp only [aq, mh, gn, dU, dS, fw]
  simp [h4]
  refine bZ dd.xa d.ta ?_
  simp [aq, h5]
  refine bZ dd.xb d.tb ?_
  simp [aq, h6]
  refine bZ dd.xc d.tc ?_
  simp [aq, h3, jY h2]
  have skip : ij (gS ka y) (gS kb y) (gS kc y) = Option.none → Q' .next (put (put (put (put m "path" (.str y)) "was" (dt (gS ka y))) "mine" (dt (gS kb y))) "theirs" (dt (gS kc y))) σ' := fun hu =>
   n1 _ _ (I.at (by rw [pM _ _ hy, qT, hu]; simp) (hm _ _ _ _))
  have put1 : ∀ (u : Str), ij (gS ka y) (gS kb y) (gS kc y) = some u → cr [.ref t, .tup [.str y, .str u]] σ' fun x σ'' => Q' .next (put (put (put (put m "path" (.str y)) "was" (dt (gS ka y))) "mine" (dt (gS kb y))) "theirs" (dt (gS kc y))) σ'' := fun u hu =>
   jA h2 (Nat.lt_of_le_of_lt (Nat.le_trans hll hk) (by decide)) (n1 _ _ (by
    have := I.set (o' := .list ((ks.take i).filterMap (qT ka kb kc) ++ [.tup [.str y, .str u]])) (hm (.str y) (dt (gS ka y)) (dt (gS kb y)) (dt (gS kc y)))
    rw [pM _ _ hy, show (qT ka kb kc y).toList = [V.tup [.str y, .str u]] by rw [qT, hu]; rfl]
    exact this))
  generalize gS ka y = w at put1 skip ⊢
  generalize gS kb y = mi at put1 skip ⊢
  generalize gS kc y = th at put1 skip ⊢
  unfold ij at put1 skip
  split
  ·rename_i k1
   rw [if_pos k1] at put1 skip
   split
   ·rename_i k2
    rw [if_pos k2] at skip
    exact skip rfl
   ·rename_i k2
    rw [if_neg k2] at put1
    exact put1 _ rfl
  ·rename_i k1
   rw [if_neg k1] at put1
   split
   ·rename_i k2
    rw [if_pos k2] at put1
    exact put1 _ rfl
   ·rename_i k2
    rw [if_neg k2] at put1
    split
    ·rename_i k3
     rw [if_pos k3] at put1
     exact put1 _ rfl
    ·rename_i k3
     rw [if_neg k3] at put1
     exact put1 _ rfl
 ·intro m σ' I
  rw [List.length_map, List.take_length] at I
  have h3 : m "told" = some (.ref t) := (I.m _ (by decide)).trans rfl
  rw [be, aq]
  simp [lS, h3]
  exact q ks hks t σ' (I.grow ht g02) ht I.x
end Mine
end
noncomputable section
set_option maxRecDepth 10000
set_option maxHeartbeats 1000000
namespace Mine
open PySem PySem.W PyProof.Rows PySem.Calls
theorem kQ (x : Str) : ∀ ys : List Str, iK (.str x) (ys.map .str) = some (decide (x ∈ ys))
 | [] => rfl
 | y :: r => by
  have ih := kQ x r
  simp only [List.map_cons, iK, ih]
  by_cases h : x = y
  ·subst h; simp [veq0]
  ·simp [veq0, h, Ne.symm h]
theorem pG {w m t : Option Str} : ij w m t = some (Str.ofString "clash") ↔ fz w m t = true := by
 have n1 : Str.ofString "alike" ≠ Str.ofString "clash" := by decide
 have n2 : Str.ofString "one" ≠ Str.ofString "clash" := by decide
 have n3 : Str.ofString "other" ≠ Str.ofString "clash" := by decide
 unfold ij fz
 by_cases h1 : m = t
 ·subst h1
  by_cases h2 : m = w
  ·subst h2; simp
  ·simp [h2, n1]
 ·by_cases h3 : t = w
  ·subst h3; simp [h1, n2]
  ·by_cases h2 : m = w
   ·subst h2; simp [h1, h3, n3]
   ·simp [h1, h2, h3]
noncomputable def xN : V → Option V
 | .tup [.str x, .str u] => if u = Str.ofString "clash" then some (.str x) else Option.none
 | _ => Option.none
theorem jO {x u : Str} : xN (.tup [.str x, .str u]) = if u = Str.ofString "clash" then some (.str x) else Option.none := rfl
theorem tJ {a b c : List (Str × V)} {ks : List Str} (h : Al a b c ks) : ∃ cs : List Str, (ks.filterMap (qT a b c)).filterMap xN = cs.map V.str ∧ (∀ x, x ∈ cs ↔ jw a b c x = true) ∧ cs.length ≤ ks.length := by
 refine ⟨ks.filter fun x => jw a b c x, ?_, fun x => ?_, List.length_filter_le _ _⟩
 ·rw [List.filterMap_filterMap]
  clear h
  induction ks with
  | nil => rfl
  | cons x ks ih =>
   by_cases h : jw a b c x = true
   ·rw [List.filter_cons_of_pos h, List.map_cons, ← ih]
    refine List.filterMap_cons_some ?_
    unfold qT
    rw [pG.mpr h]
    exact (jO).trans (if_pos rfl)
   ·rw [List.filter_cons_of_neg h, ← ih]
    refine List.filterMap_cons_none ?_
    unfold qT
    cases e : ij (gS a x) (gS b x) (gS c x) with
    | none => rfl
    | some u => exact (jO).trans (if_neg fun hu => h (pG.mp (by rw [e, hu])))
 ·rw [List.mem_filter]
  refine ⟨fun h => h.2, fun hc => ⟨(h.mem x).mpr ?_, hc⟩⟩
  by_cases ha : x ∈ ax a
  ·exact .inl ha
  by_cases hb : x ∈ ax b
  ·exact .inr (.inl hb)
  by_cases hcc : x ∈ ax c
  ·exact .inr (.inr hcc)
  unfold jw fz at hc
  rw [bo ha, bo hb, bo hcc] at hc
  cases hc
theorem oP (ns : List Int) : ∀ vs σ Q, sp_clashing ns vs σ Q → vs.length = 3 ∧ fE ns (aM ["elder", "one", "other"] vs aW) σ (fin Q) := by
 rintro vs σ Q ⟨K, a, b, c, ka, kb, kc, e1, e2, e3, rfl, d, q⟩
 refine ⟨rfl, ?_⟩
 simp [fE, iR, aq]
 refine vE d fun ks hks l σ₁ g1 hl xl => ?_
 rw [bB xl]
 have ml : (ks.filterMap (qT ka kb kc)).length ≤ 1000 := Nat.le_trans (List.length_filterMap_le _ _) (d.len hks)
 obtain ⟨cs, ec, mc, lc⟩ := tJ hks
 refine cH (fun s => s = σ₁) (fun s hs => by rw [hs]; exact xl) xN _ _ _ _ (by simp; exact Nat.le_trans ml (by decide)) ?_ rfl ?_
 ·rintro v hv s Q₁ Q₂ rfl n1 n2
  obtain ⟨x, _, hx⟩ := List.mem_filterMap.mp hv
  obtain ⟨u, _, rfl⟩ := Option.map_eq_some_iff.mp hx
  refine ⟨_, rfl, ?_⟩
  by_cases h : u = Str.ofString "clash"
  ·simp [h]
   exact n1 _ _ rfl (by simp [jO, h])
  ·simp [h]
   exact n2 _ rfl (by simp [jO, h])
 ·rintro s rfl r hr
  rw [List.nil_append, ec]
  exact q cs mc (Nat.le_trans lc (d.len hks)) r _ (g1.upd hr) (g1.none hr) (ay _ _ _)
section
variable {K : List Str} {f : List (Str × V)} {k x t : Str}
theorem In0.put (h : In0 K f) (hk : k ∈ K) : In0 K (a5 f k (.str t)) :=
 ⟨fun x hx => ((cj _ _ _ x).mp hx).elim (fun e => e ▸ hk) (h.sub x), fun q hq => (eg hq).elim (fun e => by rw [e]; exact ⟨t, rfl⟩) (h.val q), df h.nodup⟩
theorem In0.cut (h : In0 K f) : In0 K (fY f k) :=
 ⟨fun x hx => by
  obtain ⟨q, hq, rfl⟩ := List.mem_map.mp hx
  exact h.sub _ (List.mem_map_of_mem (iq hq)), fun q hq => h.val q (iq hq), jV h.nodup⟩
theorem In0.len (h : In0 K f) (hK : Kp K) : f.length < 16777216 := by
 have := h.nodup.length_le_of_subset fun x hx => h.sub x hx
 unfold ax at this
 rw [List.length_map] at this
 exact Nat.lt_of_le_of_lt (Nat.le_trans this hK.few) (by decide)
theorem In0.nil : In0 K [] := ⟨fun _ h => (nomatch h), fun _ h => (nomatch h), List.nodup_nil⟩
theorem oH {f : List (Str × V)} {k : Str} {v : V} : (k, v) ∈ a5 f k v := by
 unfold a5
 split
 ·rename_i h
  obtain ⟨q, h1, h2⟩ := List.any_eq_true.mp h
  have h2 : q.1 = k := by simpa using h2
  exact List.mem_map.mpr ⟨q, h1, by rw [if_pos h2, h2]⟩
 ·exact List.mem_append_right _ (List.mem_singleton.mpr rfl)
theorem nh {f : List (Str × V)} {k : Str} {v : V} {q : Str × V} (h : q ∈ f) (hk : q.1 ≠ k) : q ∈ a5 f k v := by
 unfold a5
 split
 ·exact List.mem_map.mpr ⟨q, h, by rw [if_neg hk]⟩
 ·exact List.mem_append_left _ h
section
variable {K : List Str} {f pk : List (Str × V)} {x k t : Str}
theorem pL (h : In0 K f) (hm : (x, V.str t) ∈ f) : gS f x = some t := by
 obtain ⟨v, h1, h2⟩ := dl (show x ∈ f.map (·.1) from List.mem_map.mpr ⟨_, hm, rfl⟩)
 cases iA h.nodup h2 hm
 unfold gS; rw [h1]
theorem o3 (h : In0 K f) (hx : x ∈ ax f) : ∃ y, (x, V.str y) ∈ f ∧ gS f x = some y := by
 obtain ⟨v, h1, h2⟩ := dl (show x ∈ f.map (·.1) from hx)
 obtain ⟨y, hy⟩ := h.val _ h2
 have hy : v = .str y := hy
 subst hy
 exact ⟨y, h2, by unfold gS; rw [h1]⟩
theorem uO (h : In0 K f) (hk : k ∈ K) : gS (a5 f k (.str t)) x = if x = k then some t else gS f x := by
 by_cases e : x = k
 ·subst e; rw [if_pos rfl]; exact pL (h.put hk) oH
 ·rw [if_neg e]
  by_cases hx : x ∈ ax f
  ·obtain ⟨y, h1, h2⟩ := o3 h hx
   rw [h2]; exact pL (h.put hk) (nh h1 e)
  ·rw [bo hx]; exact bo fun z => ((cj _ _ _ x).mp z).elim e hx
theorem uQ (h : In0 K f) : gS (fY f k) x = if x = k then Option.none else gS f x := by
 by_cases e : x = k
 ·subst e; rw [if_pos rfl]; exact bo fun z => ((lv _ _ _).mp z).1 rfl
 ·rw [if_neg e]
  by_cases hx : x ∈ ax f
  ·obtain ⟨y, h1, h2⟩ := o3 h hx
   rw [h2]; exact pL h.cut (List.mem_filter.mpr ⟨h1, by simpa using e⟩)
  ·rw [bo hx]; exact bo fun z => hx ((lv _ _ _).mp z).2
end
end
theorem Is.put {K : List Str} {F : Str → Option Str} {kf : List (Str × V)} {y t : Str} (h : Is K F kf) (hy : y ∈ K) : Is K (fun x => if x = y then some t else F x) (a5 kf y (.str t)) :=
 ⟨h.i0.put hy, fun x => by rw [uO h.i0 hy, h.eq]⟩
theorem Is.cut {K : List Str} {F : Str → Option Str} {kf : List (Str × V)} {y : Str} (h : Is K F kf) : Is K (fun x => if x = y then Option.none else F x) (fY kf y) :=
 ⟨h.i0.cut, fun x => by rw [uQ h.i0, h.eq]⟩
theorem Is.to {K : List Str} {F G : Str → Option Str} {kf : List (Str × V)} (h : Is K F kf) (e : ∀ x, F x = G x) : Is K G kf := ⟨h.i0, fun x => (h.eq x).trans (e x)⟩
theorem Is.key {K : List Str} {F : Str → Option Str} {kf : List (Str × V)} (h : Is K F kf) (x : Str) : x ∈ ax kf ↔ F x ≠ Option.none := by
 rw [← h.eq, Ne, uP h.i0, Classical.not_not]
noncomputable def on (S : List Str) (F G : Str → Option Str) (x : Str) : Option Str := if x ∈ S then F x else G x
theorem oU {F G : Str → Option Str} (x : Str) : G x = on [] F G x := (if_neg fun h => nomatch h).symm
theorem rF {S : List Str} {F G : Str → Option Str} (h : ∀ x, x ∉ S → G x = F x) (x : Str) : on S F G x = F x := by
 unfold on
 by_cases e : x ∈ S
 ·exact if_pos e
 ·exact (if_neg e).trans (h x e)
theorem jd {S : List Str} {i : Nat} {y : Str} {F G : Str → Option Str} {o : Option Str} (hy : S[i]? = some y) (ho : F y = o) (x : Str) : (if x = y then o else on (S.take i) F G x) = on (S.take (i + 1)) F G x := by
 unfold on
 rw [List.take_add_one, hy, Option.toList_some]
 by_cases e : x = y
 ·subst e; rw [if_pos rfl, if_pos (List.mem_append_right _ (.head _))]; exact ho.symm
 ·rw [if_neg e]
  by_cases h : x ∈ S.take i
  ·rw [if_pos h, if_pos (List.mem_append_left _ h)]
  ·rw [if_neg h, if_neg fun z => (List.mem_append.mp z).elim h fun z => e (List.mem_singleton.mp z)]
theorem pE {S : List Str} {i : Nat} {y : Str} {F G : Str → Option Str} (hy : S[i]? = some y) (ho : F y = G y) (x : Str) : on (S.take i) F G x = on (S.take (i + 1)) F G x := by
 rw [← jd hy ho]
 by_cases e : x = y
 ·subst e; rw [if_pos rfl]; unfold on
  by_cases h : x ∈ S.take i
  ·rw [if_pos h]; exact ho
  ·rw [if_neg h]
 ·rw [if_neg e]
inductive LpF (t : Addr) (K : List Str) (F : Str → Option Str) (xs : List String) (m₀ : aT) (σ₀ : ai) (m : aT) (σ' : ai) : Prop
 | mk (kf : List (Str × V)) (ep : Nat) (l : Lp t (.dict kf ep) xs m₀ σ₀ m σ') (h : Is K F kf) : LpF t K F xs m₀ σ₀ m σ'
theorem oM {a b c : List (Str × V)} {ks : List Str} (h : Al a b c ks) (x : Str) (hx : x ∉ ks) : Option.none = st a b c x := by
 unfold st
 rw [bo fun z => hx ((h.mem x).mpr (.inl z)), bo fun z => hx ((h.mem x).mpr (.inr (.inl z))), bo fun z => hx ((h.mem x).mpr (.inr (.inr z)))]
 rfl
theorem oO (ns : List Int) : ∀ vs σ Q, sp_standing ns vs σ Q → vs.length = 3 ∧ fD ns (aM ["elder", "one", "other"] vs aW) σ (fin Q) := by
 rintro vs σ Q ⟨K, a, b, c, ka, kb, kc, e1, e2, e3, rfl, d, q⟩
 refine ⟨rfl, ?_⟩
 unfold fD
 rw [aq]
 simp [iO]
 refine ri d fun cs hcs _ w σ₁ g1 hw xw => ?_
 rw [aq]
 simp [iN]
 intro f ef hf
 have hfn := g1.none hf
 have g2 : Grow σ₁ (a8 σ₁ f (.dict [] ef)) := Grow.refl.upd hf
 have xf := ay σ₁ f (.dict [] ef)
 generalize (a8 σ₁ f (.dict [] ef)) = σ₂ at g2 xf ⊢
 show au _ _ _ _ _
 rw [aq]
 simp [iM]
 refine rj ((d.grow g1).grow g2) fun ks hks l σ₃ g3 hl xl => ?_
 rw [bB xl]
 have hlf : l ≠ f := by rintro rfl; rw [xf] at hl; cases hl
 have hwf : w ≠ f := by rintro rfl; rw [xw] at hf; cases hf
 have xw3 := g3 _ _ (g2 _ _ xw)
 have g13 := g1.trans (g2.trans g3)
 refine bp (fun i m σ' => LpF f K (on (ks.take i) (st ka kb kc) fun _ => Option.none) ["path", "text"] _ σ₃ m σ') (fun _ _ _ => False)
  (fun i m σ' ⟨_, _, h, _⟩ => by rw [h.s l hlf]; exact xl) _ ?_ ?_ (fun _ _ _ h => h.elim) _ _ ⟨[], ef, ⟨fun _ _ => rfl, g3 _ _ xf, fun _ _ => rfl⟩, In0.nil, oU⟩
 ·rintro i v m σ' Q' hv ⟨kf, ep, I, hI⟩ n1 n2 n3
  obtain ⟨y, hy, rfl⟩ := de hv
  refine ⟨_, rfl, ?_⟩
  have dd := d.but hfn g13 I.s
  have yw : σ' w = some (.list (cs.map .str)) := by rw [I.s w hwf]; exact xw3
  have h2 := I.x
  have mw : m "away" = some (.ref w) := (I.m _ (by decide)).trans rfl
  have mf : m "found" = some (.ref f) := (I.m _ (by decide)).trans rfl
  have me : m "elder" = some (.ref a) := (I.m _ (by decide)).trans rfl
  have mo : m "one" = some (.ref b) := (I.m _ (by decide)).trans rfl
  have mt : m "other" = some (.ref c) := (I.m _ (by decide)).trans rfl
  have hyK := d.key hks (List.mem_of_getElem? hy)
  have last : ∀ (m' : aT) (o : Option Str), m' "text" = some (dt o) → m' "path" = some (.str y) → (∀ s, s ∉ ["path", "text"] → m' s = m s) → o = (if gS kb y = gS ka y then gS kc y else gS kb y) →
    (au (b8 (dD (aE (an iy (af "path") (af "away"))) (dD (aE (an bY (af "text") (ak .none))) tT)) (au (aH bN (af "text") (af "found") (af "path")) aA) aA) aA) m' σ' Q' := by
   intro m' o z1 z2 z3 ho
   have skip : st ka kb kc y = Option.none → Q' .next m' σ' := fun e =>
    n1 _ _ ⟨kf, ep, I.at rfl z3, hI.to (pE hy e)⟩
   rw [aq]
   simp [z1, z2, z3 "away" (by decide), z3 "found" (by decide), mw, mf]
   refine ⟨_, _, yw, kQ y _, ?_⟩
   by_cases hc : jw ka kb kc y = true
   ·simp [(hcs y).mpr hc]
    exact skip (if_pos hc)
   ·have hc' : y ∉ cs := fun e => hc ((hcs y).mp e)
    have hs : st ka kb kc y = o := (if_neg hc).trans ho.symm
    cases o with
    | none =>
     simp [hc', dt]
     exact skip hs
    | some t =>
     simp [hc', dt, aq, z1, z2, z3 "found" (by decide), mf]
     refine bF h2 (hI.i0.len d.un) fun ep2 => ?_
     exact n1 _ _ ⟨_, ep2, I.set z3, (hI.put hyK).to (jd hy hs)⟩
  rw [aq]
  simp only [mh, gn, dU, dS, fw]
  simp [mo]
  refine bZ dd.xb d.tb ?_
  rw [aq]
  simp [mo, me]
  refine bZ dd.xb d.tb ?_
  try simp
  refine bZ dd.xa d.ta ?_
  by_cases hq : gS kb y = gS ka y
  ·rw [uS, decide_eq_true hq]
   simp only [bn, if_true]
   rw [aq]
   simp [mt]
   refine bZ dd.xc d.tc ?_
   exact last _ (gS kc y) rfl rfl (fun s hs => by rw [aJ hs (by decide), aJ hs (by decide), aJ hs (by decide)]) (by rw [if_pos hq])
  ·simp [hq]
   exact last _ (gS kb y) rfl rfl (fun s hs => by rw [aJ hs (by decide), aJ hs (by decide)]) (by rw [if_neg hq])
 ·rintro m σ' ⟨kf, ep, I, hI⟩
  rw [List.length_map, List.take_length] at hI
  have mf : m "found" = some (.ref f) := (I.m _ (by decide)).trans rfl
  rw [be, aq]
  simp [iL, mf]
  exact q f kf ep σ' (I.grow hfn g13) hfn I.x (hI.to (rF (oM hks)))
end Mine
end
noncomputable section
set_option maxRecDepth 10000
set_option maxHeartbeats 1000000
namespace Mine
open PySem PySem.W PyProof.Rows PySem.Calls
theorem qs {x : Str} (n : Nat) : (((Txt.split x (Str.ofString "/")).take n).map (·.length)).sum + ((Txt.split x (Str.ofString "/")).take n).length ≤ x.length + 1 := by
 have h := PyProof.Rows.split_weight x (Str.ofString "/") (by rw [i9]; decide)
 have key : ∀ (l : List Str) (n : Nat), ((l.take n).map (·.length)).sum + (l.take n).length ≤ (l.map (·.length)).sum + l.length := by
  intro l
  induction l with
  | nil => intro n; simp
  | cons y r ih => intro n; cases n with
   | zero => simp
   | succ n => have := ih n; simp at this ⊢; omega
 exact Nat.le_trans (key _ n) h
theorem td (ns : List Int) : ∀ vs σ Q, sp_above ns vs σ Q → vs.length = 1 ∧ jR ns (aM ["path"] vs aW) σ (fin Q) := by
 rintro vs σ Q ⟨x, rfl, hx, q⟩
 refine ⟨rfl, ?_⟩
 have hsz := PyProof.Rows.split_le x (Str.ofString "/")
 simp [jR, lW, lV, aq, i9]
 refine ⟨by exact Nat.le_trans hx (by decide), fun a ha => ?_⟩
 have hp : ∀ σ', Grow (a8 σ a (.list ((Txt.split x (Str.ofString "/")).map .str))) σ' → σ' a = some (.list ((Txt.split x (Str.ofString "/")).map .str)) := fun σ' g => g _ _ (ay _ _ _)
 simp [gm (ay σ a _)]
 refine ⟨by omega, ?_⟩
 refine jk (Grow (a8 σ a (.list ((Txt.split x (Str.ofString "/")).map .str)))) (fun _ _ => trivial) _ ((bO x).map .str) [] _ _ (by simp [bO, bK]) (by simp [bK]; exact dE fun hg => lN [(x.length), ((Txt.split x (Str.ofString "/")).length)] 0x14200002508c22084802852c10481 rfl hx hsz hg) ?_ Grow.refl ?_
 ·intro i v y hv hy σ' Q' g n
  obtain ⟨hi, rfl⟩ := b5 hv
  refine ⟨_, rfl, ?_⟩
  simp
  refine kD (hp _ g) fun b hb => ?_
  rw [n8 _ (by exact Int.natCast_nonneg _), show (1 + (i : Int)).toNat = i + 1 by exact Nat.add_comm _ _, ← List.map_take]
  have hsum := qs (x := x) (i + 1)
  refine eN (ys := (Txt.split x (Str.ofString "/")).take (i + 1)) (ay _ _ _) (by rw [i9]; omega) ?_
  have : y = .str (Str.join (Str.ofString "/") ((Txt.split x (Str.ofString "/")).take (i + 1))) := by
   simp [bO, hi] at hy
   exact hy.symm
  rw [← this]
  exact n _ (g.upd hb)
 ·intro σ' g b hb
  simp
  refine q b _ ?_ ?_ (ay _ _ _)
  ·exact (Grow.upd Grow.refl ha |>.trans g).upd hb
  ·exact (Grow.upd Grow.refl ha |>.trans g).none hb
theorem rk {ns : List Int} {σ : ai} {Q : V → ai → Prop} {x : Str} (hx : x.length ≤ 300) (q : iz ((bO x).map .str) σ Q) : sp_above ns [.str x] σ Q := ⟨x, rfl, hx, q⟩
theorem f9 (x : Str) : Txt.split x (Str.ofString "/") ≠ [] := by
 have := PyProof.Rows.split_pos x (Str.ofString "/")
 intro e; rw [e] at this; simp at this
theorem iv (x : Str) : ∀ y ∈ Txt.split x (Str.ofString "/"), Fr y := by
 intro y hy
 rw [j3] at hy
 exact StrLaws.split_free _ 47 y hy
theorem sX (y : Str) (i : Nat) : (Txt.split y (Str.ofString "/")).take (i + 1) ≠ [] := by
 intro e
 rcases List.take_eq_nil_iff.mp e with h | h
 ·cases h
 ·exact f9 y h
theorem qR (x y : Str) : x ∈ bO y ↔ Txt.startswith y (x ++ Str.ofString "/") = true := by
 have e := ni (iv x) (iv y) (f9 x) (f9 y)
 rw [StrLaws.join_split, StrLaws.join_split] at e
 rw [e, decide_eq_true_eq]
 have hx0 : 0 < (Txt.split x (Str.ofString "/")).length := List.length_pos_iff.mpr (f9 x)
 simp only [bO, List.mem_map, List.mem_range]
 constructor
 ·rintro ⟨i, hi, e⟩
  have h2 := rW (xs := (Txt.split y (Str.ofString "/")).take (i + 1)) (fun z hz => iv y z (List.mem_of_mem_take hz)) (iv x) (sX y i) (f9 x) (by rw [e, StrLaws.join_split])
  rw [← h2, List.length_take, Nat.min_eq_left (by exact dE fun hg => Or.elim (oG ((Txt.split y (Str.ofString "/")).length) (1)) (fun hs0 => lN [i, ((Txt.split y (Str.ofString "/")).length - 1), ((Txt.split y (Str.ofString "/")).length)] 0x628c241986129061 rfl hi hg (Nat.le_of_eq hs0)) (fun hs0 => lN [i, ((Txt.split y (Str.ofString "/")).length - 1)] 0x4a129061 rfl hi (Nat.le_of_eq hs0)))]
  exact ⟨by exact tt fun hg => Or.elim (oG ((Txt.split y (Str.ofString "/")).length) (1)) (fun hs0 => lN [i, ((Txt.split y (Str.ofString "/")).length - 1), ((Txt.split y (Str.ofString "/")).length)] 0x3146120cc129061 rfl hi hg (Nat.le_of_eq hs0)) (fun hs0 => lN [i, ((Txt.split y (Str.ofString "/")).length - 1)] 0x4a129061 rfl hi (Nat.le_of_eq hs0)), rfl⟩
 ·rintro ⟨h1, h2⟩
  refine ⟨(Txt.split x (Str.ofString "/")).length - 1, by exact tt fun hg => lN [((Txt.split x (Str.ofString "/")).length), ((Txt.split y (Str.ofString "/")).length), ((Txt.split x (Str.ofString "/")).length - 1), ((Txt.split y (Str.ofString "/")).length - 1)] 0x18e138ca12186129061 rfl h1 (cU (dE fun hg => lN [((Txt.split x (Str.ofString "/")).length)] 0x42120c2400461 rfl hx0 hg)) (dO ((Txt.split y (Str.ofString "/")).length) (1)) hg, ?_⟩
  rw [Nat.sub_add_cancel hx0, h2, StrLaws.join_split]
theorem vG : cl (Str.ofString "/") = [47] := by rw [j3]
noncomputable def wz (x : Str) : V → Option V
 | .int i => if (cl x)[i.toNat]? = some 47 then some (.str ⟨((cl x).take i.toNat).toArray⟩) else Option.none
 | _ => Option.none
theorem rp (ns : List Int) : ∀ vs σ Q, sp__law_uppers ns vs σ Q → vs.length = 1 ∧ dh ns (aM ["_law_path"] vs aW) σ (fin Q) := by
 rintro vs σ Q ⟨x, rfl, hx, q⟩
 refine ⟨rfl, ?_⟩
 have hc := du x
 simp [dh, fN, aq]
 refine ⟨by omega, by omega, ?_⟩
 have e : (ca 0 x.length).filterMap (wz x) = (jW x).map V.str := by
  unfold jW ca
  rw [List.filterMap_map, List.map_filterMap, hc]
  refine congrArg (List.filterMap · _) (funext fun i => ?_)
  simp [wz]
 refine cH (fun s => s = σ) (fun _ _ => trivial) (wz x) _ _ _ _ (by simp [bK]; omega) ?_ rfl ?_
 ·rintro v hv s Q₁ Q₂ rfl n1 n2
  obtain ⟨i, hi, rfl⟩ : ∃ i : Nat, i < x.length ∧ v = .int i := by
   obtain ⟨i, hi⟩ := List.getElem?_of_mem hv
   obtain ⟨h1, h2⟩ := b5 hi
   exact ⟨i, h1, by rw [h2, Int.zero_add]⟩
  refine ⟨_, rfl, ?_⟩
  have hlt : i < (cl x).length := by omega
  simp
  have hget : (cl x)[i]? = some (cl x)[i] := List.getElem?_eq_getElem hlt
  refine nL (c := (cl x)[i]) (by omega) (by omega) hget ?_
  have sl : Str.ofString "/" = ⟨#[47]⟩ := j3
  have up : wz x (.int (i : Int)) = if (cl x)[i] = 47 then some (.str ⟨((cl x).take i).toArray⟩) else Option.none := by
   show (if (cl x)[i]? = some 47 then _ else _) = _
   rw [hget]
   by_cases h : (cl x)[i] = 47
   ·rw [if_pos (congrArg some h), if_pos h]; rfl
   ·rw [if_neg fun e => h (Option.some.inj e), if_neg h]
  generalize (cl x)[i] = c at up
  simp
  by_cases h : c = 47
  ·rw [if_pos (by rw [sl, h])]
   refine ⟨by omega, ?_⟩
   refine n1 _ _ rfl ?_
   rw [up, if_pos h]
   have : bG x.cps.toList Option.none (some (i : Int)) = (cl x).take i := n8 _ (Int.natCast_nonneg _)
   rw [this]
  ·rw [if_neg (by rw [sl]; intro e; exact h (by simpa using e))]
   exact n2 _ rfl (by rw [up, if_neg h])
 ·rintro s rfl b hb
  rw [List.nil_append, e]
  exact q b _ (Grow.refl.upd hb) hb (ay _ _ _)
theorem rf {ns : List Int} {σ : ai} {Q : V → ai → Prop} {x : Str} (h : x.length ≤ 300) (q : iz ((jW x).map .str) σ Q) : sp__law_uppers ns [.str x] σ Q := ⟨x, rfl, h, q⟩
theorem qY (x y : Str) : x ∈ jW y ↔ Txt.startswith y (x ++ Str.ofString "/") = true := by
 rw [j1, dN, vG]
 unfold jW
 simp only [List.mem_filterMap, List.mem_range]
 constructor
 ·rintro ⟨i, hi, e⟩
  split at e
  ·rename_i h
   cases e
   show (cl y).take i ++ [47] <+: cl y
   refine ⟨(cl y).drop (i + 1), ?_⟩
   have h1 : (cl y).take (i + 1) = (cl y).take i ++ [47] := by rw [List.take_add_one, h]; rfl
   rw [← h1, List.take_append_drop]
  ·cases e
 ·rintro ⟨t, e⟩
  have hl : (cl x).length < (cl y).length := by rw [← e]; simp
  refine ⟨(cl x).length, hl, ?_⟩
  have h1 : (cl y)[(cl x).length]? = some 47 := by rw [← e, List.append_assoc, List.getElem?_append_right (Nat.le_refl _), Nat.sub_self]; rfl
  have h2 : (cl y).take (cl x).length = cl x := by rw [← e, List.append_assoc, List.take_left]
  rw [if_pos h1, h2]
theorem ic {x y : Str} : x ∈ jW y ↔ x ∈ bO y := (qY x y).trans (qR x y).symm
theorem lR {x : Str} (h : x.length ≤ 300) : (bO x).length ≤ 301 := by
 have := PyProof.Rows.split_le x (Str.ofString "/")
 unfold bO
 rw [List.length_map, List.length_range]; omega
noncomputable def gZ (ks : List Str) (x : Str) (us : List Str) : List (List Str) := (us.filter fun u => decide (u ∈ ks)).map fun u => [u, x]
theorem gN {ks : List Str} {x : Str} {us : List Str} {j : Nat} {u : Str} (h : us[j]? = some u) : gZ ks x (us.take (j + 1)) = gZ ks x (us.take j) ++ if u ∈ ks then [[u, x]] else [] := by
 unfold gZ
 rw [List.take_add_one, h, List.filter_append, List.map_append]
 by_cases hu : u ∈ ks <;> simp [hu]
theorem nV {α β : Type} {f : α → List β} {n : Nat} : ∀ (l : List α), (∀ a ∈ l, (f a).length ≤ n) → (l.flatMap f).length ≤ l.length * n
 | [], _ => by simp
 | a :: l, h => by
  have h1 := h a (.head _)
  have h2 := nV l fun b hb => h b (.tail _ hb)
  rw [List.flatMap_cons, List.length_append, List.length_cons, Nat.succ_mul, Nat.add_comm]
  exact Nat.add_le_add h2 h1
theorem ji {α β : Type} (f : α → List β) {l : List α} {i : Nat} {a : α} (h : l[i]? = some a) : (l.take (i + 1)).flatMap f = (l.take i).flatMap f ++ f a := by
 rw [List.take_add_one, h, List.flatMap_append]
 simp
theorem nr (ks : List Str) (x : Str) (us : List Str) : (gZ ks x us).length ≤ us.length := by
 unfold gZ; rw [List.length_map]; exact List.length_filter_le _ _
noncomputable def pr (ab : Str → List Str) (cs ks : List Str) : List (List Str) := cs.map (fun x => [x]) ++ ks.flatMap fun x => gZ ks x (ab x)
theorem m8 {a b c : List (Str × V)} {ab : Str → List Str} {cs ks : List Str} (hab : ∀ x y, x ∈ ab y ↔ x ∈ bO y) (hc : ∀ x, x ∈ cs ↔ jw a b c x = true) (hk : ∀ x, x ∈ ks ↔ st a b c x ≠ Option.none) (x : Str) : (∃ l ∈ pr ab cs ks, x ∈ l) ↔ jS a b c x := by
 constructor
 ·rintro ⟨l, hl, hx⟩
  rcases List.mem_append.mp hl with h | h
  ·obtain ⟨y, hy, rfl⟩ := List.mem_map.mp h
   rw [List.mem_singleton.mp hx]
   exact .inl ((hc y).mp hy)
  ·obtain ⟨y, hy, h⟩ := List.mem_flatMap.mp h
   obtain ⟨u, hu, rfl⟩ := List.mem_map.mp h
   have hu' := List.mem_filter.mp hu
   have hk1 := (hk u).mp (of_decide_eq_true hu'.2)
   have hk2 := (hk y).mp hy
   rcases List.mem_cons.mp hx with rfl | hx
   ·exact .inr ⟨hk1, y, hk2, .inl ((hab _ _).mp hu'.1)⟩
   ·rw [List.mem_singleton.mp hx]; exact .inr ⟨hk2, u, hk1, .inr ((hab _ _).mp hu'.1)⟩
 ·rintro (h | ⟨h1, y, h2, h | h⟩)
  ·exact ⟨[x], List.mem_append_left _ (List.mem_map.mpr ⟨x, (hc x).mpr h, rfl⟩), .head _⟩
  ·exact ⟨[x, y], List.mem_append_right _ (List.mem_flatMap.mpr ⟨y, (hk y).mpr h2, List.mem_map.mpr ⟨x, List.mem_filter.mpr ⟨(hab _ _).mpr h, decide_eq_true ((hk x).mpr h1)⟩, rfl⟩⟩), .head _⟩
  ·exact ⟨[y, x], List.mem_append_right _ (List.mem_flatMap.mpr ⟨x, (hk x).mpr h1, List.mem_map.mpr ⟨y, List.mem_filter.mpr ⟨(hab _ _).mpr h, decide_eq_true ((hk y).mpr h2)⟩, rfl⟩⟩), .tail _ (.head _)⟩
theorem sW (ab : Str → List Str) (cs ks : List Str) : SK ((pr ab cs ks).map gY) := .t fun v hv => by
 obtain ⟨l, hl, rfl⟩ := List.mem_map.mp hv
 rcases List.mem_append.mp hl with h | h
 ·obtain ⟨x, _, rfl⟩ := List.mem_map.mp h; exact ⟨x, [], rfl⟩
 ·obtain ⟨x, _, h⟩ := List.mem_flatMap.mp h
  obtain ⟨u, _, rfl⟩ := List.mem_map.mp h; exact ⟨u, [x], rfl⟩
structure Kl (t : Addr) (o : AObj) (xs : List String) (m₀ : aT) (σ₀ : ai) (m : aT) (σ' : ai) : Prop where
 k : ∀ z oz, σ₀ z = some oz → z ≠ t → σ' z = some oz
 x : σ' t = some o
 m : ∀ y, y ∉ xs → m y = m₀ y
theorem Kl.grow {t : Addr} {o : AObj} {xs : List String} {m₀ m : aT} {σ σ₀ σ' : ai} (I : Kl t o xs m₀ σ₀ m σ') (ht : σ t = Option.none) (g : Grow σ σ₀) : Grow σ σ' := fun d o' e => I.k d o' (g d o' e) (by rintro rfl; rw [ht] at e; cases e)
theorem pi {m₀ : aT} {σ₀ : ai} {t f l : Addr} {kf : List (Str × V)} {ef : Nat} {xss : List (List Str)} {y : Str} {us : List Str} {Q : Fl → aT → ai → Prop} (ht : f ≠ t) (htl : l ≠ t) (xt : σ₀ t = some (.list (xss.map gY))) (xf : σ₀ f = some (.dict kf ef)) (xl : σ₀ l = some (.list (us.map .str)))
  (mt : m₀ "told" = some (.ref t)) (mf : m₀ "files" = some (.ref f)) (mp : m₀ "path" = some (.str y)) (hz : xss.length + us.length < 16777216)
  (h : ∀ m σ', Lp t (.list ((xss ++ gZ (ax kf) y us).map gY)) ["folder"] m₀ σ₀ m σ' → Q .next m σ') :
  fC (.name "folder") (fun σ => σ l = some (.list (us.map .str))) (au (b8 (aE (an dQ (af "folder") (af "files"))) (au (ge (a4 eB cr (af "told") (ah (cQ (ah (af "folder") (ah (af "path") az))) az)))
 aA) aA)
 aA) (us.map .str) m₀ σ₀ Q := by
 refine bp (fun j m σ' => Lp t (.list ((xss ++ gZ (ax kf) y (us.take j)).map gY)) ["folder"] m₀ σ₀ m σ') (fun _ _ _ => False)
  (fun j m σ' h => by rw [h.s _ htl]; exact xl) _ ?_ ?_ (fun _ _ _ h => h.elim) _ _ ⟨fun _ _ => rfl, by simpa [gZ] using xt, fun _ _ => rfl⟩
 ·intro j v m σ' Q' hv I n1 n2 n3
  obtain ⟨u, hu, rfl⟩ := de hv
  refine ⟨_, rfl, ?_⟩
  have e1 := (I.m "told" (by decide)).trans mt
  have e2 := (I.m "files" (by decide)).trans mf
  have e3 := (I.m "path" (by decide)).trans mp
  have yf : σ' f = some (.dict kf ef) := by rw [I.s _ ht]; exact xf
  have h2 := I.x
  have pl := Nat.le_trans (nr (ax kf) y (us.take j)) (List.length_take_le' _ _)
  rw [aq]
  simp [e2]
  refine em yf ?_
  rw [bj]
  by_cases hin : u ∈ ax kf
  ·have h' : u ∈ kf.map (·.1) := hin
   simp only [h', decide_true, bn, if_true]
   rw [aq]
   simp [e1, e3, jY h2]
   refine jA h2 (by rw [List.length_map, List.length_append]; exact Nat.lt_of_le_of_lt (Nat.add_le_add_left pl _) hz) ?_
   refine n1 _ _ ?_
   rw [gN hu, if_pos hin, ← List.append_assoc, List.map_append]
   exact I.set fun z hz => aJ hz (by decide)
  ·have h' : u ∉ kf.map (·.1) := hin
   simp only [h', decide_false, bn, Bool.false_eq_true, if_false]
   exact n1 _ _ (I.at (by rw [gN hu, if_neg hin, List.append_nil]) fun z hz => aJ hz (by decide))
 ·intro m σ' I
  rw [List.length_map, List.take_length] at I
  exact h m σ' I
theorem qi (ns : List Int) : ∀ vs σ Q, sp_clashes ns vs σ Q → vs.length = 3 ∧ gT ns (aM ["elder", "one", "other"] vs aW) σ (fin Q) := by
 rintro vs σ Q ⟨K, a, b, c, ka, kb, kc, e1, e2, e3, rfl, d, q⟩
 refine ⟨rfl, ?_⟩
 unfold gT
 rw [aq]
 simp [jE]
 refine ri d fun cs hcs cll l σ₁ g1 hl xl => ?_
 rw [bB xl]
 refine jk (fun s => s = σ₁) (fun s hs => by rw [hs]; exact xl) _ ((cs.map fun x => [x]).map gY) [] _ _ (by simp) (by simp; exact Nat.le_trans cll (by decide)) ?_ rfl ?_
 ·rintro i v y hv hy s Q' rfl n
  obtain ⟨x, hx, rfl⟩ := de hv
  refine ⟨_, rfl, ?_⟩
  simp
  have : y = .tup [.str x] := by
   rw [List.map_map, List.getElem?_map, hx] at hy
   exact (Option.some.inj hy).symm
  rw [← this]
  exact n _ rfl
 ·rintro s rfl t ht
  rw [List.nil_append]
  have htn := g1.none ht
  have g2 := g1.upd (o := .list ((cs.map fun x => [x]).map gY)) ht
  have xt := ay s t (.list ((cs.map fun x => [x]).map gY))
  generalize (a8 s t (.list ((cs.map fun x => [x]).map gY))) = σ₂ at g2 xt ⊢
  rw [aq]
  simp [jD]
  refine tZ (d.grow g2) fun f kf ef σ₃ g3 hf xf hI => ?_
  have hkl : (ax kf).length ≤ 1000 := Nat.le_trans (hI.i0.nodup.length_le_of_subset hI.i0.sub) d.un.few
  have hpr : ∀ x ∈ ax kf, (gZ (ax kf) x (bO x)).length ≤ 301 := fun x hx => Nat.le_trans (nr _ _ _) (lR (d.un.len x (hI.i0.sub x hx)))
  have htf : f ≠ t := by rintro rfl; rw [xt] at hf; cases hf
  have g23 := g2.trans g3
  rw [aq]
  simp [jC, cz xf]
  refine bp (fun i m σ' => Kl t (.list ((cs.map (fun x => [x]) ++ ((ax kf).take i).flatMap fun x => gZ (ax kf) x (bO x)).map gY)) ["path", "folder"] _ σ₃ m σ') (fun _ _ _ => False)
   (fun j m σ' h => h.k _ _ xf htf) _ ?_ ?_ (fun _ _ _ h => h.elim) _ _ ⟨fun _ _ e _ => e, by simpa using g3 _ _ xt, fun _ _ => rfl⟩
  ·intro i v m σ' Q' hv I n1 n2 n3
   obtain ⟨y, hy, rfl⟩ := il hv
   refine ⟨_, rfl, ?_⟩
   have hym := List.mem_of_getElem? hy
   have hyl := d.un.len y (hI.i0.sub y hym)
   have mt : m "told" = some (.ref t) := (I.m _ (by decide)).trans rfl
   have mf : m "files" = some (.ref f) := (I.m _ (by decide)).trans rfl
   have h2 := I.x
   have fl := nV (f := fun x => gZ (ax kf) x (bO x)) (n := 301) ((ax kf).take i) fun x hx => hpr x (List.mem_of_mem_take hx)
   have tl := Nat.le_trans (List.length_take_le' i (ax kf)) hkl
   have al := lR hyl
   rw [aq]
   simp
   refine rk hyl fun r σ₄ g4 hr xr => ?_
   rw [bB xr]
   have hrt : r ≠ t := by rintro rfl; rw [h2] at hr; cases hr
   refine pi (y := y) htf hrt (g4 _ _ h2) (g4 _ _ (I.k _ _ xf htf)) xr mt mf rfl (by rw [List.length_append, List.length_map]; omega) fun m₅ σ₅ L => ?_
   rw [be]
   simp
   refine n1 _ _ ⟨fun z oz e hz => by rw [L.s z hz]; exact g4 _ _ (I.k z oz e hz), ?_, fun z hz => (L.m z fun e => hz (List.mem_cons_of_mem _ e)).trans ((aJ hz (by decide)).trans (I.m z hz))⟩
   rw [ji _ hy, ← List.append_assoc]; exact L.x
  ·intro m σ' I
   rw [show (ax kf).take (kf.map fun q => V.str q.1).length = ax kf from List.take_of_length_le (by simp [ax])] at I
   have mt : m "told" = some (.ref t) := (I.m _ (by decide)).trans rfl
   rw [be, aq]
   simp [jB, mt]
   refine nj (xs := (pr bO cs (ax kf)).map gY) I.x (sW _ _ _) fun ys hp r hr => ?_
   obtain ⟨fs, rfl, hpf⟩ := nu gY hp.symm rfl
   have g := I.grow htn g23
   exact q fs (fun x => (⟨fun ⟨l, h1, h2⟩ => ⟨l, hpf.mem_iff.mp h1, h2⟩, fun ⟨l, h1, h2⟩ => ⟨l, hpf.mem_iff.mpr h1, h2⟩⟩ : _ ↔ _).trans (m8 (fun _ _ => Iff.rfl) hcs hI.key x)) r _ (g.upd hr) (g.none hr) (ay _ _ _)
end Mine
end
noncomputable section
set_option maxRecDepth 10000
set_option maxHeartbeats 1000000
namespace Mine
open PySem PySem.W PyProof.Rows PySem.Calls
structure Gk (P : Prop) (xs : List String) (m₀ : aT) (σ₀ : ai) (m : aT) (σ' : ai) : Prop where
 g : Grow σ₀ σ'
 m : ∀ y, y ∉ xs → m y = m₀ y
 p : P
theorem oW {m₀ : aT} {σ₀ : ai} {K S l : List Str} {a : Addr} {fk : List (Str × V)} {ef : Nat} {Q : Fl → aT → ai → Prop} (hK : Kp K) (ha : σ₀ a = some (.dict fk ef)) (hm : m₀ "known" = some (.ref a)) (hn : Fnd K fk S) (hl : ∀ x ∈ l, x ∈ K)
  (h : ∀ m σ', FndI K a ["path"] m₀ σ₀ (S ++ l) m σ' → Q .next m σ') :
  fC (.name "path") (fun _ => True) (au (aH bN (ak (.bool true)) (af "known") (af "path")) aA) (l.map .str) m₀ σ₀ Q := by
 refine bp (fun i m σ' => FndI K a ["path"] m₀ σ₀ (S ++ l.take i) m σ') (fun _ _ _ => False)
  (fun _ _ _ _ => trivial) _ ?_ ?_ (fun _ _ _ h => h.elim) _ _ ⟨fk, ef, ⟨fun _ _ => rfl, ha, fun _ _ => rfl⟩, by rw [List.take_zero, List.append_nil]; exact hn⟩
 ·rintro i v m σ' Q' hv ⟨fk', ef', L, F⟩ n1 n2 n3
  obtain ⟨y, hy, rfl⟩ := de hv
  refine ⟨_, rfl, ?_⟩
  simp [aq, L.m "known" (by decide), hm]
  refine bF L.x (Nat.lt_of_le_of_lt (F.len hK) (by decide)) fun ep2 => ?_
  refine n1 _ _ ⟨_, ep2, L.set fun y hy => aJ hy (by decide), ?_⟩
  rw [List.take_add_one, hy, ← List.append_assoc]
  exact F.put (hl _ (List.mem_of_getElem? hy))
 ·rintro m σ' I
  rw [List.length_map, List.take_length] at I
  exact h m σ' I
theorem pA {K : List Str} {σ : ai} {a b c : Addr} {ka kb kc : List (Str × V)} {e1 e2 e3 : Nat} (d : D3 K a b c ka kb kc e1 e2 e3 σ) {x : Str} (h : jS ka kb kc x) : x ∈ K := by
 by_cases ha : x ∈ ax ka
 ·exact d.ta.sub x ha
 by_cases hb : x ∈ ax kb
 ·exact d.tb.sub x hb
 by_cases hc : x ∈ ax kc
 ·exact d.tc.sub x hc
 unfold jS jw st at h
 rw [bo ha, bo hb, bo hc] at h
 rcases h with h | ⟨h, _⟩
 ·cases h
 ·exact absurd rfl h
theorem sT {xss : List (List Str)} {i : Nat} {v : V} (h : (xss.map gY)[i]? = some v) : ∃ l, xss[i]? = some l ∧ v = gY l := by
 rw [List.getElem?_map] at h
 obtain ⟨q, hq, rfl⟩ := Option.map_eq_some_iff.mp h
 exact ⟨q, hq, rfl⟩
theorem p9 {kvs : List (Str × V)} {x : Str} (h : x ∉ ax kvs) : fY kvs x = kvs := by
 unfold fY
 exact List.filter_eq_self.mpr fun q hq => by
  have : q.1 ≠ x := fun e => h (e ▸ List.mem_map.mpr ⟨q, hq, rfl⟩)
  simpa using this
theorem qp {K : List Str} {pk kf : List (Str × V)} {p f : Addr} {ep ef : Nat} {m₀ : aT} {σ₀ : ai} {Q : Fl → aT → ai → Prop} {F : Str → Option Str} (hK : Kp K) (hP : Pk K pk) (xp : σ₀ p = some (.dict pk ep)) (xf : σ₀ f = some (.dict kf ef)) (hpf : p ≠ f) (hin : Is K F kf) (mp : m₀ "picks" = some (.ref p)) (mf : m₀ "files" = some (.ref f))
  (h : ∀ m σ', LpF f K (on (ax pk) (gS pk) F) ["path"] m₀ σ₀ m σ' → Q .next m σ') :
  fC (.name "path") (fun σ => σ p = some (.dict pk ep)) (au (b8 (aE (an bY (an ej (af "picks") (af "path")) (ak .none))) (au (aH bN (an ej (af "picks") (af "path")) (af "files") (af "path")) aA) (au (b8 (aE (an dQ (af "path") (af "files"))) (au (ge (a4 bi ly (af "files") (ah (af "path") az))) aA) aA) aA)) aA) (pk.map fun q => .str q.1) m₀ σ₀ Q := by
 refine bp (fun i m σ' => LpF f K (on ((ax pk).take i) (gS pk) F) ["path"] m₀ σ₀ m σ') (fun _ _ _ => False)
  (fun i m σ' ⟨_, _, I, _⟩ => by rw [I.s p hpf]; exact xp) _ ?_ ?_ (fun _ _ _ h => h.elim) _ _ ⟨kf, ef, ⟨fun _ _ => rfl, xf, fun _ _ => rfl⟩, hin.to oU⟩
 ·rintro i v m σ' Q' hv' ⟨kf', ef', I, hI⟩ n1 n2 n3
  rw [List.getElem?_map] at hv'
  obtain ⟨⟨y, w⟩, hq, rfl⟩ := Option.map_eq_some_iff.mp hv'
  have hqm := List.mem_of_getElem? hq
  have hyK := hP.sub y (List.mem_map.mpr ⟨_, hqm, rfl⟩)
  have hy : (ax pk)[i]? = some y := by unfold ax; rw [List.getElem?_map, hq]; rfl
  have yp : σ' p = some (.dict pk ep) := by rw [I.s p hpf]; exact xp
  obtain ⟨w', g1, g2⟩ := dl (show y ∈ pk.map (·.1) from List.mem_map.mpr ⟨_, hqm, rfl⟩)
  cases iA hP.nodup g2 hqm
  obtain ⟨o, ho⟩ := hP.val _ hqm
  have ho : w = dt o := ho
  subst ho
  have h7 := (I.m "picks" (by decide)).trans mp
  have h6 := (I.m "files" (by decide)).trans mf
  have h1 := I.x
  have hgs : gS pk y = o := by unfold gS; rw [g1]; cases o <;> rfl
  refine ⟨_, rfl, ?_⟩
  rw [aq]
  simp [h7]
  refine jg yp g1 ?_
  cases o with
  | none =>
   simp [dt, eH]
   rw [aq]
   simp [h6]
   refine em h1 ?_
   rw [bj]
   by_cases hin' : y ∈ ax kf'
   ·have h' : y ∈ kf'.map (·.1) := hin'
    obtain ⟨v2, hv2, _⟩ := dl h'
    simp only [h', decide_true, bn, if_true]
    rw [aq]
    simp [h6, fj h1]
    refine nt h1 hv2 fun ep' => ?_
    exact n1 _ _ ⟨_, ep', I.set fun z hz => aJ hz (by decide), hI.cut.to (jd hy hgs)⟩
   ·have h' : y ∉ kf'.map (·.1) := hin'
    simp only [h', decide_false, bn, Bool.false_eq_true, if_false]
    have hc := hI.cut (y := y)
    rw [p9 hin'] at hc
    exact n1 _ _ ⟨kf', ef', I.at rfl fun z hz => aJ hz (by decide), hc.to (jd hy hgs)⟩
  | some t =>
   simp [dt, eH]
   rw [aq]
   simp [h6, h7]
   refine jg yp g1 ?_
   try simp [dt]
   refine bF h1 (hI.i0.len hK) fun ep2 => ?_
   exact n1 _ _ ⟨_, ep2, I.set fun z hz => aJ hz (by decide), (hI.put hyK).to (jd hy hgs)⟩
 ·rintro m σ' I
  rw [List.take_of_length_le (by simp [ax])] at I
  exact h m σ' I
theorem ru (ns : List Int) : ∀ vs σ Q X, sp_joined ns vs σ Q X → vs.length = 4 ∧ iQ ns (aM ["elder", "one", "other", "picks"] vs aW) σ (fin Q) (fun c _ σ' => X c σ') := by
 rintro vs σ Q X ⟨K, a, b, c, ka, kb, kc, e1, e2, e3, p, pk, ep, rfl, d, xp, hP, hX, hY, q⟩
 refine ⟨rfl, ?_⟩
 unfold iQ
 rw [ba]
 simp [kZ]
 intro kn en hkn
 have g1 : Grow σ (a8 σ kn (.dict [] en)) := Grow.refl.upd hkn
 have xk := ay σ kn (.dict [] en)
 generalize (a8 σ kn (.dict [] en)) = σ₁ at g1 xk ⊢
 show bW _ _ _ _ _ _
 rw [ba]
 simp [kY]
 refine vF (d.grow g1) fun fs hfs l σ₂ g2 hl xl => ?_
 rw [bB xl]
 have hlk : l ≠ kn := by rintro rfl; rw [xk] at hl; cases hl
 have g12 := g1.trans g2
 refine bp (fun i m σ' => FndI K kn ["clash", "path"] _ σ₂ ((fs.take i).flatMap id) m σ') (fun _ _ _ => False)
  (fun i m σ' ⟨_, _, L, _⟩ => by rw [L.s l hlk]; exact xl) _ ?_ ?_ (fun _ _ _ h => h.elim) _ _ ⟨[], en, ⟨fun _ _ => rfl, g2 _ _ xk, fun _ _ => rfl⟩, List.nodup_nil, fun _ => Iff.rfl, fun _ h => (nomatch h)⟩
 ·rintro i v m σ' Q' hv ⟨fk, ef, L, F⟩ n1 n2 n3
  obtain ⟨y, hy, rfl⟩ := sT hv
  have hyt := List.mem_of_getElem? hy
  refine ⟨_, rfl, ?_⟩
  rw [aq]
  simp
  refine oW d.un L.x ((aJ (xs := ["clash"]) (by decide) (by decide)).trans ((L.m _ (by decide)).trans rfl)) F (fun x hx => pA d ((hfs x).mp ⟨y, hyt, hx⟩)) fun m₂ σ₂' ⟨fk2, ef2, L2, F2⟩ => ?_
  rw [be]
  simp
  refine n1 _ _ ⟨fk2, ef2, ⟨fun z hz => by rw [L2.s z hz]; exact L.s z hz, L2.x, fun z hz => (L2.m z fun e => hz (List.mem_cons_of_mem _ e)).trans ((aJ hz (by decide)).trans (L.m z hz))⟩, ?_⟩
  rw [ji _ hy]; exact F2
 rintro m σ₃ ⟨fk, ef, L, F⟩
 rw [List.length_map, List.take_length] at F
 have kn_iff : ∀ x, x ∈ ax fk ↔ jS ka kb kc x := fun x => (F.mem x).trans (List.mem_flatMap.trans (hfs x))
 have g3 : Grow σ σ₃ := L.grow hkn g12
 have xk3 := L.x
 have xp3 := g3 _ _ xp
 have mk : m "known" = some (.ref kn) := (L.m _ (by decide)).trans rfl
 have me : m "elder" = some (.ref a) := (L.m _ (by decide)).trans rfl
 have mo : m "one" = some (.ref b) := (L.m _ (by decide)).trans rfl
 have mt : m "other" = some (.ref c) := (L.m _ (by decide)).trans rfl
 have mp : m "picks" = some (.ref p) := (L.m _ (by decide)).trans rfl
 clear L F
 rw [cv, ba]
 simp [kX, mp, cz xp3]
 refine eG (fun i m' σ' => Gk (∀ x ∈ (ax pk).take i, x ∈ ax fk) ["path"] m σ₃ m' σ' ∧ σ' = σ₃) (fun i m' σ' h => by rw [h.2]; exact xp3) _ ?_ ?_ _ _ ⟨⟨Grow.refl, fun _ _ => rfl, fun _ h => (nomatch h)⟩, rfl⟩
 ·rintro i v m' σ' Q' hv ⟨I, rfl⟩ n1
  obtain ⟨y, hy, rfl⟩ := il hv
  refine ⟨_, rfl, ?_⟩
  rw [ba]
  simp [(I.m "known" (by decide)).trans mk]
  refine fq xk3 ?_
  rw [bj]
  by_cases hyk : y ∈ ax fk
  ·simp only [decide_eq_true (show y ∈ fk.map (·.1) from hyk), Bool.not_true]
   simp
   refine n1 _ _ ⟨⟨Grow.refl, fun z hz => (aJ hz (by decide)).trans (I.m z hz), fun x hx => ?_⟩, rfl⟩
   rw [List.take_add_one, hy] at hx
   rcases List.mem_append.mp hx with hx | hx
   ·exact I.p x hx
   ·have hx : x = y := by simpa using hx
    rw [hx]; exact hyk
  ·simp only [decide_eq_false (show y ∉ fk.map (·.1) from hyk), Bool.not_false]
   simp [ba]
   exact hX (fun o => hyk ((kn_iff y).mpr (o y (List.mem_of_getElem? hy)))) _ g3
 rintro m' σ' ⟨I, rfl⟩
 have k1 := I.p
 rw [List.take_of_length_le (by simp [ax])] at k1
 replace k1 : ∀ x ∈ ax pk, jS ka kb kc x := fun x hx => (kn_iff x).mp (k1 x hx)
 replace hY := hY k1
 replace q := q k1
 replace me := (I.m "elder" (by decide)).trans me
 replace mo := (I.m "one" (by decide)).trans mo
 replace mt := (I.m "other" (by decide)).trans mt
 replace mp := (I.m "picks" (by decide)).trans mp
 clear I
 rw [cv, ba]
 simp [kW, me, mo, mt]
 refine ri (d.grow g3) fun cs hcs _ l4 σ₄ g4 hl4 xl4 => ?_
 rw [bB xl4]
 have xp4 := g4 _ _ xp3
 have g34 := g3.trans g4
 refine eG (fun i m'' σ'' => Gk (∀ x ∈ cs.take i, x ∈ ax pk) ["path"] m' σ₄ m'' σ'' ∧ σ'' = σ₄) (fun i m' σ' h => by rw [h.2]; exact xl4) _ ?_ ?_ _ _ ⟨⟨Grow.refl, fun _ _ => rfl, fun _ h => (nomatch h)⟩, rfl⟩
 ·rintro i v m'' σ'' Q' hv ⟨I, rfl⟩ n1
  obtain ⟨y, hy, rfl⟩ := de hv
  refine ⟨_, rfl, ?_⟩
  rw [ba]
  simp [(I.m "picks" (by decide)).trans mp]
  refine fq xp4 ?_
  rw [bj]
  by_cases hyk : y ∈ ax pk
  ·simp only [decide_eq_true (show y ∈ pk.map (·.1) from hyk), Bool.not_true]
   simp
   refine n1 _ _ ⟨⟨Grow.refl, fun z hz => (aJ hz (by decide)).trans (I.m z hz), fun x hx => ?_⟩, rfl⟩
   rw [List.take_add_one, hy] at hx
   rcases List.mem_append.mp hx with hx | hx
   ·exact I.p x hx
   ·have hx : x = y := by simpa using hx
    rw [hx]; exact hyk
  ·simp only [decide_eq_false (show y ∉ pk.map (·.1) from hyk), Bool.not_false]
   simp [ba]
   exact hY (fun o => hyk (o.cl y ((hcs y).mp (List.mem_of_getElem? hy)))) _ g34
 rintro m'' σ'' ⟨I, rfl⟩
 have k2 := I.p
 rw [List.length_map, List.take_length] at k2
 replace me := (I.m "elder" (by decide)).trans me
 replace mo := (I.m "one" (by decide)).trans mo
 replace mt := (I.m "other" (by decide)).trans mt
 replace mp := (I.m "picks" (by decide)).trans mp
 clear I
 rw [cv, ba]
 simp [kU, me, mo, mt]
 refine tZ (d.grow g34) fun f kf0 ef5 σ₅ g5 hf xf hI0 => ?_
 have hpf : p ≠ f := by rintro rfl; rw [xp4] at hf; cases hf
 have hfn : σ f = Option.none := g34.none hf
 have g35 := g34.trans g5
 rw [ba]
 simp [kT, mp, cz (g5 _ _ xp4)]
 refine qp d.un hP (g5 _ _ xp4) xf hpf hI0 mp rfl fun m₆ σ₆ ⟨kf, ef6, I6, hI⟩ => ?_
 have xf6 := I6.x
 have g6 : Grow σ σ₆ := I6.grow hfn g35
 have mf : m₆ "files" = some (.ref f) := (I6.m _ (by decide)).trans rfl
 replace hI : Is K (pN ka kb kc pk) kf := hI.to fun _ => rfl
 clear I6
 rw [cv, ba]
 simp [kS, mf, cz xf6]
 refine eG (fun i m σ' => Gk (∀ x ∈ (ax kf).take i, ∀ u ∈ bO x, u ∉ ax kf) ["path", "folder"] m₆ σ₆ m σ') (fun i m σ' h => h.g _ _ xf6) _ ?_ ?_ _ _ ⟨Grow.refl, fun _ _ => rfl, fun _ h => (nomatch h)⟩
 ·intro i v m σ' Q' hv I n1
  obtain ⟨y, hy, rfl⟩ := il hv
  have hym := List.mem_of_getElem? hy
  have hyk := hI.i0.sub y hym
  refine ⟨_, rfl, ?_⟩
  rw [ba]
  simp
  refine rk (d.un.len y hyk) fun r σ₇ g7 hr xr => ?_
  rw [bB xr]
  have xf7 := g7 _ _ (I.g _ _ xf6)
  refine eG (fun j m₂ σ₂ => Gk (∀ u ∈ (bO y).take j, u ∉ ax kf) ["folder"] (put m "path" (.str y)) σ₇ m₂ σ₂ ∧ σ₂ = σ₇) (fun j m₂ σ₂ h => by rw [h.2]; exact xr) _ ?_ ?_ _ _ ⟨⟨Grow.refl, fun _ _ => rfl, fun _ h => (nomatch h)⟩, rfl⟩
  ·rintro j v m₂ σ₂ Q₂ hv ⟨J, rfl⟩ n2
   obtain ⟨u, hu, rfl⟩ := de hv
   have mf2 : m₂ "files" = some (.ref f) := (J.m _ (by decide)).trans ((aJ (xs := ["path"]) (by decide) (by decide)).trans ((I.m _ (by decide)).trans mf))
   refine ⟨_, rfl, ?_⟩
   rw [ba]
   simp [mf2]
   refine em xf7 ?_
   rw [bj]
   by_cases huk : u ∈ ax kf
   ·simp only [decide_eq_true (show u ∈ kf.map (·.1) from huk)]
    simp [ba]
    exact hY (fun o => o.fre y u ((hI.key y).mp hym) ((hI.key u).mp huk) (List.mem_of_getElem? hu)) _ (g6.trans (I.g.trans g7))
   ·simp only [decide_eq_false (show u ∉ kf.map (·.1) from huk)]
    simp
    refine n2 _ _ ⟨⟨Grow.refl, fun z hz => (aJ hz (by decide)).trans (J.m z hz), fun x hx => ?_⟩, rfl⟩
    rw [List.take_add_one, hu] at hx
    rcases List.mem_append.mp hx with hx | hx
    ·exact J.p x hx
    ·have hx : x = u := by simpa using hx
     rw [hx]; exact huk
  ·rintro m₂ σ₂ ⟨J, rfl⟩
   have jp := J.p
   rw [List.length_map, List.take_length] at jp
   rw [cv]
   simp
   refine n1 _ _ ⟨I.g.trans g7, fun z hz => (J.m z fun e => hz (List.mem_cons_of_mem _ e)).trans ((aJ hz (by decide)).trans (I.m z hz)), fun x hx => ?_⟩
   rw [List.take_add_one, hy] at hx
   rcases List.mem_append.mp hx with hx | hx
   ·exact I.p x hx
   ·have hx : x = y := by simpa using hx
    rw [hx]; exact jp
 ·intro m σ' I
  have k3 := I.p
  rw [List.take_of_length_le (by simp [ax])] at k3
  rw [cv, pn, aq]
  simp [kR, (I.m "files" (by decide)).trans mf]
  exact q ⟨fun x hx => k2 x ((hcs x).mpr hx), fun x y hx hy hxy => k3 x ((hI.key x).mpr hx) y hxy ((hI.key y).mpr hy)⟩ f kf ef6 σ' (g6.trans I.g) hfn (I.g _ _ xf6) hI
end Mine
end
noncomputable section
set_option maxRecDepth 10000
set_option maxHeartbeats 1000000
namespace Mine
open PySem PySem.W PyProof.Rows PySem.Calls
section
variable {ns : List Int} {σ : ai} {Q : V → ai → Prop} {w m t : Option Str}
theorem t0 (q : Q (dt (lE w m t)) σ) : sp__law_at ns [dt w, dt m, dt t] σ Q := ⟨w, m, t, rfl, q⟩
theorem lx (q : Q (.bool (fz w m t)) σ) : sp__law_splits ns [dt w, dt m, dt t] σ Q := ⟨w, m, t, rfl, q⟩
end
theorem xi (ns : List Int) : ∀ vs σ Q, sp__law_at ns vs σ Q → vs.length = 3 ∧ gU ns (aM ["_law_was", "_law_left", "_law_right"] vs aW) σ (fin Q) := by
 rintro vs σ Q ⟨w, m, t, rfl, q⟩
 refine ⟨rfl, ?_⟩
 unfold lE at q
 unfold gU
 rw [aq]
 simp [jG]
 by_cases h1 : m = t
 ·subst h1
  rw [if_pos (.inl rfl)] at q
  simpa [aq] using q
 by_cases h2 : t = w
 ·subst h2
  rw [if_pos (.inr rfl)] at q
  simpa [aq, h1] using q
 rw [if_neg fun z => z.elim h1 h2] at q
 simpa [aq, jF, h1, h2] using q
theorem rq (ns : List Int) : ∀ vs σ Q, sp__law_splits ns vs σ Q → vs.length = 3 ∧ di ns (aM ["_law_was", "_law_left", "_law_right"] vs aW) σ (fin Q) := by
 rintro vs σ Q ⟨w, m, t, rfl, q⟩
 refine ⟨rfl, ?_⟩
 unfold fz at q
 unfold di
 rw [aq]
 simp [fR]
 by_cases h1 : m = t
 ·simpa [h1] using q
 by_cases h2 : m = w
 ·simpa [h1, h2] using q
 simpa [h1, h2] using q
theorem t9 {w m t : Option Str} (h : fz w m t = false) : lE w m t = jt w m t := by
 unfold lE jt
 rw [h]
 unfold fz at h
 by_cases h1 : m = t
 ·subst h1
  by_cases h2 : m = w <;> simp [h2]
 by_cases h2 : t = w
 ·subst h2; simp [h1]
 by_cases h3 : m = w
 ·subst h3; simp [h1, h2]
 simp [h1, h2, h3] at h
theorem In0.few {K : List Str} {f : List (Str × V)} (h : In0 K f) (hK : Kp K) : f.length ≤ 1000 := by
 have := h.nodup.length_le_of_subset fun x hx => h.sub x hx
 unfold ax at this
 rw [List.length_map] at this
 exact Nat.le_trans this hK.few
theorem nq {m : aT} {K : List Str} {σ : ai} {X Y Z : String} {a b c : Addr} {ka kb kc : List (Str × V)} {e1 e2 e3 : Nat} {Q : V → ai → Prop} (d : D3 K a b c ka kb kc e1 e2 e3 σ) (mx : m X = some (.ref a)) (my : m Y = some (.ref b)) (mz : m Z = some (.ref c))
  (q : ∀ ks, Al ka kb kc ks → iz (ks.map .str) σ Q) :
  eR (an aR (an aR (aC ck (ah (af X) az)) (aC ck (ah (af Y) az))) (aC ck (ah (af Z) az))) m σ Q := by
 have la := d.ta.few d.un
 have lb := d.tb.few d.un
 have lc := d.tc.few d.un
 unfold eR
 simp [mx]
 rw [fu d.xa]
 intro p1 hp1
 have g1 : Grow σ (a8 σ p1 (.list (ka.map fun q => .str q.1))) := Grow.refl.upd hp1
 have xp1 := ay σ p1 (.list (ka.map fun q => .str q.1))
 generalize (a8 σ p1 (.list (ka.map fun q => .str q.1))) = σ₁ at g1 xp1 ⊢
 simp [my]
 rw [fu (g1 _ _ d.xb)]
 intro p2 hp2
 have g2 : Grow σ₁ (a8 σ₁ p2 (.list (kb.map fun q => .str q.1))) := Grow.refl.upd hp2
 have xp2 := ay σ₁ p2 (.list (kb.map fun q => .str q.1))
 generalize (a8 σ₁ p2 (.list (kb.map fun q => .str q.1))) = σ₂ at g2 xp2 ⊢
 refine dW (g2 _ _ xp1) xp2 (by simp; exact dE fun hg => lN [(ka.length), (kb.length)] 0x290100000028461fa041287e810481 rfl la lb hg) ?_
 intro p3 hp3
 have g3 : Grow σ₂ (a8 σ₂ p3 (.list ((ka.map fun q => V.str q.1) ++ kb.map fun q => .str q.1))) := Grow.refl.upd hp3
 have xp3 := ay σ₂ p3 (.list ((ka.map fun q => V.str q.1) ++ kb.map fun q => .str q.1))
 generalize (a8 σ₂ p3 (.list ((ka.map fun q => V.str q.1) ++ kb.map fun q => .str q.1))) = σ₃ at g3 xp3 ⊢
 simp [mz]
 rw [fu (g3 _ _ (g2 _ _ (g1 _ _ d.xc)))]
 intro p4 hp4
 have g4 : Grow σ₃ (a8 σ₃ p4 (.list (kc.map fun q => .str q.1))) := Grow.refl.upd hp4
 have xp4 := ay σ₃ p4 (.list (kc.map fun q => .str q.1))
 generalize (a8 σ₃ p4 (.list (kc.map fun q => .str q.1))) = σ₄ at g4 xp4 ⊢
 refine dW (g4 _ _ xp3) xp4 (by simp; exact dE fun hg => lN [(ka.length), (kb.length), (kc.length)] 0x3148004000000a1187e8104c1fa041287e810481 rfl la lb lc hg) ?_
 intro p5 hp5
 refine ⟨p5, rfl, ax ka ++ ax kb ++ ax kc, by rw [ay]; simp [ax]; rfl, by simp [ax]; exact dE fun hg => lN [(ka.length), (kb.length), (kc.length)] 0xc501003e8061187e8104c1fa041287e810481 rfl la lb lc hg, ?_⟩
 generalize hs : a8 σ₄ p5 _ = σ₅
 have g5 : Grow σ₄ σ₅ := by rw [← hs]; exact Grow.refl.upd hp5
 intro us hu1 hu2 l hl
 have g6 := (((g1.trans g2).trans g3).trans g4).trans g5
 exact q us ⟨hu1, fun x => (hu2 x).trans (by simp [or_assoc])⟩ l _ (g6.upd hl) (g6.none hl) (ay _ _ _)
theorem jy {α : Type} (p : α → Bool) (l : List α) {i : Nat} {y : α} (h : l[i]? = some y) : (l.take (i + 1)).filter p = (l.take i).filter p ++ if p y then [y] else [] := by
 rw [List.take_add_one, h, List.filter_append]
 cases e : p y <;> simp [e]
inductive Pl2 (K : List Str) (f t : Addr) (xs : List String) (m₀ : aT) (σ₀ : ai) (S T : List Str) (m : aT) (σ' : ai) : Prop
 | mk (kf kt : List (Str × V)) (ef et : Nat) (hf : σ' f = some (.dict kf ef)) (ht : σ' t = some (.dict kt et)) (s : ∀ d, d ≠ f → d ≠ t → σ' d = σ₀ d) (lm : ∀ y, y ∉ xs → m y = m₀ y) (F : Fnd K kf S) (G : Fnd K kt T) : Pl2 K f t xs m₀ σ₀ S T m σ'
inductive FndK (K : List Str) (t : Addr) (xs : List String) (m₀ : aT) (σ₀ : ai) (S : List Str) (m : aT) (σ' : ai) : Prop
 | mk (fk : List (Str × V)) (ep : Nat) (l : Kl t (.dict fk ep) xs m₀ σ₀ m σ') (F : Fnd K fk S) : FndK K t xs m₀ σ₀ S m σ'
theorem qZ {m₀ : aT} {σ₀ : ai} {K S : List Str} {t f l : Addr} {kf kt : List (Str × V)} {ef et : Nat} {y : Str} {us : List Str} {Q : Fl → aT → ai → Prop} (hK : Kp K) (ht : f ≠ t) (htl : l ≠ t) (xt : σ₀ t = some (.dict kt et)) (xf : σ₀ f = some (.dict kf ef)) (xl : σ₀ l = some (.list (us.map .str)))
  (mt : m₀ "_law_places_here" = some (.ref t)) (mf : m₀ "_law_made" = some (.ref f)) (mp : m₀ "_law_lower" = some (.str y)) (F : Fnd K kt S) (hy : y ∈ K) (hk : ∀ x ∈ ax kf, x ∈ K)
  (h : ∀ m σ', FndI K t ["_law_upper"] m₀ σ₀ (S ++ (gZ (ax kf) y us).flatten) m σ' → Q .next m σ') :
  fC (.name "_law_upper") (fun σ => σ l = some (.list (us.map .str))) (au (b8 (aE (an dQ (af "_law_upper") (af "_law_made"))) (au (aH bN (ak (.bool true)) (af "_law_places_here") (af "_law_upper"))
 (au (aH bN (ak (.bool true)) (af "_law_places_here") (af "_law_lower"))
 aA)) aA)
 aA) (us.map .str) m₀ σ₀ Q := by
 refine bp (fun j m σ' => FndI K t ["_law_upper"] m₀ σ₀ (S ++ (gZ (ax kf) y (us.take j)).flatten) m σ') (fun _ _ _ => False)
  (fun j m σ' ⟨_, _, h, _⟩ => by rw [h.s _ htl]; exact xl) _ ?_ ?_ (fun _ _ _ h => h.elim) _ _ ⟨kt, et, ⟨fun _ _ => rfl, xt, fun _ _ => rfl⟩, by rw [List.take_zero]; simpa [gZ] using F⟩
 ·rintro j v m σ' Q' hv ⟨fk, ep, I, F⟩ n1 n2 n3
  obtain ⟨u, hu, rfl⟩ := de hv
  refine ⟨_, rfl, ?_⟩
  have e1 := (I.m "_law_places_here" (by decide)).trans mt
  have e2 := (I.m "_law_made" (by decide)).trans mf
  have e3 := (I.m "_law_lower" (by decide)).trans mp
  have yf : σ' f = some (.dict kf ef) := by rw [I.s _ ht]; exact xf
  have h2 := I.x
  have lo : ∀ z, z ∉ ["_law_upper"] → put m "_law_upper" (.str u) z = m z := fun z hz => aJ hz (by decide)
  rw [aq]
  simp [e2]
  refine em yf ?_
  rw [bj]
  by_cases hin : u ∈ ax kf
  ·simp only [decide_eq_true (show u ∈ kf.map (·.1) from hin), bn, if_true]
   rw [aq]
   simp [e1]
   refine bF h2 (Nat.lt_of_le_of_lt (F.len hK) (by decide)) fun ep2 => ?_
   have F2 := F.put (v := .bool true) (hk u hin)
   rw [aq]
   simp [e1, e3]
   refine bF (ay _ _ _) (Nat.lt_of_le_of_lt (F2.len hK) (by decide)) fun ep3 => ?_
   refine n1 _ _ ⟨_, ep3, (I.set lo).set fun _ _ => rfl, ?_⟩
   rw [gN hu, if_pos hin, List.flatten_append]
   have := F2.put (v := .bool true) hy
   simpa using this
  ·simp only [decide_eq_false (show u ∉ kf.map (·.1) from hin), bn, Bool.false_eq_true, if_false]
   refine n1 _ _ ⟨fk, ep, I.at rfl lo, ?_⟩
   rw [gN hu, if_neg hin, List.append_nil]; exact F
 ·intro m σ' I
  rw [List.length_map, List.take_length] at I
  exact h m σ' I
theorem rr (ns : List Int) : ∀ vs σ Q, sp__law_places ns vs σ Q → vs.length = 3 ∧ dj ns (aM ["_law_elder", "_law_one", "_law_other"] vs aW) σ (fin Q) := by
 rintro vs σ Q ⟨K, a, b, c, ka, kb, kc, e1, e2, e3, rfl, d, q⟩
 refine ⟨rfl, ?_⟩
 unfold dj
 rw [aq]
 simp [fX]
 intro f ef hf
 have g1 : Grow σ (a8 σ f (.dict [] ef)) := Grow.refl.upd hf
 have xf := ay σ f (.dict [] ef)
 generalize (a8 σ f (.dict [] ef)) = σ₁ at g1 xf ⊢
 show au _ _ _ _ _
 rw [aq]
 simp [fW]
 intro t et ht
 have htn := g1.none ht
 have hft : f ≠ t := by rintro rfl; rw [xf] at ht; cases ht
 have g2 : Grow σ₁ (a8 σ₁ t (.dict [] et)) := Grow.refl.upd ht
 have xt := ay σ₁ t (.dict [] et)
 generalize (a8 σ₁ t (.dict [] et)) = σ₂ at g2 xt ⊢
 have g12 := g1.trans g2
 show au _ _ _ _ _
 rw [aq]
 simp only [fV, pz, r6]
 refine nq (d.grow g12) (by simp) (by simp) (by simp) fun ks hks l σ₃ g3 hl xl => ?_
 simp only [bB xl]
 have hlf : l ≠ f := by rintro rfl; rw [g2 _ _ xf] at hl; cases hl
 have hlt : l ≠ t := by rintro rfl; rw [xt] at hl; cases hl
 have g13 := g12.trans g3
 refine bp (fun i m σ' => Pl2 K f t ["_law_path"] _ σ₃ ((ks.take i).filter fun x => (st ka kb kc x).isSome) ((ks.take i).filter fun x => jw ka kb kc x) m σ') (fun _ _ _ => False)
  (fun i m σ' ⟨_, _, _, _, _, _, s, _, _, _⟩ => by rw [s l hlf hlt]; exact xl) _ ?_ ?_ (fun _ _ _ h => h.elim) _ _ ⟨[], [], ef, et, g3 _ _ (g2 _ _ xf), g3 _ _ xt, fun _ _ _ => rfl, fun _ _ => rfl, ⟨List.nodup_nil, fun _ => Iff.rfl, fun _ h => (nomatch h)⟩, ⟨List.nodup_nil, fun _ => Iff.rfl, fun _ h => (nomatch h)⟩⟩
 ·rintro i v m σ' Q' hv ⟨kf, kt, ef', et', xf', xt', s, lm, F, G⟩ n1 n2 n3
  obtain ⟨y, hy, rfl⟩ := de hv
  refine ⟨_, rfl, ?_⟩
  have ne : ∀ {z o}, σ z = some o → σ' z = some o := fun {z o} e => by rw [s z (by rintro rfl; rw [hf] at e; cases e) (by rintro rfl; rw [htn] at e; cases e)]; exact g13 _ _ e
  have ya := ne d.xa
  have yb := ne d.xb
  have yc := ne d.xc
  have hyK := d.key hks (List.mem_of_getElem? hy)
  have w1 : m "_law_elder" = some (.ref a) := (lm _ (by decide)).trans rfl
  have w2 : m "_law_one" = some (.ref b) := (lm _ (by decide)).trans rfl
  have w3 : m "_law_other" = some (.ref c) := (lm _ (by decide)).trans rfl
  have w4 : m "_law_made" = some (.ref f) := (lm _ (by decide)).trans rfl
  have w5 : m "_law_places_here" = some (.ref t) := (lm _ (by decide)).trans rfl
  have lo : ∀ z, z ∉ ["_law_path"] → put m "_law_path" (.str y) z = _ := fun z hz => (aJ hz (by decide)).trans (lm z hz)
  have f1 := jy (fun x => (st ka kb kc x).isSome) ks hy
  have f2 := jy (fun x => jw ka kb kc x) ks hy
  rw [aq]
  simp only [uv, rd, n4, dS, fw, gn, dU]
  simp [w1, w2, w3]
  refine bZ ya d.ta (bZ yb d.tb (bZ yc d.tc (lx ?_)))
  cases hc : jw ka kb kc y with
  | true =>
   have hs : st ka kb kc y = Option.none := if_pos hc
   rw [show fz (gS ka y) (gS kb y) (gS kc y) = true from hc]
   simp only [bn, if_true]
   rw [aq]
   simp [w5]
   refine bF xt' (Nat.lt_of_le_of_lt (G.len d.un) (by decide)) fun ep2 => ?_
   refine n1 _ _ ⟨kf, _, ef', ep2, by rw [bh hft]; exact xf', ay _ _ _, fun z z1 z2 => by rw [bh z2]; exact s z z1 z2, lo, ?_, ?_⟩
   ·rw [f1, hs]; simpa using F
   ·rw [f2, hc]; exact G.put hyK
  | false =>
   rw [show fz (gS ka y) (gS kb y) (gS kc y) = false from hc]
   simp only [bn, Bool.false_eq_true, if_false]
   rw [aq]
   simp [w1, w2, w3]
   refine bZ ya d.ta (bZ yb d.tb (bZ yc d.tc (t0 ?_)))
   rw [t9 hc]
   cases hs : st ka kb kc y with
   | none =>
    rw [show jt (gS ka y) (gS kb y) (gS kc y) = Option.none from hs]
    simp [dt, eH]
    refine n1 _ _ ⟨kf, kt, ef', et', xf', xt', s, lo, ?_, ?_⟩
    ·rw [f1, hs]; simpa using F
    ·rw [f2, hc]; simpa using G
   | some o =>
    rw [show jt (gS ka y) (gS kb y) (gS kc y) = some o from hs]
    simp [dt, eH, aq, w4]
    refine bF xf' (Nat.lt_of_le_of_lt (F.len d.un) (by decide)) fun ep2 => ?_
    refine n1 _ _ ⟨_, kt, ep2, et', ay _ _ _, by rw [bh hft.symm]; exact xt', fun z z1 z2 => by rw [bh z1]; exact s z z1 z2, lo, ?_, ?_⟩
    ·rw [f1, hs]; exact F.put hyK
    ·rw [f2, hc]; simpa using G
 ·rintro m σ₄ ⟨kf, kt, ef', et', xf', xt', s, lm, F, G⟩
  rw [List.length_map, List.take_length] at F G
  have g4 : Grow σ σ₄ := fun z o e => by rw [s z (by rintro rfl; rw [hf] at e; cases e) (by rintro rfl; rw [htn] at e; cases e)]; exact g13 _ _ e
  have w4 : m "_law_made" = some (.ref f) := (lm _ (by decide)).trans rfl
  have w5 : m "_law_places_here" = some (.ref t) := (lm _ (by decide)).trans rfl
  have hk : ∀ x ∈ ax kf, x ∈ K := fun x hx => F.sub x ((F.mem x).mp hx)
  clear lm s
  rw [be, aq]
  simp [fU, w4, cz xf']
  refine bp (fun i m' σ' => FndK K t ["_law_lower", "_law_upper"] m σ₄ ((ks.filter fun x => jw ka kb kc x) ++ (((ax kf).take i).flatMap fun x => gZ (ax kf) x (jW x)).flatten) m' σ') (fun _ _ _ => False)
   (fun i m' σ' ⟨_, _, h, _⟩ => h.k _ _ xf' hft) _ ?_ ?_ (fun _ _ _ h => h.elim) _ _ ⟨kt, et', ⟨fun _ _ e _ => e, xt', fun _ _ => rfl⟩, by rw [List.take_zero]; simpa using G⟩
  ·rintro i v m' σ' Q' hv ⟨kt', et2, I, G'⟩ n1 n2 n3
   obtain ⟨y, hy, rfl⟩ := il hv
   refine ⟨_, rfl, ?_⟩
   have hyK := hk y (List.mem_of_getElem? hy)
   rw [aq]
   simp
   refine rf (d.un.len y hyK) fun r σ₅ g5 hr xr => ?_
   rw [bB xr]
   have hrt : r ≠ t := by rintro rfl; rw [I.x] at hr; cases hr
   refine qZ (y := y) d.un hft hrt (g5 _ _ I.x) (g5 _ _ (I.k _ _ xf' hft)) xr ((aJ (xs := ["_law_lower"]) (by decide) (by decide)).trans ((I.m _ (by decide)).trans w5)) ((aJ (xs := ["_law_lower"]) (by decide) (by decide)).trans ((I.m _ (by decide)).trans w4)) rfl G' hyK hk fun m₅ σ₅' ⟨kt3, et3, L, G3⟩ => ?_
   rw [be]
   simp
   refine n1 _ _ ⟨kt3, et3, ⟨fun z oz e hz => by rw [L.s z hz]; exact g5 _ _ (I.k z oz e hz), L.x, fun z hz => (L.m z fun e => hz (List.mem_cons_of_mem _ e)).trans ((aJ hz (by decide)).trans (I.m z hz))⟩, ?_⟩
   rw [ji _ hy, List.flatten_append, ← List.append_assoc]; exact G3
  ·rintro m' σ' ⟨kt', et2, I, G'⟩
   rw [List.take_of_length_le (by simp [ax])] at G'
   rw [be, aq]
   simp [fT, (I.m "_law_places_here" (by decide)).trans w5]
   refine nk I.x fun us hp r hr => ?_
   have g5 := I.grow htn g4
   have hin : ∀ x, x ∉ ks → gS ka x = Option.none ∧ gS kb x = Option.none ∧ gS kc x = Option.none := fun x hx =>
    ⟨bo fun z => hx ((hks.mem x).mpr (.inl z)), bo fun z => hx ((hks.mem x).mpr (.inr (.inl z))), bo fun z => hx ((hks.mem x).mpr (.inr (.inr z)))⟩
   have hcs : ∀ x, x ∈ (ks.filter fun x => jw ka kb kc x) ↔ jw ka kb kc x = true := fun x => by
    rw [List.mem_filter]
    refine ⟨fun h => h.2, fun h => ⟨Classical.byContradiction fun hx => ?_, h⟩⟩
    obtain ⟨i1, i2, i3⟩ := hin x hx
    unfold jw at h
    rw [i1, i2, i3] at h; cases h
   have hst : ∀ x, x ∈ ax kf ↔ st ka kb kc x ≠ Option.none := fun x => by
    rw [F.mem, List.mem_filter]
    refine ⟨fun h => by obtain ⟨o, e⟩ := Option.isSome_iff_exists.mp h.2; rw [e]; exact fun z => (nomatch z), fun h => ⟨Classical.byContradiction fun hx => h (oM hks x hx).symm, Option.isSome_iff_ne_none.mpr h⟩⟩
   refine q us (fun x => hp.mem_iff.trans ((G'.mem x).trans ?_)) ?_ r _ (g5.upd hr) (g5.none hr) (ay _ _ _)
   ·rw [← m8 (ab := jW) (fun _ _ => ic) hcs hst, List.mem_append, List.mem_flatten]
    unfold pr
    constructor
    ·rintro (h | ⟨l, h1, h2⟩)
     ·exact ⟨[x], List.mem_append_left _ (List.mem_map.mpr ⟨x, h, rfl⟩), .head _⟩
     ·exact ⟨l, List.mem_append_right _ h1, h2⟩
    ·rintro ⟨l, h1, h2⟩
     rcases List.mem_append.mp h1 with h | h
     ·obtain ⟨y, hy, rfl⟩ := List.mem_map.mp h
      rw [List.mem_singleton.mp h2]; exact .inl hy
     ·exact .inr ⟨l, h, h2⟩
   ·rw [hp.length_eq, List.length_map]; exact G'.len d.un
end Mine
end
noncomputable section
set_option maxRecDepth 10000
set_option maxHeartbeats 1000000
namespace Mine
open PySem PySem.W PyProof.Rows PySem.Calls
theorem Pk.nil {K : List Str} : Pk K [] := ⟨fun _ h => (nomatch h), fun _ h => (nomatch h), List.nodup_nil⟩
theorem Pk.put {K : List Str} {pk : List (Str × V)} {y : Str} {o : Option Str} (h : Pk K pk) (hy : y ∈ K) : Pk K (a5 pk y (dt o)) :=
 ⟨fun x hx => ((cj _ _ _ x).mp hx).elim (fun e => e ▸ hy) (h.sub x), fun q hq => (eg hq).elim (fun e => by rw [e]; exact ⟨o, rfl⟩) (h.val q), df h.nodup⟩
theorem Pk.len {K : List Str} {pk : List (Str × V)} (h : Pk K pk) (hK : Kp K) : pk.length < 16777216 := by
 have := h.nodup.length_le_of_subset fun x hx => h.sub x hx
 unfold ax at this
 rw [List.length_map] at this
 exact Nat.lt_of_le_of_lt (Nat.le_trans this hK.few) (by decide)
inductive PkI (K : List Str) (S : List Str) (p : Addr) (m₀ : aT) (σ₀ : ai) (m : aT) (σ' : ai) : Prop
 | mk (pk : List (Str × V)) (ep : Nat) (l : Kl p (.dict pk ep) ["_law_k", "_law_way"] m₀ σ₀ m σ') (P : Pk K pk) (h : ∀ x ∈ ax pk, x ∈ S) : PkI K S p m₀ σ₀ m σ'
theorem s7 (ns : List Int) : ∀ vs σ Q, sp__law_picks ns vs σ Q → vs.length = 3 ∧ dI ns (aM ["_law_places_here", "_law_script", "_law_trees_here"] vs aW) σ (fin Q) := by
 rintro vs σ Q ⟨K, a, b, c, ka, kb, kc, e1, e2, e3, l, t, xs, rfl, d, xl, hxK, hlen, xt, q⟩
 refine ⟨rfl, ?_⟩
 unfold dI
 rw [aq]
 simp [gH]
 intro p ep hp
 have g1 : Grow σ (a8 σ p (.dict [] ep)) := Grow.refl.upd hp
 have xp := ay σ p (.dict [] ep)
 generalize (a8 σ p (.dict [] ep)) = σ₁ at g1 xp ⊢
 show au _ _ _ _ _
 rw [aq]
 simp [gG, gm (g1 _ _ xl)]
 refine ⟨by omega, ?_⟩
 have np : ∀ {z o}, σ z = some o → z ≠ p := fun {z o} e => by rintro rfl; rw [hp] at e; cases e
 refine bp (fun i m σ' => PkI K xs p _ σ₁ m σ') (fun _ _ _ => False) (fun _ _ _ _ => trivial) _ ?_ ?_ (fun _ _ _ h => h.elim) _ _ ⟨[], ep, ⟨fun _ _ e _ => e, xp, fun _ _ => rfl⟩, Pk.nil, fun _ h => (nomatch h)⟩
 ·rintro i v m σ' Q' hv ⟨pk, ep', I, P, hS⟩ n1 n2 n3
  obtain ⟨hi, rfl⟩ := b5 hv
  refine ⟨_, rfl, ?_⟩
  have yl := I.k _ _ (g1 _ _ xl) (np xl)
  have yt := I.k _ _ (g1 _ _ xt) (np xt)
  have yb := I.k _ _ (g1 _ _ d.xb) (np d.xb)
  have yc := I.k _ _ (g1 _ _ d.xc) (np d.xc)
  have hx : xs[i]? = some xs[i] := List.getElem?_eq_getElem hi
  have hxm : xs[i] ∈ xs := List.getElem_mem hi
  generalize xs[i] = x at hx hxm
  have w1 : m "_law_places_here" = some (.ref l) := (I.m _ (by decide)).trans rfl
  have w2 : m "_law_script" = some .script := (I.m _ (by decide)).trans rfl
  have w3 : m "_law_trees_here" = some (.ref t) := (I.m _ (by decide)).trans rfl
  have w4 : m "_law_picks_here" = some (.ref p) := (I.m _ (by decide)).trans rfl
  have yp := I.x
  have item : ∀ {σ₂ : ai} {Q : V → ai → Prop}, Grow σ' σ₂ → Q (.str x) σ₂ → aG ns (.ref l) (.int i) σ₂ Q := fun {σ₂ Q} g q =>
   cA (g _ _ yl) (Int.natCast_nonneg _) (by rw [Int.toNat_natCast, List.getElem?_map, hx]; rfl) q
  have put1 : ∀ (m' : aT) (o : Option Str) (σ₂ : ai), Grow σ' σ₂ → (∀ z, z ∉ ["_law_k", "_law_way"] → m' z = m z) → bN (.ref p) (.str x) (dt o) σ₂ fun σ₃ => Q' .next m' σ₃ := fun m' o σ₂ g hm =>
   bF (g _ _ yp) (P.len d.un) fun ep2 => n1 _ _ ⟨_, ep2, ⟨fun z oz e hz => by rw [bh hz]; exact g _ _ (I.k z oz e hz), ay _ _ _, fun y hy => (hm y hy).trans (I.m y hy)⟩, P.put (hxK x hxm), fun z hz => ((cj _ _ _ z).mp hz).elim (fun e => e ▸ hxm) (hS z)⟩
  have tail : ∀ (m' : aT) (r : Nat), r < 6 → m' "_law_way" = some (.int r) → m' "_law_k" = some (.int i) → (∀ z, z ∉ ["_law_k", "_law_way"] → m' z = m z) → (au (b8 (aE (an bk (af "_law_way") (ak (.int 1)))) (au (aH bN (aC (sp__law_line_by ns) (ah (an aR (ak (.int 1)) (af "_law_k")) (ah (aC (sp__law_cell_at ns) (ah (af "_law_script") (ah (ak (.int 27)) az))) az))) (af "_law_picks_here") (an (aG ns) (af "_law_places_here") (af "_law_k")))
 aA) (au (b8 (aE (an bk (af "_law_way") (ak (.int 2)))) (au (aH bN (ak (.str (Str.ofString ""))) (af "_law_picks_here") (an (aG ns) (af "_law_places_here") (af "_law_k")))
 aA) (au (b8 (aE (an bk (af "_law_way") (ak (.int 3)))) (au (aH bN (ak .none) (af "_law_picks_here") (an (aG ns) (af "_law_places_here") (af "_law_k")))
 aA) (au (b8 (aE (an rD (af "_law_way") (ak (.int 3)))) (au (aH bN (a4 bi bX (an (aG ns) (af "_law_trees_here") (an nw (af "_law_way") (ak (.int 3)))) (ah (an (aG ns) (af "_law_places_here") (af "_law_k")) az)) (af "_law_picks_here") (an (aG ns) (af "_law_places_here") (af "_law_k")))
 aA) aA)
 aA))
 aA))
 aA))
 aA) m' σ' Q' := by
   intro m' r hr mw mk hm
   have v1 := (hm "_law_places_here" (by decide)).trans w1
   have v2 := (hm "_law_script" (by decide)).trans w2
   have v3 := (hm "_law_trees_here" (by decide)).trans w3
   have v4 := (hm "_law_picks_here" (by decide)).trans w4
   have get1 : ∀ (j : Int) (z : Addr) kz ez, 0 ≤ j → ([V.ref a, V.ref b, V.ref c] : List V)[j.toNat]? = some (.ref z) → σ' z = some (.dict kz ez) → In0 K kz → aG ns (.ref t) (.int j) σ' fun v σ₂ => (bi v σ₂ ∧ aG ns (.ref l) (.int i) σ₂ fun u σ₃ => bX [v, u] σ₃ fun o σ₄ => aG ns (.ref l) (.int i) σ₄ fun u σ₅ => bN (.ref p) u o σ₅ fun σ₆ => Q' .next m' σ₆) := fun j z kz ez j0 hj hz hin =>
    cA yt j0 hj ⟨by rw [fj hz]; trivial, item Grow.refl (nS hz (by rw [wf hin]; exact item Grow.refl (put1 m' _ σ' Grow.refl hm)))⟩
   match r, hr with
   | 0, _ =>
    simp [aq, mw]
    exact n1 _ _ ⟨pk, ep', ⟨I.k, I.x, fun y hy => (hm y hy).trans (I.m y hy)⟩, P, hS⟩
   | 1, _ =>
    simp [aq, mw, mk, v1, v2, v4]
    exact fun y σ₂ g => item g (put1 m' (some y) σ₂ g hm)
   | 2, _ =>
    simp [aq, mw, mk, v1, v4]
    exact item Grow.refl (put1 m' (some _) σ' Grow.refl hm)
   | 3, _ =>
    simp [aq, mw, mk, v1, v4]
    exact item Grow.refl (put1 m' Option.none σ' Grow.refl hm)
   | 4, _ =>
    simp [aq, mw, mk, v1, v3, v4]
    exact get1 1 b kb e2 (by decide) rfl yb d.tb
   | 5, _ =>
    simp [aq, mw, mk, v1, v3, v4]
    exact get1 2 c kc e3 (by decide) rfl yc d.tc
  rw [aq]
  simp [w2]
  refine ⟨.inl (by unfold ey; decide), .inr (by unfold ey; decide), ?_⟩
  obtain ⟨r, er, hr⟩ := rg ((cell ns 26 + 5 * (i : Int)) * 48271 % 65537) (m := 6) (by decide)
  have er : (cell ns 26 + 5 * (i : Int)) * 48271 % 65537 % 6 = r := er
  rw [er]
  rw [aq]
  simp [w2]
  split
  ·rw [aq]
   simp
   obtain ⟨r5, e5, h5⟩ := rg (r : Int) (m := 5) (by decide)
   have e5 : (r : Int) % 5 = r5 := e5
   rw [e5]
   exact tail _ (1 + r5) (by omega) (by simp) (by simp) fun z hz => by rw [aJ hz (by decide), aJ hz (by decide), aJ hz (by decide)]
  ·exact tail _ r hr (by simp) (by simp) fun z hz => by rw [aJ hz (by decide), aJ hz (by decide)]
 ·rintro m σ' ⟨pk, ep', I, P, hS⟩
  rw [be, aq]
  simp [gF, (I.m "_law_picks_here" (by decide)).trans rfl]
  exact q p pk ep' σ' (I.grow hp g1) hp I.x ⟨P, hS⟩
theorem pB {a b c : List (Str × V)} {ks : List Str} (hks : Al a b c ks) {x : Str} (h : jS a b c x) : x ∈ ks := Classical.byContradiction fun hx => by
 have i1 := bo fun z => hx ((hks.mem x).mpr (.inl z))
 have i2 := bo fun z => hx ((hks.mem x).mpr (.inr (.inl z)))
 have i3 := bo fun z => hx ((hks.mem x).mpr (.inr (.inr z)))
 unfold jS jw st at h
 rw [i1, i2, i3] at h
 rcases h with h | ⟨h, _⟩
 ·cases h
 ·exact absurd rfl h
inductive DuI (K : List Str) (ka kb kc pk : List (Str × V)) (S : List Str) (t : Addr) (m₀ : aT) (σ₀ : ai) (m : aT) (σ' : ai) : Prop
 | mk (l : LpF t K (on S (pN ka kb kc pk) fun _ => Option.none) ["_law_path", "_law_line"] m₀ σ₀ m σ') (h : ∀ x ∈ S, jw ka kb kc x = true → x ∈ ax pk) : DuI K ka kb kc pk S t m₀ σ₀ m σ'
theorem Pk.get {K : List Str} {pk : List (Str × V)} (h : Pk K pk) {x : Str} (hx : x ∈ ax pk) : dm pk x = some (dt (gS pk x)) := by
 obtain ⟨v, h1, h2⟩ := dl (show x ∈ pk.map (·.1) from hx)
 obtain ⟨o, ho⟩ := h.val _ h2
 have ho : v = dt o := ho
 subst ho
 rw [h1]
 unfold gS
 rw [h1]
 cases o <;> rfl
noncomputable def rV (ks : List Str) : V → Option V
 | .str u => if u ∈ ks then some (.str u) else Option.none
 | _ => Option.none
theorem qE {ks : List Str} {u : Str} : rV ks (.str u) = if u ∈ ks then some (.str u) else Option.none := rfl
theorem lG (ks : List Str) : ∀ us : List Str, (us.map V.str).filterMap (rV ks) = (us.filter fun u => decide (u ∈ ks)).map V.str
 | [] => rfl
 | u :: us => by
  rw [List.map_cons, List.filterMap_cons, List.filter_cons, qE, lG ks us]
  by_cases h : u ∈ ks <;> simp [h]
theorem vJ (ns : List Int) : ∀ vs σ Q, sp__law_due ns vs σ Q → vs.length = 4 ∧ fF ns (aM ["_law_elder", "_law_one", "_law_other", "_law_picks_here"] vs aW) σ (fin Q) := by
 rintro vs σ Q ⟨K, a, b, c, ka, kb, kc, e1, e2, e3, p, pk, ep, rfl, d, xp, P, hpl, qn, qy⟩
 refine ⟨rfl, ?_⟩
 unfold fF
 rw [aq]
 simp [iV]
 intro t et ht
 have g1 : Grow σ (a8 σ t (.dict [] et)) := Grow.refl.upd ht
 have xt := ay σ t (.dict [] et)
 generalize (a8 σ t (.dict [] et)) = σ₁ at g1 xt ⊢
 show au _ _ _ _ _
 rw [aq]
 simp only [iU, pz, r6]
 refine nq (d.grow g1) (by simp) (by simp) (by simp) fun ks hks l σ₂ g2 hl xl => ?_
 simp only [bB xl]
 have hlt : l ≠ t := by rintro rfl; rw [xt] at hl; cases hl
 have g12 := g1.trans g2
 refine bp (fun i m σ' => DuI K ka kb kc pk (ks.take i) t _ σ₂ m σ') (fun u m σ' => u = .none ∧ ¬ OkJ ka kb kc pk ∧ Grow σ σ')
  (fun i m σ' ⟨⟨_, _, h, _⟩, _⟩ => by rw [h.s l hlt]; exact xl) _ ?_ ?_ ?_ _ _ ⟨⟨[], et, ⟨fun _ _ => rfl, g2 _ _ xt, fun _ _ => rfl⟩, In0.nil, oU⟩, fun _ h => (nomatch h)⟩
 ·rintro i v m σ' Q' hv ⟨⟨kf, ef, I, hI⟩, hcl⟩ n1 n2 n3
  obtain ⟨y, hy, rfl⟩ := de hv
  refine ⟨_, rfl, ?_⟩
  have dd := d.but ht g12 I.s
  have yp : σ' p = some (.dict pk ep) := by rw [I.s p (by rintro rfl; rw [ht] at xp; cases xp)]; exact g12 _ _ xp
  have hyK := d.key hks (List.mem_of_getElem? hy)
  have w1 : m "_law_elder" = some (.ref a) := (I.m _ (by decide)).trans rfl
  have w2 : m "_law_one" = some (.ref b) := (I.m _ (by decide)).trans rfl
  have w3 : m "_law_other" = some (.ref c) := (I.m _ (by decide)).trans rfl
  have w4 : m "_law_picks_here" = some (.ref p) := (I.m _ (by decide)).trans rfl
  have w5 : m "_law_due_here" = some (.ref t) := (I.m _ (by decide)).trans rfl
  have tail : ∀ (m' : aT) (o : Option Str), m' "_law_line" = some (dt o) → m' "_law_path" = some (.str y) → (∀ z, z ∉ ["_law_path", "_law_line"] → m' z = m z) → pN ka kb kc pk y = o → (jw ka kb kc y = true → y ∈ ax pk) →
    (au (b8 (aE (an bY (af "_law_line") (ak .none))) (au (aH bN (af "_law_line") (af "_law_due_here") (af "_law_path")) aA) aA) aA) m' σ' Q' := by
   intro m' o z1 z2 z3 ho hc
   have hcl' : ∀ x ∈ ks.take (i + 1), jw ka kb kc x = true → x ∈ ax pk := fun x hx => by
    rw [List.take_add_one, hy] at hx
    rcases List.mem_append.mp hx with hx | hx
    ·exact hcl x hx
    ·rw [show x = y by simpa using hx]; exact hc
   rw [aq]
   simp [z1, z2, z3 "_law_due_here" (by decide), w5]
   cases o with
   | none =>
    simp [dt, eH]
    exact n1 _ _ ⟨⟨kf, ef, I.at rfl z3, hI.to (pE hy ho)⟩, hcl'⟩
   | some s =>
    simp [dt, eH, aq, z1, z2, z3 "_law_due_here" (by decide), w5]
    refine bF I.x (hI.i0.len d.un) fun ep2 => ?_
    exact n1 _ _ ⟨⟨_, ep2, I.set z3, (hI.put hyK).to (jd hy ho)⟩, hcl'⟩
  rw [aq]
  simp only [mh, n4, dS, fw, gn, dU]
  simp [w1, w2, w3]
  refine bZ dd.xa d.ta (bZ dd.xb d.tb (bZ dd.xc d.tc (t0 ?_)))
  rw [aq]
  simp [w4]
  refine em yp ?_
  rw [bj]
  by_cases hin : y ∈ ax pk
  ·simp only [decide_eq_true (show y ∈ pk.map (·.1) from hin), bn, if_true]
   rw [aq]
   simp [w4]
   refine jg yp (P.get hin) ?_
   exact tail _ (gS pk y) rfl rfl (fun z hz => by rw [aJ hz (by decide), aJ hz (by decide), aJ hz (by decide)]) (if_pos hin) fun _ => hin
  ·simp only [decide_eq_false (show y ∉ pk.map (·.1) from hin), bn, Bool.false_eq_true, if_false]
   rw [aq]
   simp [w1, w2, w3]
   refine bZ dd.xa d.ta (bZ dd.xb d.tb (bZ dd.xc d.tc (lx ?_)))
   cases hc : jw ka kb kc y with
   | true =>
    rw [show fz (gS ka y) (gS kb y) (gS kc y) = true from hc]
    simp [aq]
    exact n3 _ _ _ ⟨rfl, fun o => hin (o.cl y hc), I.grow ht g12⟩
   | false =>
    rw [show fz (gS ka y) (gS kb y) (gS kc y) = false from hc]
    simp only [bn, Bool.false_eq_true, if_false, tf, be]
    exact tail _ (lE (gS ka y) (gS kb y) (gS kc y)) rfl rfl (fun z hz => by rw [aJ hz (by decide), aJ hz (by decide)]) ((if_neg hin).trans (t9 hc).symm) fun e => by rw [hc] at e; cases e
 ·rintro m σ₃ ⟨⟨kf, ef, I, hI⟩, hcl⟩
  rw [List.length_map, List.take_length] at hcl hI
  replace hI : Is K (pN ka kb kc pk) kf := hI.to (rF fun x hx => by
   unfold pN
   rw [if_neg fun z => hx (pB hks (hpl x z))]; exact oM hks x hx)
  have g3 := I.grow ht g12
  have xf := I.x
  have w5 : m "_law_due_here" = some (.ref t) := (I.m _ (by decide)).trans rfl
  have hcl : ∀ x, jw ka kb kc x = true → x ∈ ax pk := fun x hx => hcl x (pB hks (.inl hx)) hx
  clear I
  rw [be, aq]
  simp [iT, w5, cz xf]
  refine bp (fun i m' σ' => Gk (∀ x ∈ (ax kf).take i, ∀ u ∈ bO x, u ∉ ax kf) ["_law_path"] m σ₃ m' σ') (fun u m' σ' => u = .none ∧ ¬ OkJ ka kb kc pk ∧ Grow σ σ')
   (fun i m' σ' h => h.g _ _ xf) _ ?_ ?_ ?_ _ _ ⟨Grow.refl, fun _ _ => rfl, fun _ h => (nomatch h)⟩
  ·intro i v m' σ' Q' hv I n1 n2 n3
   obtain ⟨y, hy, rfl⟩ := il hv
   refine ⟨_, rfl, ?_⟩
   have hym := List.mem_of_getElem? hy
   have hyK := hI.i0.sub y hym
   have w6 := (I.m "_law_due_here" (by decide)).trans w5
   rw [aq]
   simp
   refine rf (d.un.len y hyK) fun r σ₄ g4 hr xr => ?_
   rw [bB xr]
   have xf4 := g4 _ _ (I.g _ _ xf)
   have ul : (jW y).length ≤ 300 := Nat.le_trans (List.length_filterMap_le _ _) (by rw [List.length_range, ← du]; exact d.un.len y hyK)
   refine cH (fun s => s = σ₄) (fun s hs => by rw [hs]; exact xr) (rV (ax kf)) _ _ _ _ (by simp; exact Nat.le_trans ul (by decide)) ?_ rfl ?_
   ·rintro v hv s Q₁ Q₂ rfl k1 k2
    obtain ⟨u, hu, rfl⟩ := List.mem_map.mp hv
    refine ⟨_, rfl, ?_⟩
    simp [w6]
    refine em xf4 ?_
    rw [bj]
    by_cases huk : u ∈ ax kf
    ·simp only [decide_eq_true (show u ∈ kf.map (·.1) from huk), bn, if_true]
     exact k1 _ _ rfl (if_pos huk)
    ·simp only [decide_eq_false (show u ∉ kf.map (·.1) from huk), bn, Bool.false_eq_true, if_false]
     exact k2 _ rfl (if_neg huk)
   ·rintro s rfl e he
    rw [List.nil_append, lG]
    have g5 : Grow s (a8 s e (.list (((jW y).filter fun u => decide (u ∈ ax kf)).map V.str))) := Grow.refl.upd he
    simp [gm (ay _ _ _)]
    by_cases hex : ∃ u ∈ bO y, u ∈ ax kf
    ·obtain ⟨u, hu1, hu2⟩ := hex
     rw [if_pos ⟨u, ic.mpr hu1, hu2⟩]
     simp [aq]
     exact n3 _ _ _ ⟨rfl, fun o => o.fre y u ((hI.key y).mp hym) ((hI.key u).mp hu2) hu1, g3.trans (I.g.trans (g4.trans g5))⟩
    ·rw [if_neg fun ⟨u, h1, h2⟩ => hex ⟨u, ic.mp h1, h2⟩]
     refine n1 _ _ ⟨I.g.trans (g4.trans g5), fun z hz => (aJ hz (by decide)).trans (I.m z hz), fun x hx => ?_⟩
     rw [List.take_add_one, hy] at hx
     rcases List.mem_append.mp hx with hx | hx
     ·exact I.p x hx
     ·rw [show x = y by simpa using hx]; exact fun u h1 h2 => hex ⟨u, h1, h2⟩
  ·intro m' σ' I
   have k3 := I.p
   rw [List.take_of_length_le (by simp [ax])] at k3
   rw [be, aq]
   simp [iS, (I.m "_law_due_here" (by decide)).trans w5]
   exact qy ⟨hcl, fun x y hx hy hxy => k3 x ((hI.key x).mpr hx) y hxy ((hI.key y).mpr hy)⟩ t kf ef σ' (g3.trans I.g) ht (I.g _ _ xf) hI
  ·rintro u m' σ' ⟨rfl, h1, h2⟩
   simpa using qn h1 σ' h2
 ·rintro u m σ' ⟨rfl, h1, h2⟩
  simpa using qn h1 σ' h2
end Mine
end
noncomputable section
set_option maxRecDepth 10000
set_option maxHeartbeats 1000000
namespace Mine
open PySem PySem.W PyProof.Rows PySem.Calls
theorem ko {σ : ai} {inv : ai → Prop} {m : aT} {Q : List V → ai → Prop} (hi : inv σ) : ∀ (l : List (Str × Bool)) (acc : List V), acc.length + l.length ≤ 1000 → Q (acc ++ (l.filter (·.2)).map fun p => .str p.1) σ →
  cq (.tup ["_law_word", "_law_fits"]) inv (aE (af "_law_fits")) (af "_law_word") m (l.map fun p => .tup [.str p.1, .bool p.2]) acc σ Q
 | [], acc, _, q => by simp [cq]; exact ⟨hi, by simpa using q⟩
 | (w, b) :: r, acc, hl, q => by
  simp only [List.map_cons, cq]
  refine ⟨hi, _, rfl, ?_⟩
  cases b with
  | true =>
   simp
   simp at hl
   exact ⟨by omega, ko hi r (acc ++ [.str w]) (by simp; omega) (by simpa using q)⟩
  | false =>
   simp
   simp at hl
   exact ko hi r _ (by omega) (by simpa using q)
theorem m9 {ad : String → Addr} {c : String} {e : Addr} {m : aT} {σ : ai} {Q : Fl → aT → ai → Prop} (hc : c = "NoClash" ∨ c = "Clashed") (me : m "e" = some (.ref e)) (q : ∀ m' σ', Grow σ σ' → Q (.ret (.tup [.str (Str.ofString c), .bool true])) m' σ') :
  (au (a7 "_law_some" (bC (ah (cQ (ah (ak (.str (Str.ofString "NoClash"))) (ah (aC (b0 e (.ref (ad "NoClash")) (bM c "NoClash")) (ah (af "e") (ah (ak (.ref (ad "NoClash"))) az))) az))) (ah (cQ (ah (ak (.str (Str.ofString "Clashed"))) (ah (aC (b0 e (.ref (ad "Clashed")) (bM c "Clashed")) (ah (af "e") (ah (ak (.ref (ad "Clashed"))) az))) az))) az))))
 (au (a7 "_law_some" (an aR (af "_law_some") (bC (ah (cQ (ah (ak (.str (Str.ofString "NoPath"))) (ah (aC (b0 e (.ref (ad "NoPath")) (bM c "NoPath")) (ah (af "e") (ah (ak (.ref (ad "NoPath"))) az))) az))) (ah (cQ (ah (ak (.str (Str.ofString "NoFile"))) (ah (aC (b0 e (.ref (ad "NoFile")) (bM c "NoFile")) (ah (af "e") (ah (ak (.ref (ad "NoFile"))) az))) az))) az)))))
 (au (a7 "_law_some" (an aR (af "_law_some") (bC (ah (cQ (ah (ak (.str (Str.ofString "InTheWay"))) (ah (aC (b0 e (.ref (ad "InTheWay")) (bM c "InTheWay")) (ah (af "e") (ah (ak (.ref (ad "InTheWay"))) az))) az))) (ah (cQ (ah (ak (.str (Str.ofString "NoVersion"))) (ah (aC (b0 e (.ref (ad "NoVersion")) (bM c "NoVersion")) (ah (af "e") (ah (ak (.ref (ad "NoVersion"))) az))) az))) az)))))
 (au (a7 "_law_some" (an aR (af "_law_some") (bC (ah (cQ (ah (ak (.str (Str.ofString "SameVersion"))) (ah (aC (b0 e (.ref (ad "SameVersion")) (bM c "SameVersion")) (ah (af "e") (ah (ak (.ref (ad "SameVersion"))) az))) az))) az))))
 (au (bH (cQ (ah (a4 cT cw (ak (.str (Str.ofString ""))) (ah (eo [] (.tup ["_law_word", "_law_fits"]) (pK (af "_law_some")) (aE (af "_law_fits")) (af "_law_word")) az)) (ah (aC (b0 e (.ty "ValueError") true) (ah (af "e") (ah (ak (.ty "ValueError")) az))) az))))
 aA))))) m σ Q := by
 rw [aq]
 simp [me]
 intro d1 h1
 have g1 : Grow σ (a8 σ d1 (.list [.tup [.str (Str.ofString "NoClash"), .bool (bM c "NoClash")], .tup [.str (Str.ofString "Clashed"), .bool (bM c "Clashed")]])) := Grow.refl.upd h1
 have x1 := ay σ d1 (.list [.tup [.str (Str.ofString "NoClash"), .bool (bM c "NoClash")], .tup [.str (Str.ofString "Clashed"), .bool (bM c "Clashed")]])
 generalize (a8 σ d1 (.list [.tup [.str (Str.ofString "NoClash"), .bool (bM c "NoClash")], .tup [.str (Str.ofString "Clashed"), .bool (bM c "Clashed")]])) = σ₁ at g1 x1 ⊢
 rw [aq]
 simp [me]
 intro d2 h2
 generalize hs2 : a8 σ₁ d2 _ = σ₂
 have g2 : Grow σ₁ σ₂ := by rw [← hs2]; exact Grow.refl.upd h2
 have x2 : σ₂ d2 = some (.list [.tup [.str (Str.ofString "NoPath"), .bool (bM c "NoPath")], .tup [.str (Str.ofString "NoFile"), .bool (bM c "NoFile")]]) := by rw [← hs2, ay]
 refine dW (g2 _ _ x1) x2 (by simp) fun d3 h3 => ?_
 generalize hs3 : a8 σ₂ d3 _ = σ₃
 have g3 : Grow σ₂ σ₃ := by rw [← hs3]; exact Grow.refl.upd h3
 have x3 : σ₃ d3 = some (.list ([.tup [.str (Str.ofString "NoClash"), .bool (bM c "NoClash")], .tup [.str (Str.ofString "Clashed"), .bool (bM c "Clashed")]] ++ [.tup [.str (Str.ofString "NoPath"), .bool (bM c "NoPath")], .tup [.str (Str.ofString "NoFile"), .bool (bM c "NoFile")]])) := by rw [← hs3, ay]
 rw [aq]
 simp [me]
 intro d4 h4
 generalize hs4 : a8 σ₃ d4 _ = σ₄
 have g4 : Grow σ₃ σ₄ := by rw [← hs4]; exact Grow.refl.upd h4
 have x4 : σ₄ d4 = some (.list [.tup [.str (Str.ofString "InTheWay"), .bool (bM c "InTheWay")], .tup [.str (Str.ofString "NoVersion"), .bool (bM c "NoVersion")]]) := by rw [← hs4, ay]
 refine dW (g4 _ _ x3) x4 (by simp) fun d5 h5 => ?_
 generalize hs5 : a8 σ₄ d5 _ = σ₅
 have g5 : Grow σ₄ σ₅ := by rw [← hs5]; exact Grow.refl.upd h5
 have x5 : σ₅ d5 = some (.list (([.tup [.str (Str.ofString "NoClash"), .bool (bM c "NoClash")], .tup [.str (Str.ofString "Clashed"), .bool (bM c "Clashed")]] ++ [.tup [.str (Str.ofString "NoPath"), .bool (bM c "NoPath")], .tup [.str (Str.ofString "NoFile"), .bool (bM c "NoFile")]]) ++ [.tup [.str (Str.ofString "InTheWay"), .bool (bM c "InTheWay")], .tup [.str (Str.ofString "NoVersion"), .bool (bM c "NoVersion")]])) := by rw [← hs5, ay]
 rw [aq]
 simp [me]
 intro d6 h6
 generalize hs6 : a8 σ₅ d6 _ = σ₆
 have g6 : Grow σ₅ σ₆ := by rw [← hs6]; exact Grow.refl.upd h6
 have x6 : σ₆ d6 = some (.list [.tup [.str (Str.ofString "SameVersion"), .bool (bM c "SameVersion")]]) := by rw [← hs6, ay]
 refine dW (g6 _ _ x5) x6 (by simp) fun d7 h7 => ?_
 generalize hs7 : a8 σ₆ d7 _ = σ₇
 have g7 : Grow σ₆ σ₇ := by rw [← hs7]; exact Grow.refl.upd h7
 have x7 : σ₇ d7 = some (.list ([(Str.ofString "NoClash", bM c "NoClash"), (Str.ofString "Clashed", bM c "Clashed"), (Str.ofString "NoPath", bM c "NoPath"), (Str.ofString "NoFile", bM c "NoFile"), (Str.ofString "InTheWay", bM c "InTheWay"), (Str.ofString "NoVersion", bM c "NoVersion"), (Str.ofString "SameVersion", bM c "SameVersion")].map fun p => .tup [.str p.1, .bool p.2])) := by rw [← hs7, ay]; rfl
 rw [aq]
 simp only [te, tE, dS, gn, pP, qb, sk, r8, dU, fw]
 refine ⟨trivial, atK.of rfl ⟨d7, _, rfl, x7, ?_⟩⟩
 refine ko x7 _ [] (by show 7 ≤ 1000; decide) ?_
 intro d8 h8
 generalize hs8 : a8 σ₇ d8 _ = σ₈
 have g8 : Grow σ₇ σ₈ := by rw [← hs8]; exact Grow.refl.upd h8
 have x8 : σ₈ d8 = some (.list ([Str.ofString c].map .str)) := by
  rw [← hs8, ay]
  rcases hc with rfl | rfl <;> rfl
 refine eN x8 (by
  rcases hc with rfl | rfl <;> decide +kernel) ?_
 have hj : Str.join (Str.ofString "") [Str.ofString c] = Str.ofString c := rfl
 rw [hj]
 simp [me]
 exact q _ _ (((((((g1.trans g2).trans g3).trans g4).trans g5).trans g6).trans g7).trans g8)
theorem um (ns : List Int) (ad : String → Addr) : ∀ vs σ Q X, sp__law_told ns vs σ Q X → vs.length = 4 ∧ ex ns ad (aM ["_law_elder", "_law_one", "_law_other", "_law_picks_here"] vs aW) σ (fin Q) (fun c _ σ' => X c σ') := by
 rintro vs σ Q X ⟨K, a, b, c, ka, kb, kc, e1, e2, e3, p, pk, ep, rfl, d, xp, P, q1, q2, q3⟩
 refine ⟨rfl, ?_⟩
 unfold ex
 rw [ba]
 simp only [hZ, sL, ba, sP, qW, pP, mV, dS, fw, dU]
 refine atK.of rfl (atK.of rfl (atK.of rfl (atK.of rfl ?_)))
 refine ⟨K, a, b, c, ka, kb, kc, e1, e2, e3, p, pk, ep, rfl, d, xp, P, fun h σ' g => ?_, fun h1 h2 σ' g => ?_, fun h1 h2 f kf ep' σ' g hf xf hI => ?_⟩
 ·exact ⟨by decide, fun e he => m9 (.inl rfl) rfl fun m' σ'' g' => by simpa using q1 h σ'' (g.trans g')⟩
 ·exact ⟨by decide, fun e he => m9 (.inr rfl) rfl fun m' σ'' g' => by simpa using q2 h1 h2 σ'' (g.trans g')⟩
 ·simpa using q3 h1 h2 f kf ep' σ' g hf xf hI
end Mine
end
noncomputable section
set_option maxRecDepth 10000
set_option maxHeartbeats 1000000
namespace Mine
open PySem PySem.W PyProof.Rows PySem.Calls
theorem lJ (w m t : Option Str) : fz w m t = fz w t m := by
 unfold fz
 rw [decide_eq_decide.mpr (show m = t ↔ t = m from eq_comm), Bool.and_assoc, Bool.and_assoc, Bool.and_comm (!decide (m = w))]
theorem oK (w m t : Option Str) : jt w m t = jt w t m := by
 unfold jt
 rw [lJ w t m]
 by_cases h : fz w m t = true
 ·rw [if_pos h, if_pos h]
 ·rw [if_neg h, if_neg h]
  unfold fz at h
  by_cases h1 : m = t
  ·subst h1; rfl
  by_cases h2 : m = w
  ·subst h2; rw [if_pos rfl, if_neg (Ne.symm h1)]
  by_cases h3 : t = w
  ·subst h3; rw [if_pos rfl, if_neg h2]
  simp [h1, h2, h3] at h
theorem nP (a b c : List (Str × V)) : jw a b c = jw a c b := funext fun x => lJ _ _ _
theorem px (a b c : List (Str × V)) : st a b c = st a c b := funext fun x => oK _ _ _
theorem j6 (a b c : List (Str × V)) : jS a b c = jS a c b := by
 unfold jS; rw [nP, px]
theorem nW (a b c pk : List (Str × V)) : pN a b c pk = pN a c b pk := by
 unfold pN; rw [px]
theorem pF {a b c pk : List (Str × V)} (h : OkJ a b c pk) : OkJ a c b pk := ⟨fun x hx => h.cl x (by rw [nP]; exact hx), fun x y => by rw [← nW a b c]; exact h.fre x y⟩
inductive Wd (K : List Str) (ka kb kc pk : List (Str × V)) (due : V) (σ : ai) : String → Prop
 | no (h : ¬ ∀ x ∈ ax pk, jS ka kb kc x) : Wd K ka kb kc pk due σ "NoClash"
 | cl (h1 : ∀ x ∈ ax pk, jS ka kb kc x) (h2 : ¬ OkJ ka kb kc pk) : Wd K ka kb kc pk due σ "Clashed"
 | made (h1 : ∀ x ∈ ax pk, jS ka kb kc x) (h2 : OkJ ka kb kc pk) (f : Addr) (kd : List (Str × V)) (ed : Nat) (hd : due = .ref f) (x : σ f = some (.dict kd ed)) (hI : Is K (pN ka kb kc pk) kd) : Wd K ka kb kc pk due σ "made"
theorem Wd.turn {K : List Str} {ka kb kc pk : List (Str × V)} {due : V} {σ : ai} {w : String} (h : Wd K ka kb kc pk due σ w) : Wd K ka kc kb pk due σ w := by
 cases h with
 | no h => exact .no (by rw [← j6 ka kb kc]; exact h)
 | cl h1 h2 => exact .cl (by rw [← j6 ka kb kc]; exact h1) fun z => h2 (pF z)
 | made h1 h2 f kd ed hd x hI => exact .made (by rw [← j6 ka kb kc]; exact h1) (pF h2) f kd ed hd x (by rw [← nW ka kb kc]; exact hI)
theorem Wd.grow {K : List Str} {ka kb kc pk : List (Str × V)} {due : V} {σ σ' : ai} {w : String} (h : Wd K ka kb kc pk due σ w) (g : Grow σ σ') : Wd K ka kb kc pk due σ' w := by
 cases h with
 | no h => exact .no h
 | cl h1 h2 => exact .cl h1 h2
 | made h1 h2 f kd ed hd x hI => exact .made h1 h2 f kd ed hd (g _ _ x) hI
inductive Kept (a b c p : Addr) (kept : Addr) (ka kb kc pk : List (Str × V)) (σ : ai) : Prop
 | mk (A B C D : Addr) (f1 f2 f3 f4 : Nat) (xl : σ kept = some (.list [.ref A, .ref B, .ref C, .ref D])) (x1 : σ A = some (.dict ka f1)) (x2 : σ B = some (.dict kb f2)) (x3 : σ C = some (.dict kc f3)) (x4 : σ D = some (.dict pk f4)) : Kept a b c p kept ka kb kc pk σ
theorem Kept.grow {a b c p kept : Addr} {ka kb kc pk : List (Str × V)} {σ σ' : ai} (h : Kept a b c p kept ka kb kc pk σ) (g : Grow σ σ') : Kept a b c p kept ka kb kc pk σ' := by
 obtain ⟨A, B, C, D, f1, f2, f3, f4, xl, x1, x2, x3, x4⟩ := h
 exact ⟨A, B, C, D, f1, f2, f3, f4, g _ _ xl, g _ _ x1, g _ _ x2, g _ _ x3, g _ _ x4⟩
theorem In0.fl {K : List Str} {f : List (Str × V)} (h : In0 K f) : ∀ z ∈ f, vr z.2 := fun z hz => .inr (h.val z hz)
theorem Pk.fl {K : List Str} {f : List (Str × V)} (h : Pk K f) : ∀ z ∈ f, vr z.2 := fun z hz => by
 obtain ⟨o, e⟩ := h.val z hz
 rw [e]
 cases o with
 | none => exact .inl rfl
 | some y => exact .inr ⟨y, rfl⟩
theorem md {σ : ai} {p q : Addr} {k : List (Str × V)} {e1 e2 : Nat} (hp : σ p = some (.dict k e1)) (hq : σ q = some (.dict k e2)) (hf : ∀ z ∈ k, vr z.2) : SameD σ (.ref p) (.ref q) := ⟨p, q, k, k, e1, e2, hp, hq, rfl, fun _ h => h, hf⟩
theorem Kept.same {K : List Str} {a b c p kept l : Addr} {ka kb kc pk : List (Str × V)} {e1 e2 e3 ep : Nat} {σ : ai} (h : Kept a b c p kept ka kb kc pk σ) (d : D3 K a b c ka kb kc e1 e2 e3 σ) (xp : σ p = some (.dict pk ep)) (P : Pk K pk) (hl : σ l = some (.list [.ref a, .ref b, .ref c, .ref p])) : SameL σ (.ref l) (.ref kept) := by
 obtain ⟨A, B, C, D, f1, f2, f3, f4, xl, x1, x2, x3, x4⟩ := h
 exact ⟨l, kept, _, _, hl, xl, .cons (md d.xa x1 d.ta.fl) (.cons (md d.xb x2 d.tb.fl) (.cons (md d.xc x3 d.tc.fl) (.cons (md xp x4 P.fl) .nil)))⟩
theorem Is.same {K : List Str} {F : Str → Option Str} {k1 k2 : List (Str × V)} {σ : ai} {p q : Addr} {e1 e2 : Nat} (h1 : Is K F k1) (h2 : Is K F k2) (hp : σ p = some (.dict k1 e1)) (hq : σ q = some (.dict k2 e2)) : SameD σ (.ref p) (.ref q) := by
 have hl := ((List.perm_ext_iff_of_nodup h1.i0.nodup h2.i0.nodup).mpr fun x => (h1.key x).trans (h2.key x).symm).length_eq
 unfold ax at hl
 rw [List.length_map, List.length_map] at hl
 refine ⟨p, q, k1, k2, e1, e2, hp, hq, hl, fun z hz => ?_, h1.i0.fl⟩
 obtain ⟨x, v⟩ := z
 obtain ⟨y, hy⟩ := h1.i0.val _ hz
 have hy : v = .str y := hy
 subst hy
 have e := pL h1.i0 hz
 rw [h1.eq, ← h2.eq] at e
 have hx : x ∈ ax k2 := Classical.byContradiction fun hx => by rw [bo hx] at e; cases e
 obtain ⟨y', hm, e'⟩ := o3 h2.i0 hx
 rw [e] at e'
 cases e'
 exact hm
section
variable {ns : List Int} {σ : ai} {Q : V → ai → Prop} {v w : V}
@[simp] theorem v6 : aG ns (.tup [v, w]) (.int 0) σ Q = Q v σ := by simp [aG, ox]
@[simp] theorem v5 : aG ns (.tup [v, w]) (.int 1) σ Q = Q w σ := by simp [aG, ox]
theorem yd {a b : V} (h : SameL σ a b) (q : Q (.bool false) σ) : ke a b σ Q := ⟨h, q⟩
theorem yq {a b : V} (h : SameL σ a b) (q : Q (.bool true) σ) : rE a b σ Q := ⟨h, q⟩
theorem xn {a b : V} (h : SameD σ a b) (q : Q (.bool false) σ) : ig a b σ Q := ⟨h, q⟩
end
structure Lw (a b c p kept : Addr) (due : V) (w : String) (m : aT) : Prop where
 e : m "_law_elder" = some (.ref a)
 o : m "_law_one" = some (.ref b)
 t : m "_law_other" = some (.ref c)
 p : m "_law_picks_here" = some (.ref p)
 k : m "_law_kept" = some (.ref kept)
 d : m "_law_due_here" = some due
 w : m "_law_word" = some (.str (Str.ofString w))
theorem Lw.to {a b c p kept : Addr} {due : V} {w : String} {m m' : aT} (h : Lw a b c p kept due w m) (e : ∀ y, y ∉ ["_law_left", "_law_right", "_law_found"] → m' y = m y) : Lw a b c p kept due w m' :=
 ⟨(e _ (by decide)).trans h.e, (e _ (by decide)).trans h.o, (e _ (by decide)).trans h.t, (e _ (by decide)).trans h.p, (e _ (by decide)).trans h.k, (e _ (by decide)).trans h.d, (e _ (by decide)).trans h.w⟩
theorem sS {w : String} (h : w = "NoClash" ∨ w = "Clashed") : Str.ofString w ≠ Str.ofString "made" := by rcases h with rfl | rfl <;> decide
theorem rz {ns : List Int} {K : List Str} {a b c p kept : Addr} {due : V} {w : String} {ka kb kc pk : List (Str × V)} {e1 e2 e3 ep : Nat} {m : aT} {σ : ai} {Q : Fl → aT → ai → Prop} {X : XT} (hw : w = "NoClash" ∨ w = "Clashed") (L : Lw a b c p kept due w m) (mf : m "_law_found" = some (.tup [.str (Str.ofString w), .bool true]))
  (k : Kept a b c p kept ka kb kc pk σ) (d : D3 K a b c ka kb kc e1 e2 e3 σ) (xp : σ p = some (.dict pk ep)) (P : Pk K pk) (q : ∀ σ', Grow σ σ' → Q .next m σ') :
  (xP (au (b8 (i5 (aE (an cb (an (aG ns) (af "_law_found") (ak (.int 0))) (af "_law_word"))) (i5 (aE (an ke (bC (ah (af "_law_elder") (ah (af "_law_one") (ah (af "_law_other") (ah (af "_law_picks_here") az))))) (af "_law_kept"))) tF)) (au (bH (ak (.bool false)))
 aA) aA)
 (au (b8 (dD (aE (an cb (af "_law_word") (ak (.str (Str.ofString "made"))))) (dD (aE (an bY (an (aG ns) (af "_law_found") (ak (.int 1))) (ak (.bool true)))) tT)) (au (bH (ak (.bool false)))
 aA) aA)
 (au (b8 (aE (an bk (af "_law_word") (ak (.str (Str.ofString "made"))))) (au (b8 (i5 (nf (aE (aC dn (ah (an (aG ns) (af "_law_found") (ak (.int 1))) (ah (ak (.ty "dict")) az))))) (i5 (aE (an ig (an (aG ns) (af "_law_found") (ak (.int 1))) (af "_law_due_here"))) tF)) (au (bH (ak (.bool false)))
 aA) aA)
 (au (aH bN (ak (.str (Str.ofString "y"))) (an (aG ns) (af "_law_found") (ak (.int 1))) (ak (.str (Str.ofString "x"))))
 aA)) aA)
 aA)))) m σ Q X := by
 rw [pn, aq]
 simp [mf, L.w, L.e, L.o, L.t, L.p, L.k]
 intro l hl
 have g : Grow σ (a8 σ l (.list [.ref a, .ref b, .ref c, .ref p])) := Grow.refl.upd hl
 have xl := ay σ l (.list [.ref a, .ref b, .ref c, .ref p])
 generalize (a8 σ l (.list [.ref a, .ref b, .ref c, .ref p])) = σ₁ at g xl ⊢
 refine yd ((k.grow g).same (d.grow g) (g _ _ xp) P xl) ?_
 have hn := sS hw
 simp [aq, mf, L.w, hn]
 exact q σ₁ g
theorem qj {ns : List Int} {K : List Str} {a b c p kept f fd : Addr} {ka kb kc pk kf kd : List (Str × V)} {e1 e2 e3 ep ef ed : Nat} {F : Str → Option Str} {m : aT} {σ : ai} {Q : Fl → aT → ai → Prop} {X : XT} (L : Lw a b c p kept (.ref fd) "made" m) (mf : m "_law_found" = some (.tup [.str (Str.ofString "made"), .ref f]))
  (k : Kept a b c p kept ka kb kc pk σ) (d : D3 K a b c ka kb kc e1 e2 e3 σ) (xp : σ p = some (.dict pk ep)) (P : Pk K pk) (xf : σ f = some (.dict kf ef)) (hf : Is K F kf) (xd : σ fd = some (.dict kd ed)) (hd : Is K F kd) (q : ∀ σ' o, Grow σ σ' → Q .next m (a8 σ' f o)) :
  (xP (au (b8 (i5 (aE (an cb (an (aG ns) (af "_law_found") (ak (.int 0))) (af "_law_word"))) (i5 (aE (an ke (bC (ah (af "_law_elder") (ah (af "_law_one") (ah (af "_law_other") (ah (af "_law_picks_here") az))))) (af "_law_kept"))) tF)) (au (bH (ak (.bool false)))
 aA) aA)
 (au (b8 (dD (aE (an cb (af "_law_word") (ak (.str (Str.ofString "made"))))) (dD (aE (an bY (an (aG ns) (af "_law_found") (ak (.int 1))) (ak (.bool true)))) tT)) (au (bH (ak (.bool false)))
 aA) aA)
 (au (b8 (aE (an bk (af "_law_word") (ak (.str (Str.ofString "made"))))) (au (b8 (i5 (nf (aE (aC dn (ah (an (aG ns) (af "_law_found") (ak (.int 1))) (ah (ak (.ty "dict")) az))))) (i5 (aE (an ig (an (aG ns) (af "_law_found") (ak (.int 1))) (af "_law_due_here"))) tF)) (au (bH (ak (.bool false)))
 aA) aA)
 (au (aH bN (ak (.str (Str.ofString "y"))) (an (aG ns) (af "_law_found") (ak (.int 1))) (ak (.str (Str.ofString "x"))))
 aA)) aA)
 aA)))) m σ Q X := by
 rw [pn, aq]
 simp [mf, L.w, L.e, L.o, L.t, L.p, L.k]
 intro l hl
 have g : Grow σ (a8 σ l (.list [.ref a, .ref b, .ref c, .ref p])) := Grow.refl.upd hl
 have xl := ay σ l (.list [.ref a, .ref b, .ref c, .ref p])
 generalize (a8 σ l (.list [.ref a, .ref b, .ref c, .ref p])) = σ₁ at g xl ⊢
 refine yd ((k.grow g).same (d.grow g) (g _ _ xp) P xl) ?_
 have xf1 := g _ _ xf
 simp [aq, mf, L.w, L.d, r4 xf1]
 refine xn (hf.same hd xf1 (g _ _ xd)) ?_
 simp [mf]
 exact bF xf1 (hf.i0.len d.un) fun ep2 => q σ₁ _ g
theorem nI {ns : List Int} {K : List Str} {a b c p kept x y : Addr} {due : V} {w : String} {ka kb kc pk kx ky : List (Str × V)} {e1 e2 e3 ep f2 f3 : Nat} {m : aT} {σ : ai} {Q : Fl → aT → ai → Prop} {X : XT} (L : Lw a b c p kept due w m) (ml : m "_law_left" = some (.ref x)) (mr : m "_law_right" = some (.ref y))
  (k : Kept a b c p kept ka kb kc pk σ) (d : D3 K a b c ka kb kc e1 e2 e3 σ) (dx : D3 K a x y ka kx ky e1 f2 f3 σ) (xp : σ p = some (.dict pk ep)) (P : Pk K pk) (W : Wd K ka kx ky pk due σ w)
  (q : ∀ m' σ', (∀ z, z ∉ ["_law_left", "_law_right", "_law_found"] → m' z = m z) → Grow σ σ' → Q .next m' σ') :
  (bW (sO "_law_found" (mW (sp__law_told ns) (ah (af "_law_elder") (ah (af "_law_left") (ah (af "_law_right") (ah (af "_law_picks_here") az))))))
 (xP (au (b8 (i5 (aE (an cb (an (aG ns) (af "_law_found") (ak (.int 0))) (af "_law_word"))) (i5 (aE (an ke (bC (ah (af "_law_elder") (ah (af "_law_one") (ah (af "_law_other") (ah (af "_law_picks_here") az))))) (af "_law_kept"))) tF)) (au (bH (ak (.bool false)))
 aA) aA)
 (au (b8 (dD (aE (an cb (af "_law_word") (ak (.str (Str.ofString "made"))))) (dD (aE (an bY (an (aG ns) (af "_law_found") (ak (.int 1))) (ak (.bool true)))) tT)) (au (bH (ak (.bool false)))
 aA) aA)
 (au (b8 (aE (an bk (af "_law_word") (ak (.str (Str.ofString "made"))))) (au (b8 (i5 (nf (aE (aC dn (ah (an (aG ns) (af "_law_found") (ak (.int 1))) (ah (ak (.ty "dict")) az))))) (i5 (aE (an ig (an (aG ns) (af "_law_found") (ak (.int 1))) (af "_law_due_here"))) tF)) (au (bH (ak (.bool false)))
 aA) aA)
 (au (aH bN (ak (.str (Str.ofString "y"))) (an (aG ns) (af "_law_found") (ak (.int 1))) (ak (.str (Str.ofString "x"))))
 aA)) aA)
 aA))))) m σ Q X := by
 have lo : ∀ v : V, ∀ z, z ∉ ["_law_left", "_law_right", "_law_found"] → put m "_law_found" v z = m z := fun v z hz => aJ hz (by decide)
 have err : ∀ w', w' = w → (w = "NoClash" ∨ w = "Clashed") → ∀ σ', Grow σ σ' → (xP (au (b8 (i5 (aE (an cb (an (aG ns) (af "_law_found") (ak (.int 0))) (af "_law_word"))) (i5 (aE (an ke (bC (ah (af "_law_elder") (ah (af "_law_one") (ah (af "_law_other") (ah (af "_law_picks_here") az))))) (af "_law_kept"))) tF)) (au (bH (ak (.bool false)))
 aA) aA)
 (au (b8 (dD (aE (an cb (af "_law_word") (ak (.str (Str.ofString "made"))))) (dD (aE (an bY (an (aG ns) (af "_law_found") (ak (.int 1))) (ak (.bool true)))) tT)) (au (bH (ak (.bool false)))
 aA) aA)
 (au (b8 (aE (an bk (af "_law_word") (ak (.str (Str.ofString "made"))))) (au (b8 (i5 (nf (aE (aC dn (ah (an (aG ns) (af "_law_found") (ak (.int 1))) (ah (ak (.ty "dict")) az))))) (i5 (aE (an ig (an (aG ns) (af "_law_found") (ak (.int 1))) (af "_law_due_here"))) tF)) (au (bH (ak (.bool false)))
 aA) aA)
 (au (aH bN (ak (.str (Str.ofString "y"))) (an (aG ns) (af "_law_found") (ak (.int 1))) (ak (.str (Str.ofString "x"))))
 aA)) aA)
 aA)))) (put m "_law_found" (.tup [.str (Str.ofString w'), .bool true])) σ' Q X := fun w' e hw σ' g =>
  rz hw (L.to (lo _)) (by rw [e]; rfl) (k.grow g) (d.grow g) (g _ _ xp) P fun σ'' g' => q _ _ (lo _) (g.trans g')
 rw [ba]
 simp only [sN, mV, dS, fw, dU]
 simp only [L.e, L.p, ml, mr]
 refine ⟨K, a, x, y, ka, kx, ky, e1, f2, f3, p, pk, ep, rfl, dx, xp, P, fun h σ' g => ?_, fun h1 h2 σ' g => ?_, fun h1 h2 f kf ef σ' g hf xf hI => ?_⟩
 ·cases W with
  | no _ => exact err _ rfl (.inl rfl) σ' g
  | cl h1 _ => exact absurd h1 h
  | made h1 _ _ _ _ _ _ _ => exact absurd h1 h
 ·cases W with
  | no h => exact absurd h1 h
  | cl _ _ => exact err _ rfl (.inr rfl) σ' g
  | made _ h _ _ _ _ _ _ => exact absurd h h2
 ·cases W with
  | no h => exact absurd h1 h
  | cl _ h => exact absurd h2 h
  | made _ _ fd kd ed hd xd hI' =>
   subst hd
   exact qj (X := X) (L.to (lo _)) rfl (k.grow g) (d.grow g) (g _ _ xp) P xf hI (g _ _ xd) hI' fun σ'' o g' => q _ _ (lo _) ((g.trans g').over hf)
noncomputable def nz : List Str := [Str.ofString "tops1/x", Str.ofString "no/such/path/here", Str.ofString "a b"]
noncomputable def KL (ka kb kc : List (Str × V)) : List Str := ax ka ++ (ax kb ++ (ax kc ++ nz))
theorem vW {ka kb kc : List (Str × V)} (ta : Tr 200 ka) (tb : Tr 200 kb) (tc : Tr 200 kc) : Kp (KL ka kb kc) := by
 have key : ∀ {k : List (Str × V)}, Tr 200 k → ∀ x ∈ ax k, x.length ≤ 300 := fun t x hx => by
  obtain ⟨q, hq, rfl⟩ := List.mem_map.mp hx
  exact t.key q hq
 refine ⟨?_, fun x hx => ?_⟩
 ·have la := ta.len
  have lb := tb.len
  have lc := tc.len
  unfold KL ax
  rw [List.length_append, List.length_append, List.length_append, List.length_map, List.length_map, List.length_map, show nz.length = 3 from rfl]
  omega
 ·rcases List.mem_append.mp hx with h | h
  ·exact key ta x h
  rcases List.mem_append.mp h with h | h
  ·exact key tb x h
  rcases List.mem_append.mp h with h | h
  ·exact key tc x h
  ·have : ∀ x ∈ nz, x.length ≤ 300 := by decide +kernel
   exact this x h
theorem Tr.in0 {n : Nat} {K : List Str} {k : List (Str × V)} (t : Tr n k) (h : ∀ x ∈ ax k, x ∈ K) : In0 K k := ⟨h, t.val, t.nodup⟩
theorem vI (ns : List Int) : ∀ vs σ Q X, ma ns vs σ Q X → vs.length = 1 ∧ pY ns (aM ["_law_script"] vs aW) σ (fin Q) (fun c _ σ' => X c σ') := by
 rintro vs σ Q X ⟨rfl, hz, q⟩
 refine ⟨rfl, ?_⟩
 unfold pY
 rw [ba]
 simp [pX]
 refine ⟨_, rfl, rfl, fun a b c ka kb kc e1 e2 e3 σ₁ g1 xa xb xc ta tb tc => ?_⟩
 have d : D3 (KL ka kb kc) a b c ka kb kc e1 e2 e3 σ₁ := ⟨xa, xb, xc, ta.in0 fun x h => List.mem_append_left _ h, tb.in0 fun x h => List.mem_append_right _ (List.mem_append_left _ h), tc.in0 fun x h => List.mem_append_right _ (List.mem_append_right _ (List.mem_append_left _ h)), vW ta tb tc⟩
 have hodd : ∀ x ∈ nz, x ∈ KL ka kb kc := fun x h => List.mem_append_right _ (List.mem_append_right _ (List.mem_append_right _ h))
 generalize KL ka kb kc = K at d hodd
 refine ⟨_, rfl, ?_⟩
 clear xa xb xc ta tb tc
 rw [ba]
 simp [pW]
 refine ⟨K, a, b, c, ka, kb, kc, e1, e2, e3, rfl, d, fun xs hxs hl l σ₂ g2 hln xl => ?_⟩
 have d2 := d.grow g2
 show bW _ _ _ _ _ _
 rw [ba]
 simp [pV]
 intro t ht
 have g3 : Grow σ₂ (a8 σ₂ t (.list [.ref a, .ref b, .ref c])) := Grow.refl.upd ht
 have xt := ay σ₂ t (.list [.ref a, .ref b, .ref c])
 generalize (a8 σ₂ t (.list [.ref a, .ref b, .ref c])) = σ₃ at g3 xt ⊢
 have d3 := d2.grow g3
 refine ⟨K, a, b, c, ka, kb, kc, e1, e2, e3, l, t, xs, rfl, d3, g3 _ _ xl, fun x hx => pA d3 ((hxs x).mp hx), hl, xt, fun p pk ep σ₄ g4 hpn xp ⟨P, hpx⟩ => ?_⟩
 have d4 := d3.grow g4
 have xl4 := g4 _ _ (g3 _ _ xl)
 have hpl : ∀ x ∈ ax pk, jS ka kb kc x := fun x hx => (hxs x).mp (hpx x hx)
 have hpa : a ≠ p := by rintro rfl; rw [d3.xa] at hpn; cases hpn
 have hpb : b ≠ p := by rintro rfl; rw [d3.xb] at hpn; cases hpn
 have hpc : c ≠ p := by rintro rfl; rw [d3.xc] at hpn; cases hpn
 clear g1 g2 g3 g4 xt ht d d2 d3 xl hln hpn hpx
 show bW _ _ _ _ _ _
 rw [ba]
 simp [pU]
 rw [ba]
 simp [pT]
 have loop : ∀ (m : aT) (σ₅ : ai) (due : V) (w : String) (pk : List (Str × V)) (ep : Nat) (kept : Addr), Lw a b c p kept due w m → D3 K a b c ka kb kc e1 e2 e3 σ₅ → σ₅ p = some (.dict pk ep) → Pk K pk → Wd K ka kb kc pk due σ₅ w → Kept a b c p kept ka kb kc pk σ₅ →
   bW (iP ns) (xP (au (gp ns) aA)) m σ₅ (fin Q) (fun c _ σ' => X c σ') := by
  intro m σ₅ due w pk ep kept L d xp P W k
  rw [ba]
  simp [iP, L.o, L.t]
  intro r hr
  have g : Grow σ₅ (a8 σ₅ r (.list [.tup [.ref b, .ref c], .tup [.ref c, .ref b]])) := Grow.refl.upd hr
  have xr := ay σ₅ r (.list [.tup [.ref b, .ref c], .tup [.ref c, .ref b]])
  generalize (a8 σ₅ r (.list [.tup [.ref b, .ref c], .tup [.ref c, .ref b]])) = σ₆ at g xr ⊢
  rw [bB xr]
  refine eG (fun i m' σ' => Gk True ["_law_left", "_law_right", "_law_found"] m σ₆ m' σ') (fun i m' σ' h => h.g _ _ xr) _ ?_ ?_ _ _ ⟨Grow.refl, fun _ _ => rfl, trivial⟩
  ·intro i v m' σ' Q' hv I n1
   have gg := g.trans I.g
   have fin : ∀ (m₂ : aT), (∀ z, z ∉ ["_law_left", "_law_right", "_law_found"] → m₂ z = m' z) → ∀ m₃ σ₃, (∀ z, z ∉ ["_law_left", "_law_right", "_law_found"] → m₃ z = m₂ z) → Grow σ' σ₃ → Q' .next m₃ σ₃ := fun m₂ h2 m₃ σ₃ h3 g3 =>
    n1 _ _ ⟨I.g.trans g3, fun z hz => (h3 z hz).trans ((h2 z hz).trans (I.m z hz)), trivial⟩
   have dd := d.grow gg
   match i, hv with
   | 0, hv =>
    cases hv
    have lo : ∀ z, z ∉ ["_law_left", "_law_right", "_law_found"] → aM ["_law_left", "_law_right"] [V.ref b, V.ref c] m' z = m' z := fun z hz => by
     show put (put m' _ _) _ _ z = _
     rw [aJ hz (by decide), aJ hz (by decide)]
    exact ⟨_, rfl, nI ((L.to I.m).to lo) rfl rfl (k.grow gg) dd dd (gg _ _ xp) P (W.grow gg) (fin _ lo)⟩
   | 1, hv =>
    cases hv
    have lo : ∀ z, z ∉ ["_law_left", "_law_right", "_law_found"] → aM ["_law_left", "_law_right"] [V.ref c, V.ref b] m' z = m' z := fun z hz => by
     show put (put m' _ _) _ _ z = _
     rw [aJ hz (by decide), aJ hz (by decide)]
    exact ⟨_, rfl, nI ((L.to I.m).to lo) rfl rfl (k.grow gg) dd ⟨dd.xa, dd.xc, dd.xb, dd.ta, dd.tc, dd.tb, dd.un⟩ (gg _ _ xp) P (W.grow gg).turn (fin _ lo)⟩
   | n + 2, hv => cases hv
  ·intro m' σ' I
   have gg := g.trans I.g
   have L' := L.to I.m
   rw [cv, pn, aq]
   simp [gp, L'.e, L'.o, L'.t, L'.p, L'.k]
   intro l hl
   have gl : Grow σ' (a8 σ' l (.list [.ref a, .ref b, .ref c, .ref p])) := Grow.refl.upd hl
   have xl := ay σ' l (.list [.ref a, .ref b, .ref c, .ref p])
   generalize (a8 σ' l (.list [.ref a, .ref b, .ref c, .ref p])) = σ₂ at gl xl ⊢
   have g2 := gg.trans gl
   exact yq ((k.grow g2).same (d.grow g2) (g2 _ _ xp) P xl) (q σ₂)
 have kept : ∀ (m : aT) (σ₅ : ai) (due : V) (w : String) (pk : List (Str × V)) (ep : Nat), m "_law_elder" = some (.ref a) → m "_law_one" = some (.ref b) → m "_law_other" = some (.ref c) → m "_law_picks_here" = some (.ref p) → m "_law_due_here" = some due → m "_law_word" = some (.str (Str.ofString w)) → D3 K a b c ka kb kc e1 e2 e3 σ₅ → σ₅ p = some (.dict pk ep) → Pk K pk → Wd K ka kb kc pk due σ₅ w →
   bW (jQ ns) (bW (iP ns) (xP (au (gp ns) aA))) m σ₅ (fin Q) (fun c _ σ' => X c σ') := by
  intro m σ₅ due w pk ep m1 m2 m3 m4 m5 m6 d xp P W
  rw [ba]
  simp [jQ, m1, m2, m3, m4]
  refine cx d.xa fun A f1 hA => ?_
  have gA : Grow σ₅ (a8 σ₅ A (.dict ka f1)) := Grow.refl.upd hA
  have xA := ay σ₅ A (.dict ka f1)
  generalize (a8 σ₅ A (.dict ka f1)) = s1 at gA xA ⊢
  refine cx (gA _ _ d.xb) fun B f2 hB => ?_
  have gB : Grow s1 (a8 s1 B (.dict kb f2)) := Grow.refl.upd hB
  have xB := ay s1 B (.dict kb f2)
  generalize (a8 s1 B (.dict kb f2)) = s2 at gB xB ⊢
  have g2 := gA.trans gB
  refine cx (g2 _ _ d.xc) fun C f3 hC => ?_
  have gC : Grow s2 (a8 s2 C (.dict kc f3)) := Grow.refl.upd hC
  have xC := ay s2 C (.dict kc f3)
  generalize (a8 s2 C (.dict kc f3)) = s3 at gC xC ⊢
  have g3 := g2.trans gC
  refine cx (g3 _ _ xp) fun D f4 hD => ?_
  have gD : Grow s3 (a8 s3 D (.dict pk f4)) := Grow.refl.upd hD
  have xD := ay s3 D (.dict pk f4)
  generalize (a8 s3 D (.dict pk f4)) = s4 at gD xD ⊢
  have g4 := g3.trans gD
  intro l hl
  have gl : Grow s4 (a8 s4 l (.list [.ref A, .ref B, .ref C, .ref D])) := Grow.refl.upd hl
  have xl := ay s4 l (.list [.ref A, .ref B, .ref C, .ref D])
  generalize (a8 s4 l (.list [.ref A, .ref B, .ref C, .ref D])) = s5 at gl xl ⊢
  have g5 := g4.trans gl
  exact loop _ s5 due w pk ep l ⟨by simp [m1], by simp [m2], by simp [m3], by simp [m4], by simp, by simp [m5], by simp [m6]⟩ (d.grow g5) (g5 _ _ xp) P (W.grow g5) ⟨A, B, C, D, f1, f2, f3, f4, xl, (gB.trans (gC.trans (gD.trans gl))) _ _ xA, (gC.trans (gD.trans gl)) _ _ xB, (gD.trans gl) _ _ xC, gl _ _ xD⟩
 have odd : ∀ (m : aT) (σ₅ : ai) (due : V) (w : String), m "_law_script" = some .script → m "_law_places_here" = some (.ref l) → m "_law_elder" = some (.ref a) → m "_law_one" = some (.ref b) → m "_law_other" = some (.ref c) → m "_law_picks_here" = some (.ref p) → m "_law_due_here" = some due → m "_law_word" = some (.str (Str.ofString w)) → Grow σ₄ σ₅ → Wd K ka kb kc pk due σ₅ w →
   bW (mR ns) (bW (jQ ns) (bW (iP ns) (xP (au (gp ns) aA)))) m σ₅ (fin Q) (fun c _ σ' => X c σ') := by
  intro m σ₅ due w ms mpl m1 m2 m3 m4 m5 m6 g W
  have d5 := d4.grow g
  have xp5 := g _ _ xp
  have xl5 := g _ _ xl4
  rw [ba]
  simp [mR, ms]
  split
  ·rw [aq]
   simp [ms]
   intro r hr
   have gr : Grow σ₅ (a8 σ₅ r (.list (nz.map .str))) := Grow.refl.upd hr
   have xr := ay σ₅ r (.list (nz.map .str))
   show aG ns (.ref r) _ (a8 σ₅ r (.list (nz.map .str))) _
   generalize (a8 σ₅ r (.list (nz.map .str))) = σ₆ at gr xr ⊢
   refine ek (m := 3) xr rfl (by decide) fun v hv => ?_
   obtain ⟨o, ho, rfl⟩ := List.mem_map.mp hv
   rw [aq]
   simp [mpl]
   refine ⟨_, _, gr _ _ xl5, kQ o xs, ?_⟩
   by_cases hin : o ∈ xs
   ·simp [hin]
    exact kept _ σ₆ due w pk ep (by simp [m1]) (by simp [m2]) (by simp [m3]) (by simp [m4]) (by simp [m5]) (by simp [m6]) (d5.grow gr) (gr _ _ xp5) P (W.grow gr)
   ·simp [hin]
    rw [aq]
    simp [ms, m4]
    intro r2 hr2
    have gr2 : Grow σ₆ (a8 σ₆ r2 (.list [.str (Str.ofString "x"), .none])) := Grow.refl.upd hr2
    have xr2 := ay σ₆ r2 (.list [.str (Str.ofString "x"), .none])
    generalize (a8 σ₆ r2 (.list [.str (Str.ofString "x"), .none])) = σ₇ at gr2 xr2 ⊢
    refine ek (m := 2) xr2 rfl (by decide) fun v hv => ?_
    obtain ⟨u, rfl⟩ : ∃ u, v = dt u := by
     simp at hv
     rcases hv with rfl | rfl
     ·exact ⟨some _, rfl⟩
     ·exact ⟨Option.none, rfl⟩
    have g7 := gr.trans gr2
    refine bF (g7 _ _ xp5) (P.len d5.un) fun ep2 => ?_
    have np : ∀ {z kz ez}, σ₇ z = some (.dict kz ez) → z ≠ p → a8 σ₇ p (.dict (a5 pk o (dt u)) ep2) z = some (.dict kz ez) := fun {z kz ez} e hz => by rw [bh hz]; exact e
    have d7 := d5.grow g7
    rw [aq]
    simp
    refine kept _ _ due "NoClash" (a5 pk o (dt u)) ep2 (by simp [m1]) (by simp [m2]) (by simp [m3]) (by simp [m4]) (by simp [m5]) (by simp) ⟨np d7.xa hpa, np d7.xb hpb, np d7.xc hpc, d7.ta, d7.tb, d7.tc, d7.un⟩ (ay _ _ _) (P.put (hodd o ho)) (.no fun h => hin ((hxs o).mpr (h o ((cj _ _ _ o).mpr (.inl rfl)))))
  ·exact kept _ σ₅ due w pk ep m1 m2 m3 m4 m5 m6 d5 xp5 P W
 refine ⟨K, a, b, c, ka, kb, kc, e1, e2, e3, p, pk, ep, rfl, d4, xp, P, hpl, fun hno σ₅ g => ?_, fun hok f kf ef σ₅ g hf xf hI => ?_⟩
 ·show bW _ _ _ _ _ _
  rw [ba]
  simp [mS, eH]
  rw [aq]
  simp
  exact odd _ σ₅ .none "Clashed" (by simp) (by simp) (by simp) (by simp) (by simp) (by simp) (by simp) (by simp) g (.cl hpl hno)
 ·show bW _ _ _ _ _ _
  rw [ba]
  simp [mS, eH]
  exact odd _ σ₅ (.ref f) "made" (by simp) (by simp) (by simp) (by simp) (by simp) (by simp) (by simp) (by simp) g (.made hpl hok f kf ef rfl xf hI)
end Mine
end
noncomputable section
namespace Mine
open PySem PySem.W PyProof.Rows PySem.Calls
set_option maxRecDepth 100000
noncomputable def u2 (k : String) : Addr := match k with
 | "RoadError" => 24
 | "NoPath" => 37
 | "NoFile" => 49
 | "InTheWay" => 61
 | "NoClash" => 73
 | "Clashed" => 85
 | "NoVersion" => 97
 | "SameVersion" => 109
 | _ => 0
theorem vR (P : Params) : (tx.map fun k => nsIn (Hd.kk P) mainGlobals (Str.ofString k)) = tx.map fun k => some (some (.ref (u2 k))) := by kernel_rfl
theorem sJ (P : Params) : sK (Hd.kk P) 24 ct = true := by kernel_rfl
theorem vt (P : Params) : (["NoPath", "NoFile", "InTheWay", "NoClash", "Clashed", "NoVersion", "SameVersion"].all fun k => sK (Hd.kk P) (u2 k) (.ref 24 :: ct)) = true := by kernel_rfl
theorem ui {C : Cx} {P : Params} (X : (Hd.kk P).In C.hB) (g : C.hB.Ns mainGlobals C.mg) (hv : C.mg (Str.ofString "ValueError") = Option.none) : XTab C t8 tx u2 := by
 have mgk : ∀ k ∈ tx, C.mg (Str.ofString k) = some (.ref (u2 k)) := by
  intro k hk
  have h := vR P
  exact mg_of X g (List.map_inj_left.mp h k hk)
 have xck : ∀ k ∈ ["NoPath", "NoFile", "InTheWay", "NoClash", "Clashed", "NoVersion", "SameVersion"], XC C.hB (u2 k) (.ref 24 :: ct) := fun k hk => mU X (List.all_eq_true.mp (vt P) k hk)
 refine ⟨fun k hk => ⟨mgk k hk, ?_⟩, fun c hc => ?_, hv⟩
 ·rcases List.mem_cons.mp hk with rfl | hk
  ·exact ⟨_, mU X (sJ P)⟩
  ·exact ⟨_, xck k hk⟩
 ·have hk : c ∈ ["NoPath", "NoFile", "InTheWay", "NoClash", "Clashed", "NoVersion", "SameVersion"] := (by decide : ∀ c ∈ t8, c ∈ ["NoPath", "NoFile", "InTheWay", "NoClash", "Clashed", "NoVersion", "SameVersion"]) c hc
  refine ⟨.ref 24 :: ct, mgk c (.tail _ hk), xck c hk, by decide, ?_⟩
  revert c
  decide
theorem tA {p : Program} {loose : List Str} {mean : ExcName → Option Value} {mg mb : Str → Option Value} {h : Heap} {x : String} (T : Top p loose mean mg mb h) (hf : (!(startupNames ++ loose ++ (recsOf p).map (·.name) ++ (litsOf p).map (·.1) ++ (clssOf p loose).map (·.name)).contains (Str.ofString x)) = true) : mg (Str.ofString x) = none := by
 simp only [Bool.not_eq_true', List.contains_eq_mem, decide_eq_false_iff_not, List.mem_append, not_or] at hf
 obtain ⟨⟨⟨⟨h1, h2⟩, h3⟩, h4⟩, h5⟩ := hf
 exact T.free _ h1 h2 h3 h4 h5
theorem xg : (!(startupNames ++ (looseW Hd.vw []) ++ (recsOf Hd.vw).map (·.name) ++ (litsOf Hd.vw).map (·.1) ++ (clssOf Hd.vw (looseW Hd.vw [])).map (·.name)).contains (Str.ofString "ValueError")) = true := by decide +kernel
theorem uK {C : Cx} (G : Gl C Hd.vw) (hz : C.held = none) (Tb : XTab C t8 tx u2) : FnAtX C 7 "law" (ma C.ns) := by
 have hab := tD G hz (td C.ns)
 have hal := nX G hz (vK C.ns)
 have hmk := tC G hz hal (s8 C.ns)
 have hcg := o6 G hz hmk (oP C.ns)
 have hst := o5 G hz hcg hal (oO C.ns)
 have hcs := qH G hz hcg hst hab (qi C.ns)
 have hjn := si G hz Tb hcs hcg hst hab (ru C.ns)
 have h1 := kB G hz (uu C.ns)
 have h2 := kq G hz (uo C.ns)
 have h3 := ku G hz h2 (uq C.ns)
 have h4 := kr G hz h3 (rt C.ns)
 have h5 := kw G hz (ur C.ns)
 have h6 := kA G hz (ut C.ns)
 have h7 := mG G hz h4 h6 h5 (s9 C.ns)
 have h8 := mE G hz h1 h7 h5 (s6 C.ns)
 have h9 := qI G hz (xi C.ns)
 have h10 := ll G hz (rq C.ns)
 have h11 := lk G hz (rp C.ns)
 have h12 := ln G hz h10 h9 h11 (rr C.ns)
 have h13 := mF G hz h1 h5 (s7 C.ns)
 have h14 := nY G hz Tb hjn (um C.ns u2)
 have h15 := o7 G hz h9 h10 h11 (vJ C.ns)
 exact wh G hz h8 h12 h13 h15 h1 h14 (vI C.ns)
theorem xK : (["len", "range", "min", "max", "isinstance", "bool", "str", "int", "list", "dict", "set", "sorted", "tuple", "sum", "type"].all fun x : String => !(startupNames ++ (looseW Hd.vw []) ++ (recsOf Hd.vw).map (·.name) ++ (litsOf Hd.vw).map (·.1) ++ (clssOf Hd.vw (looseW Hd.vw [])).map (·.name)).contains (Str.ofString x)) = true := by decide +kernel
theorem xE : importsNone Hd.vw = true := by decide +kernel
end Mine
open PySem PySem.W PyProof.Rows PySem.Calls
set_option maxRecDepth 100000
set_option maxHeartbeats 8000000
theorem PySem.Challenge.cw_uf050007_08_holds : PySem.Challenge.rw_uf050007_08.Holds :=
 Mine.Hd.hd (by rfl) (by rfl) (by rfl) (by
 intro w s₀ s₁ mg mb G Y fa o pm cd doc dV kV ho hd hcd hD hmg hg args vals as hpre hlay hrd hwl hlo
 have KX := kIn_of Y
 have X := (Ground.X G).1
 have V := (Ground.X G).2
 refine Ground.open G ?_
 intro T B D TE TW
 try (refine guard_noD D (by decide +kernel) ?_; clear D)
 obtain ⟨_, _, M⟩ := bmod_of_top T
 wrow_args hpre hlay hrd hwl hlo
 all_goals first | refine callC_kw (enter_call ?_) | refine enter_call ?_ | refine callC_kw (enter_callW ?_) | refine enter_callW ?_ | w_how
 rename_i ns _ _ _ _ _ _ _ aS vs _ hL _ _ _ hI _ hn _
 have O : Mine.Cx.Ok ⟨PySem.Challenge.rw_uf050007_08.row.prog, w, s₁, aS, ns, mg, mb, none⟩ := Mine.Cx.ok_of rfl T Mine.xE hL hI hn
 have GG := Mine.Gl.of T O Mine.xK
 have hve : mg (Str.ofString "ValueError") = none := Mine.tA T Mine.xg
 have Tb := Mine.ui (C := ⟨PySem.Challenge.rw_uf050007_08.row.prog, w, s₁, aS, ns, mg, mb, none⟩) (P := w.params) KX T.g hve
 obtain ⟨a, o', fd', e1, e2, e3, S⟩ := Mine.uK GG rfl Tb
 have ea : a = fa := by
  have := e1.symm.trans hmg
  cases this; rfl
 subst ea
 exact Mine.qB rfl S (by decide) hg (raisesW_false (by wrow_none_raised)) (by wrow_post))
end
