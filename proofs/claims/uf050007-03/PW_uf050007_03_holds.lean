import PyProof.Rows.All
import Wide.All
import OpenK.AllK
import Wide.FinOn
import PyProof.Walks
import PyProof.WalksMore
import PyProof.Cells
import PyProof.DictWalks
import PyProof.StrBlock
import PyProof.CompFree
import PyProof.StrCalls2
import PyProof.DefCall
import PyProof.MakeMany
import PyProof.CallType
import PyProof.LetGo
import PyProof.PureInt
import PyProof.StrOps
import PyProof.Rows.RuleB_mod
import PyProof.Rows.RuleB_floordiv
import PyProof.Rows.RuleB_mul
import PyProof.Rows.RuleB_pow
import PyProof.Rows.RuleC_bool
import PyProof.Rows.EqNone
import PyProof.Rows.StrRules
import PyProof.Rows.IntBool
import PyProof.Raises
import PyProof.ForRange
import PyProof.RangeFor
import PyProof.StrWalks
import PyProof.IsiPairs
import PyProof.IsiHeapPairs
import PyProof.WalkInts
import PyProof.SliceMore
import PyProof.SliceStr2
import PyProof.EqAt
import PyProof.ListIndexNeg
import PyProof.StrCalls3
import PyProof.Rows.Tup
import PyProof.Rows.Lst
import PyProof.Rows.SeqMore
import PyProof.StrOps2
import PyProof.DictTruth
import PyProof.EqKinds
import PyProof.StrCalls
import PyProof.CallStr
import PyProof.Conv_int_bool
import PyProof.FactsAll.list
import PyProof.StrLawsOcc
import PyProof.FitsReplace
import PyProof.StrLawsTight
import PyProof.StrBlock2
import KE.KDictList
import KE.KItemsList
import KE.KDictOf
import PyProof.DictRoads
import PySem.Challenge.RW_uf050007_03
set_option Elab.async false
section
set_option autoImplicit false
namespace Mine
open PySem

/-- abstract values: tuples by value, mutable things by address -/
inductive V where
  | none
  | bool (b : Bool)
  | int (i : Int)
  | str (s : Str)
  | ref (a : Addr)
  | script
  | ty (n : String)
  | tup (vs : List V)

/-- abstract mutable objects -/
inductive AObj where
  | list (xs : List V)
  | dict (kvs : List (Str × V)) (ep : Nat)
  | idict (kvs : List (Int × V)) (ep : Nat)

abbrev View := Addr → Option AObj
abbrev Loc := String → Option V
def upd (σ : View) (a : Addr) (o : AObj) : View := fun b => if b = a then some o else σ b
def put (m : Loc) (x : String) (v : V) : Loc := fun y => if y = x then some v else m y
@[simp] theorem upd_same (σ : View) (a : Addr) (o : AObj) : upd σ a o a = some o := by simp [upd]
theorem upd_ne {σ : View} {a b : Addr} {o : AObj} (h : b ≠ a) : upd σ a o b = σ b := by simp [upd, h]
theorem upd_old {σ : View} {a b : Addr} {o o' : AObj} (ha : σ a = none) (hb : σ b = some o') : upd σ a o b = some o' := by
  rw [upd_ne (by rintro rfl; rw [ha] at hb; cases hb), hb]
@[simp] theorem put_same (m : Loc) (x : String) (v : V) : put m x v x = some v := by simp [put]
theorem put_ne {m : Loc} {x y : String} {v : V} (h : y ≠ x) : put m x v y = m y := by simp [put, h]

/-- what is fixed for the whole call -/
structure Cx where
  prog : Program
  w : World
  s₁ : Shared
  aS : Addr
  ns : List Int
  mg : Str → Option Value
  mb : Str → Option Value
abbrev Cx.hB (C : Cx) : Heap := C.s₁.heap
structure Cx.Ok (C : Cx) : Prop where
  g : C.hB.Ns mainGlobals C.mg
  b : C.hB.Ns builtinsNs C.mb
  nolimit : C.hB.NoLimit
  mods : ∃ o, C.hB.get? sysModules = some o
  few : C.ns.length ≤ 63
  script : ∃ ws, C.hB.IsList C.aS ws ∧ ws.toList.length = C.ns.length ∧ ∀ (i : Nat) n, C.ns[i]? = some n → ∃ t, ws.toList[i]? = some (Value.int n t)

theorem Cx.Ok.noMods {C : Cx} (O : C.Ok) {a : Addr} (h : C.hB.get? a = none) : (a == sysModules) = false := by
  obtain ⟨o, ho⟩ := O.mods
  simp only [beq_eq_false_iff_ne]
  rintro rfl
  rw [ho] at h; cases h

mutual
inductive VRel (aS : Addr) (h : Heap) : V → Value → Prop
  | none : VRel aS h .none .none
  | bool (b : Bool) : VRel aS h (.bool b) (.bool b)
  | int (i : Int) (t : Tok) : VRel aS h (.int i) (.int i t)
  | str (x : Str) (t : Tok) : VRel aS h (.str x) (.str x t)
  | ref (a : Addr) : VRel aS h (.ref a) (.ref a)
  | script : VRel aS h .script (.ref aS)
  | ty (n : String) : VRel aS h (.ty n) (.type n)
  | tup {vs : List V} {a : Addr} {ws : List Value} : h.IsTuple a ws.toArray → VRels aS h vs ws → VRel aS h (.tup vs) (.ref a)
inductive VRels (aS : Addr) (h : Heap) : List V → List Value → Prop
  | nil : VRels aS h [] []
  | cons {v : V} {w : Value} {vs : List V} {ws : List Value} : VRel aS h v w → VRels aS h vs ws → VRels aS h (v :: vs) (w :: ws)
end

def IsT (o : Obj) : Prop := o.cls = .type "tuple" ∧ ∃ it n, o.data = .seq it n
def TupKeep (h h' : Heap) : Prop := ∀ b o, h.get? b = some o → IsT o → h'.get? b = some o
mutual
theorem VRel.keep {aS : Addr} {h h' : Heap} (k : TupKeep h h') : ∀ {v : V} {w : Value}, VRel aS h v w → VRel aS h' v w
  | _, _, .none => .none
  | _, _, .bool b => .bool b
  | _, _, .int i t => .int i t
  | _, _, .str x t => .str x t
  | _, _, .ref a => .ref a
  | _, _, .script => .script
  | _, _, .ty n => .ty n
  | _, _, .tup ht hs => .tup (let ⟨o, ho, hc, r⟩ := ht; ⟨o, k _ o ho ⟨hc, _, r⟩, hc, r⟩) (VRels.keep k hs)
theorem VRels.keep {aS : Addr} {h h' : Heap} (k : TupKeep h h') : ∀ {vs : List V} {ws : List Value}, VRels aS h vs ws → VRels aS h' vs ws
  | _, _, .nil => .nil
  | _, _, .cons a b => .cons (VRel.keep k a) (VRels.keep k b)
end
theorem VRels.length {aS : Addr} {h : Heap} : ∀ {vs : List V} {ws : List Value}, VRels aS h vs ws → vs.length = ws.length
  | _, _, .nil => rfl
  | _, _, .cons _ r => by simp [VRels.length r]
theorem VRels.get {aS : Addr} {h : Heap} : ∀ {vs : List V} {ws : List Value}, VRels aS h vs ws → ∀ {i : Nat} {v : V}, vs[i]? = some v → ∃ w, ws[i]? = some w ∧ VRel aS h v w
  | _, _, .nil, i, v, e => by simp at e
  | _, _, .cons a r, 0, v, e => by simp at e; subst e; exact ⟨_, rfl, a⟩
  | _, _, .cons a r, i + 1, v, e => by simp at e; obtain ⟨w, h1, h2⟩ := VRels.get r e; exact ⟨w, by simpa using h1, h2⟩
theorem VRels.get' {aS : Addr} {h : Heap} : ∀ {vs : List V} {ws : List Value}, VRels aS h vs ws → ∀ {i : Nat} {w : Value}, ws[i]? = some w → ∃ v, vs[i]? = some v ∧ VRel aS h v w
  | _, _, .nil, i, v, e => by simp at e
  | _, _, .cons a r, 0, v, e => by simp at e; subst e; exact ⟨_, rfl, a⟩
  | _, _, .cons a r, i + 1, v, e => by simp at e; obtain ⟨w, h1, h2⟩ := VRels.get' r e; exact ⟨w, by simpa using h1, h2⟩
theorem VRels.append {aS : Addr} {h : Heap} : ∀ {vs vs' : List V} {ws ws' : List Value}, VRels aS h vs ws → VRels aS h vs' ws' → VRels aS h (vs ++ vs') (ws ++ ws')
  | _, _, _, _, .nil, b => b
  | _, _, _, _, .cons a r, b => .cons a (VRels.append r b)

/-- the heap bears an object of the view -/
def PRel {K : Type} (aS : Addr) (h : Heap) : List (K × V) → List (K × Value) → Prop
  | [], [] => True
  | (k, v) :: r, (k', w) :: r' => k = k' ∧ VRel aS h v w ∧ PRel aS h r r'
  | _, _ => False
theorem PRel.keep {K : Type} {aS : Addr} {h h' : Heap} (k : TupKeep h h') : ∀ {a : List (K × V)} {b : List (K × Value)}, PRel aS h a b → PRel aS h' a b
  | [], [], _ => trivial
  | (_, _) :: _, (_, _) :: _, ⟨e, v, r⟩ => ⟨e, v.keep k, PRel.keep k r⟩
theorem PRel.length {K : Type} {aS : Addr} {h : Heap} : ∀ {a : List (K × V)} {b : List (K × Value)}, PRel aS h a b → a.length = b.length
  | [], [], _ => rfl
  | (_, _) :: _, (_, _) :: _, ⟨_, _, r⟩ => by simp [PRel.length r]

theorem PRel.get {K : Type} {aS : Addr} {h : Heap} : ∀ {a : List (K × V)} {b : List (K × Value)}, PRel aS h a b → ∀ {i : Nat} {k : K} {v : V}, a[i]? = some (k, v) → ∃ w, b[i]? = some (k, w) ∧ VRel aS h v w
  | [], [], _, i, k, v, e => by simp at e
  | (_, _) :: _, (_, w) :: _, ⟨e1, e2, _⟩, 0, k, v, e => by simp at e; obtain ⟨rfl, rfl⟩ := e; exact ⟨w, by simp [e1], e2⟩
  | (_, _) :: _, (_, _) :: _, ⟨_, _, r⟩, i + 1, k, v, e => by simp at e; obtain ⟨w, h1, h2⟩ := PRel.get r e; exact ⟨w, by simpa using h1, h2⟩

def ObjRel (C : Cx) (h : Heap) (a : Addr) : AObj → Prop
  | .list xs => xs.length ≤ 16777216 ∧ ∃ ws : List Value, h.PlainList a ws.toArray ∧ VRels C.aS h xs ws
  | .dict kvs ep => kvs.length ≤ 16777216 ∧ ∃ kws, h.DictAt (strKind C.prog C.w) a kws ep ∧ PRel C.aS h kvs kws
  | .idict kvs ep => kvs.length ≤ 16777216 ∧ ∃ kws, h.DictAt (intKind C.prog C.w) a kws ep ∧ PRel C.aS h kvs kws
theorem ObjRel.keep {C : Cx} {h h' : Heap} {a : Addr} {o : AObj} (x : ObjRel C h a o) (k : TupKeep h h') (ka : ∀ o, h.get? a = some o → h'.get? a = some o) : ObjRel C h' a o := by
  cases o with
  | list xs => obtain ⟨hz, ws, h1, h2⟩ := x; exact ⟨hz, ws, h1.at ka, h2.keep k⟩
  | dict kvs ep => obtain ⟨hz, ws, h1, h2⟩ := x; exact ⟨hz, ws, h1.at' ka, h2.keep k⟩
  | idict kvs ep => obtain ⟨hz, ws, h1, h2⟩ := x; exact ⟨hz, ws, h1.at' ka, h2.keep k⟩
/-- the object of the view at a is neither a tuple nor a cell -/
theorem ObjRel.shape {C : Cx} {h : Heap} {a : Addr} {o : AObj} (x : ObjRel C h a o) : ∃ ob, h.get? a = some ob ∧ ¬ IsT ob ∧ ∀ v, ob.data ≠ .cell v := by
  cases o with
  | list xs => obtain ⟨_, ws, ⟨n, h1⟩, h2⟩ := x; exact ⟨_, h1, by simp [IsT], by simp⟩
  | dict kvs ep => obtain ⟨_, ws, ⟨o, es, ho, hc, hd, _⟩, h2⟩ := x; exact ⟨o, ho, by simp [IsT, hd], by rw [hd]; simp⟩
  | idict kvs ep => obtain ⟨_, ws, ⟨o, es, ho, hc, hd, _⟩, h2⟩ := x; exact ⟨o, ho, by simp [IsT, hd], by rw [hd]; simp⟩

structure RelG (C : Cx) (σ : View) (s : Shared) : Prop where
  rest : ∃ h tk, s = { C.s₁ with heap := h, toks := tk }
  base : ∀ b o, C.hB.get? b = some o → s.heap.get? b = some o
  view : ∀ a o, σ a = some o → ObjRel C s.heap a o
  apart : ∀ a, σ a ≠ none → C.hB.get? a = none

structure Step (own : Addr → Prop) (σ σ' : View) (h h' : Heap) : Prop where
  keep : ∀ b o, h.get? b = some o → σ b = none → ¬ own b → h'.get? b = some o
  size : h.objs.size ≤ h'.objs.size
  new : ∀ b, σ b = none → σ' b ≠ none → h.objs.size ≤ b
def no : Addr → Prop := fun _ => False

theorem Step.mono {own own' : Addr → Prop} {σ σ' : View} {h h' : Heap} (x : Step own σ σ' h h') (k : ∀ b o, h.get? b = some o → own b → own' b) : Step own' σ σ' h h' :=
  ⟨fun b o e n q => x.keep b o e n fun z => q (k b o e z), x.size, x.new⟩
theorem RelG.dom {C : Cx} {σ : View} {s : Shared} (R : RelG C σ s) : ∀ b, σ b ≠ none → s.heap.get? b ≠ none := fun b hb => by
  cases e : σ b with
  | none => exact absurd e hb
  | some o => obtain ⟨ob, h1, _⟩ := (R.view b o e).shape; rw [h1]; simp
theorem Step.refl {own : Addr → Prop} {σ : View} {h : Heap} : Step own σ σ h h :=
  ⟨fun _ _ e _ _ => e, Nat.le_refl _, fun _ h h' => absurd h h'⟩
theorem Step.trans {own : Addr → Prop} {σ₁ σ₂ σ₃ : View} {h₁ h₂ h₃ : Heap} (x : Step own σ₁ σ₂ h₁ h₂) (y : Step own σ₂ σ₃ h₂ h₃) : Step own σ₁ σ₃ h₁ h₃ where
  keep := fun b o e n q => y.keep b o (x.keep b o e n q) (by
    cases z : σ₂ b with
    | none => rfl
    | some o' => have := x.new b n (by rw [z]; simp); exact absurd (Heap.lt_size e) (Nat.not_lt.mpr this)) q
  size := Nat.le_trans x.size y.size
  new := fun b n m => by
    cases z : σ₂ b with
    | some o' => exact x.new b n (by rw [z]; simp)
    | none => exact Nat.le_trans x.size (y.new b z m)
theorem Step.tups {C : Cx} {own : Addr → Prop} {σ σ' : View} {s : Shared} {h' : Heap} (R : RelG C σ s) (x : Step own σ σ' s.heap h') (ho : ∀ b o, own b → s.heap.get? b = some o → ¬ IsT o) : TupKeep s.heap h' := fun b o e hc =>
  x.keep b o e (by
    cases z : σ b with
    | none => rfl
    | some o' => obtain ⟨ob, h1, h2, _⟩ := (R.view b o' z).shape; rw [e] at h1; cases h1; exact absurd hc h2) fun z => ho b o z e hc
theorem Step.tupsN {C : Cx} {σ σ' : View} {s : Shared} {h' : Heap} (R : RelG C σ s) (x : Step no σ σ' s.heap h') : TupKeep s.heap h' := x.tups R fun _ _ z => z.elim

/-- nothing of the view is touched, objects may be new -/
theorem RelG.grow {C : Cx} {σ : View} {s : Shared} {h' : Heap} {tk : Nat} (R : RelG C σ s) (k : ∀ b o, s.heap.get? b = some o → h'.get? b = some o) : RelG C σ { s with heap := h', toks := tk } where
  rest := let ⟨_, _, e⟩ := R.rest; ⟨h', tk, by rw [e]⟩
  base := fun b o e => k b o (R.base b o e)
  view := fun a o e => (R.view a o e).keep (fun b o e _ => k b o e) fun o e => k a o e
  apart := R.apart
theorem Step.grow {own : Addr → Prop} {σ : View} {h h' : Heap} (k : ∀ b o, h.get? b = some o → h'.get? b = some o) (z : h.objs.size ≤ h'.objs.size) : Step own σ σ h h' :=
  ⟨fun b o e _ _ => k b o e, z, fun _ h h' => absurd h h'⟩
theorem Step.push {own : Addr → Prop} {σ : View} {h : Heap} {o : Obj} : Step own σ σ h (h.push o) := .grow (fun _ _ e => Heap.get?_push_of_some _ e) (by rw [Heap.size_push]; exact Nat.le_succ _)
theorem RelG.tok {C : Cx} {σ : View} {s : Shared} (R : RelG C σ s) (tk : Nat) : RelG C σ { s with toks := tk } := R.grow fun _ _ e => e

theorem RelG.freshNone {C : Cx} {σ : View} {s : Shared} (R : RelG C σ s) {a : Addr} (h : s.heap.get? a = none) : σ a = none := by
  cases e : σ a with
  | none => rfl
  | some o => exact absurd h (R.dom a (by rw [e]; simp))
theorem size_none (h : Heap) : h.get? h.objs.size = none := by
  cases e : h.get? h.objs.size with
  | none => rfl
  | some o => exact absurd (Heap.lt_size e) (Nat.lt_irrefl _)
theorem RelG.baseNone {C : Cx} {σ : View} {s : Shared} (R : RelG C σ s) {a : Addr} (h : s.heap.get? a = none) : C.hB.get? a = none := by
  cases e : C.hB.get? a with
  | none => rfl
  | some o => rw [R.base a o e] at h; cases h
/-- a new object enters the view -/
theorem RelG.add {C : Cx} {σ : View} {s : Shared} {h' : Heap} {tk : Nat} {a : Addr} {o : AObj} (R : RelG C σ s) (k : ∀ b o, s.heap.get? b = some o → h'.get? b = some o) (hn : s.heap.get? a = none) (ho : ObjRel C h' a o) :
    RelG C (upd σ a o) { s with heap := h', toks := tk } where
  rest := (R.grow (tk := tk) k).rest
  base := (R.grow (tk := tk) k).base
  view := fun b o' e => by
    by_cases hb : b = a
    · subst hb; rw [upd_same] at e; cases e; exact ho
    · rw [upd_ne hb] at e; exact (R.grow (tk := tk) k).view b o' e
  apart := fun b hb => by
    by_cases q : b = a
    · subst q; exact R.baseNone hn
    · rw [upd_ne q] at hb; exact R.apart b hb
theorem Step.add {own : Addr → Prop} {σ : View} {h h' : Heap} {a : Addr} {o : AObj} (k : ∀ b o, h.get? b = some o → h'.get? b = some o) (z : h.objs.size ≤ h'.objs.size) (hn : h.objs.size ≤ a) : Step own σ (upd σ a o) h h' :=
  ⟨fun b o e _ _ => k b o e, z, fun b n m => by
    by_cases q : b = a
    · subst q; exact hn
    · rw [upd_ne q] at m; exact absurd n m⟩
theorem Step.addPush {own : Addr → Prop} {σ : View} {h : Heap} {ob : Obj} {o : AObj} : Step own σ (upd σ h.objs.size o) h (h.push ob) := .add (fun _ _ e => Heap.get?_push_of_some _ e) (by rw [Heap.size_push]; exact Nat.le_succ _) (Nat.le_refl _)
/-- an object of the view changes -/
theorem RelG.change {C : Cx} {σ : View} {s : Shared} {h' : Heap} {tk : Nat} {a : Addr} {o o' : AObj} (R : RelG C σ s) (ha : σ a = some o) (k : Heap.SameBut a s.heap h') (ho : ObjRel C h' a o') : RelG C (upd σ a o') { s with heap := h', toks := tk } where
  rest := let ⟨_, _, e⟩ := R.rest; ⟨h', tk, by rw [e]⟩
  base := fun b o e => (k.2 b (by rintro rfl; rw [R.apart b (by rw [ha]; simp)] at e; cases e)).trans (R.base b o e)
  view := fun b o₂ e => by
    by_cases hb : b = a
    · subst hb; rw [upd_same] at e; cases e; exact ho
    · rw [upd_ne hb] at e
      refine (R.view b o₂ e).keep (fun c oc ec hc => ?_) fun oc ec => (k.2 b hb).trans ec
      exact (k.2 c (by rintro rfl; obtain ⟨ob, h1, h2, _⟩ := (R.view c o ha).shape; rw [ec] at h1; cases h1; exact h2 hc)).trans ec
  apart := fun b hb => by
    by_cases q : b = a
    · subst q; exact R.apart b (by rw [ha]; simp)
    · rw [upd_ne q] at hb; exact R.apart b hb
theorem Step.change {own : Addr → Prop} {σ : View} {h h' : Heap} {a : Addr} {o o' : AObj} (ha : σ a = some o) (k : Heap.SameBut a h h') : Step own σ (upd σ a o') h h' :=
  ⟨fun b o₂ e n _ => (k.2 b (by rintro rfl; rw [ha] at n; cases n)).trans e, Nat.le_of_eq k.1.symm,
   fun b n m => by
    by_cases q : b = a
    · subst q; rw [ha] at n; cases n
    · rw [upd_ne q] at m; exact absurd n m⟩
theorem get_none_of_size {h : Heap} {a : Addr} (q : h.objs.size ≤ a) : h.get? a = none := by
  cases e : h.get? a with
  | none => rfl
  | some o => exact absurd (Heap.lt_size e) (Nat.not_lt.mpr q)

/- the heap never shrinks -/
theorem runs_size {M : Model} {Γ : Ctx} {p : Pos} {t : Sem Fin} {fs : List Frame} {s s' : Shared} {e : End} (h : Runs M Γ p t fs s e s') : s.heap.objs.size ≤ s'.heap.objs.size := by
  induction h <;> (try simp only [Shared.setGen, Heap.size_push, Heap.size_after_update] at *) <;> omega
theorem wakes_size {M : Model} {Γ : Ctx} {p : Pos} {g : Nat} {r : Resume} {s s' : Shared} {res : GenResult} (h : Wakes M Γ p g r s res s') : s.heap.objs.size ≤ s'.heap.objs.size := by
  unfold Wakes at h
  split at h
  · exact h.elim
  · split at h
    · obtain ⟨e₁, s₁, hr, _, _, rfl⟩ := h; exact (runs_size hr : (s.setGen g .running).heap.objs.size ≤ s₁.heap.objs.size)
    · rw [h.2]; exact Nat.le_refl _
    · rw [h.2]; exact Nat.le_refl _
  · obtain ⟨e₁, s₁, hr, _, _, rfl⟩ := h; exact (runs_size hr : (s.setGen g .running).heap.objs.size ≤ s₁.heap.objs.size)
  · rw [h.2]; exact Nat.le_refl _
  · rw [h.2]; exact Nat.le_refl _
theorem wp_size {α : Type} (M : Model) (Γ : Ctx) (n : Nat) (t : Sem α) : ∀ (Q : α → Pos → Shared → Prop) (E : Value → Pos → Shared → Prop) (p : Pos) (s : Shared), n ≤ s.heap.objs.size → Sem.wp M Γ t Q E p s →
    Sem.wp M Γ t (fun a p' s' => n ≤ s'.heap.objs.size ∧ Q a p' s') (fun e p' s' => n ≤ s'.heap.objs.size ∧ E e p' s') p s := by
  induction t with
  | pure a | raise a => intro Q E p s hn h; exact ⟨hn, h⟩
  | unsupported | finish | register | yield | fork | await => intro Q E p s _ h; exact h
  | rule _ k ih | «at» _ k ih | point _ k ih | ask k ih | handled _ k ih | stack k ih | thread k ih | loadIfAlive _ k ih | fresh k ih | os _ _ k ih | newGen _ k ih => intro Q E p s hn h; exact ih _ Q E _ _ hn h
  | load a _ k ih => intro Q E p s hn h; obtain ⟨o, ho, h⟩ := h; exact ⟨o, ho, ih o Q E p s hn h⟩
  | update a _ f k ih => intro Q E p s hn h; exact ⟨h.1, ih () Q E p _ (by simpa using hn) h.2⟩
  | alloc o k ih => intro Q E p s hn h; exact ih _ Q E p _ (by simp; omega) h
  | choose src m k ih => intro Q E p s hn h; exact ⟨h.1, ih _ Q E p _ hn h.2⟩
  | call c hd _ _ k ih => intro Q E p s hn h; obtain ⟨r, s', hr, h⟩ := h; exact ⟨r, s', hr, ih r Q E p s' (Nat.le_trans hn (runs_size hr)) h⟩
  | genState g k ih => intro Q E p s hn h; obtain ⟨st, hs, h⟩ := h; exact ⟨st, hs, ih _ Q E p s hn h⟩
  | resume g r _ k ih => intro Q E p s hn h; obtain ⟨res, s', hw, h⟩ := h; exact ⟨res, s', hw, ih res Q E p s' (Nat.le_trans hn (wakes_size hw)) h⟩
/-- behind a tree the heap has at least the size it had -/
theorem with_size {α : Type} {M : Model} {A : Around} {s : Shared} {t : Sem α} {Q : α → Shared → Prop} {E : Value → Shared → Prop}
    (h : wpAny M A t (fun a s' => s.heap.objs.size ≤ s'.heap.objs.size → Q a s') E s) : wpAny M A t Q E s :=
  fun Γ p hΓ => Sem.wp_mono M Γ t (fun _ _ _ x => x.2 x.1) (fun _ _ _ x => x.2) p s (wp_size M Γ _ t _ _ p s (Nat.le_refl _) (h Γ p hΓ))

/-- forget an object -/
def del (σ : View) (a : Addr) : View := fun b => if b = a then none else σ b
end Mine

end
section
set_option autoImplicit false
namespace Mine
open PySem

def Own (env : Env) (b : Addr) : Prop := b = env.locals ∨ ∃ n, env.cells.lookup n = some b

structure FrameRel (C : Cx) (env : Env) (m : Loc) (σ : View) (h : Heap) : Prop where
  ns : ∃ mm, h.Ns env.locals mm ∧ ∀ x v, m x = some v → env.kindOf (Str.ofString x) = some .local → ∃ w, mm (Str.ofString x) = some w ∧ VRel C.aS h v w
  cel : ∀ x v, m x = some v → env.kindOf (Str.ofString x) = some .local ∨
    ((env.kindOf (Str.ofString x) = some .cell ∨ env.kindOf (Str.ofString x) = some .free) ∧ ∃ c w, env.cells.lookup (Str.ofString x) = some c ∧ h.IsCell c (some w) ∧ VRel C.aS h v w)
  cells : ∀ n c, env.cells.lookup n = some c → ∃ v, h.IsCell c v
  sepL : σ env.locals = none
  baseL : C.hB.get? env.locals = none
  baseC : ∀ n c, env.cells.lookup n = some c → C.hB.get? c = none
  dist : env.cells.Pairwise fun x y => x.2 ≠ y.2
  has : ∀ n, env.kindOf n = some .cell ∨ env.kindOf n = some .free → ∃ c, env.cells.lookup n = some c

theorem FrameRel.step {C : Cx} {env : Env} {m : Loc} {σ σ' : View} {s : Shared} {h' : Heap} (F : FrameRel C env m σ s.heap) (R : RelG C σ s) (S : Step no σ σ' s.heap h') : FrameRel C env m σ' h' := by
  have kt := S.tupsN R
  have kc : ∀ c v, s.heap.IsCell c v → h'.IsCell c v := fun c v ⟨o, ho, hd⟩ => ⟨o, S.keep c o ho (by
    cases z : σ c with
    | none => rfl
    | some o' => obtain ⟨ob, h1, _, h3⟩ := (R.view c o' z).shape; rw [ho] at h1; cases h1; exact absurd hd (h3 v)) (fun z => z), hd⟩
  obtain ⟨mm, hn, hv⟩ := F.ns
  have hl : ∃ o, s.heap.get? env.locals = some o := let ⟨o, _, _, ho, _⟩ := hn; ⟨o, ho⟩
  refine ⟨⟨mm, hn.at' fun o e => S.keep _ o e F.sepL (fun z => z), fun x v e k => ?_⟩, fun x v e => ?_, fun n c e => ?_, ?_, F.baseL, F.baseC, F.dist, F.has⟩
  · obtain ⟨w, h1, h2⟩ := hv x v e k; exact ⟨w, h1, h2.keep kt⟩
  · rcases F.cel x v e with q | ⟨q, c, w, h1, h2, h3⟩
    · exact .inl q
    · exact .inr ⟨q, c, w, h1, kc _ _ h2, h3.keep kt⟩
  · obtain ⟨v, hv⟩ := F.cells n c e; exact ⟨v, kc _ _ hv⟩
  · cases z : σ' env.locals with
    | none => rfl
    | some o => obtain ⟨ol, hol⟩ := hl; have := S.new env.locals F.sepL (by rw [z]; simp); exact absurd (Heap.lt_size hol) (Nat.not_lt.mpr this)

structure AOk (A : Around) (k : Nat) : Prop where
  handled : A.handled = none
  depth : A.depth + 3 * k + 3 < recursionLimit
  units : A.units + 10 * k + 20 < cLine
theorem AOk.le {A : Around} {k j : Nat} (x : AOk A k) (h : j ≤ k) : AOk A j := ⟨x.handled, by have := x.depth; omega, by have := x.units; omega⟩
structure EnvOk (env : Env) (sc : Scope) : Prop where
  scope : env.scope = sc
  kind : sc.kind = .function
  globals : env.globals = mainGlobals
  builtins : env.builtins = builtinsNs
theorem EnvOk.k {env : Env} {sc : Scope} (e : EnvOk env sc) : env.scope.kind = .function := by rw [e.scope]; exact e.kind
theorem EnvOk.of {env : Env} {sc : Scope} (e : EnvOk env sc) {x : Str} {n : Option NameKind} (h : sc.names.lookup x = n) : env.kindOf x = n := by unfold Env.kindOf; rw [e.scope]; exact h

abbrev ET := Loc → View → (V → View → Prop) → Prop
abbrev BT := Loc → View → (Bool → View → Prop) → Prop
abbrev LT := Loc → View → (List V → View → Prop) → Prop

structure HE (C : Cx) (sc : Scope) (k : Nat) (e : Expr) (T : ET) : Prop where
  run : ∀ (env : Env) (A : Around) (s : Shared) (m : Loc) (σ : View) (Q : V → View → Prop) (P : Value → Shared → Prop) (E : Value → Shared → Prop),
    EnvOk env sc → AOk A k → RelG C σ s → FrameRel C env m σ s.heap → T m σ Q →
    (∀ v w σ' s', VRel C.aS s'.heap v w → RelG C σ' s' → Step no σ σ' s.heap s'.heap → Q v σ' → P w s') →
    wpAny (model C.prog C.w) A (eval e env) P E s
/-- a test -/
structure HB (C : Cx) (sc : Scope) (k : Nat) (e : Expr) (T : BT) : Prop where
  run : ∀ (env : Env) (A : Around) (s : Shared) (m : Loc) (σ : View) (Q : Bool → View → Prop) (P : Bool → Shared → Prop) (E : Value → Shared → Prop),
    EnvOk env sc → AOk A k → RelG C σ s → FrameRel C env m σ s.heap → T m σ Q →
    (∀ b σ' s', RelG C σ' s' → Step no σ σ' s.heap s'.heap → Q b σ' → P b s') →
    wpAny (model C.prog C.w) A (isTrue e env (eval e env)) P E s
/-- arguments, displays -/
structure HL (C : Cx) (sc : Scope) (k : Nat) (es : List Expr) (T : LT) : Prop where
  run : ∀ (env : Env) (A : Around) (s : Shared) (m : Loc) (σ : View) (pos : Pos) (Q : List V → View → Prop) (P : List Value → Shared → Prop) (E : Value → Shared → Prop),
    EnvOk env sc → AOk A k → RelG C σ s → FrameRel C env m σ s.heap → T m σ Q →
    (∀ vs ws σ' s', VRels C.aS s'.heap vs ws → RelG C σ' s' → Step no σ σ' s.heap s'.heap → Q vs σ' → P ws s') →
    wpAny (model C.prog C.w) A (spliced (backTo pos (starEach es env))) P E s

section
variable {C : Cx} {sc : Scope} {k : Nat}

def eName (x : String) : ET := fun m σ Q => ∃ v, m x = some v ∧ Q v σ
theorem HE.name {x : String} {pos : Pos} (h : sc.names.lookup (Str.ofString x) = some .local) (hd : (Str.ofString x == ("__debug__" : Str)) = false) : HE C sc k (.Name (Str.ofString x) pos) (eName x) := by
  refine ⟨?_⟩; intro env A s m σ Q P E en ao R F ⟨v, hv, q⟩ hP
  obtain ⟨mm, hn, hm⟩ := F.ns
  obtain ⟨w, hw, hr⟩ := hm x v hv (en.of h)
  exact wpAny_Name (wpAny_loadName_local en.k (en.of h) hn hw (hP v w σ s hr R Step.refl q)) hd
theorem HE.cell {x : String} {pos : Pos} (h : sc.names.lookup (Str.ofString x) = some .cell) (hd : (Str.ofString x == ("__debug__" : Str)) = false) : HE C sc k (.Name (Str.ofString x) pos) (eName x) := by
  refine ⟨?_⟩; intro env A s m σ Q P E en ao R F ⟨v, hv, q⟩ hP
  have kk := en.of h
  rcases F.cel x v hv with z | ⟨_, c, w, h1, h2, h3⟩
  · rw [kk] at z; cases z
  · exact wpAny_Name (wpAny_loadName_cell en.k kk h1 h2 (hP v w σ s h3 R Step.refl q)) hd
theorem HE.free {x : String} {pos : Pos} (h : sc.names.lookup (Str.ofString x) = some .free) (hd : (Str.ofString x == ("__debug__" : Str)) = false) (hn : (Str.ofString x == ("__classdict__" : Str)) = false) : HE C sc k (.Name (Str.ofString x) pos) (eName x) := by
  refine ⟨?_⟩; intro env A s m σ Q P E en ao R F ⟨v, hv, q⟩ hP
  have kk := en.of h
  rcases F.cel x v hv with z | ⟨_, c, w, h1, h2, h3⟩
  · rw [kk] at z; cases z
  · exact wpAny_Name (wpAny_loadName_free en.k kk h1 h2 (hP v w σ s h3 R Step.refl q) hn) hd
def eVal (v : V) : ET := fun _ σ Q => Q v σ
theorem HE.glob (O : C.Ok) {x : String} {pos : Pos} {v : V} {w : Value} (h : sc.names.lookup (Str.ofString x) = some .globalImplicit) (hg : C.mg (Str.ofString x) = some w) (hv : ∀ h, VRel C.aS h v w) (hd : (Str.ofString x == ("__debug__" : Str)) = false) :
    HE C sc k (.Name (Str.ofString x) pos) (eVal v) := by
  refine ⟨?_⟩; intro env A s m σ Q P E en ao R F q hP
  exact Calls.Name_function_global en.k (en.of h) (Calls.loadGlobal_global (mg := C.mg) (by rw [en.globals]; exact O.g.keeps R.base) hg (hP v w σ s (hv _) R Step.refl q)) hd
theorem HE.int {i : Int} {n : Nat} {pos : Pos} : HE C sc k (.Constant (.int i) n pos) (eVal (.int i)) := by
  refine ⟨?_⟩; intro env A s m σ Q P E en ao R F q hP
  exact wpAny_Constant_int (hP _ _ σ _ (.int i _) (R.tok _) (Step.refl) q)
theorem HE.str {x : Str} {n : Nat} {pos : Pos} : HE C sc k (.Constant (.str x) n pos) (eVal (.str x)) := by
  refine ⟨?_⟩; intro env A s m σ Q P E en ao R F q hP
  exact Calls.Constant_str (hP _ _ σ _ (.str x _) (R.tok _) (Step.refl) q)
theorem HE.bool {b : Bool} {n : Nat} {pos : Pos} : HE C sc k (.Constant (.bool b) n pos) (eVal (.bool b)) := by
  refine ⟨?_⟩; intro env A s m σ Q P E en ao R F q hP
  exact wpAny_Constant_bool (hP _ _ σ _ (.bool b) R (Step.refl) q)
theorem HE.none {n : Nat} {pos : Pos} : HE C sc k (.Constant .none n pos) (eVal .none) := by
  refine ⟨?_⟩; intro env A s m σ Q P E en ao R F q hP
  exact wpAny_Constant_none (hP _ _ σ _ .none R (Step.refl) q)

theorem HE.gty (O : C.Ok) {x n : String} {pos : Pos} (h : sc.names.lookup (Str.ofString x) = some .globalImplicit) (hg : C.mg (Str.ofString x) = Option.none) (hb : C.mb (Str.ofString x) = some (.type n)) (hd : (Str.ofString x == ("__debug__" : Str)) = false) :
    HE C sc k (.Name (Str.ofString x) pos) (eVal (.ty n)) := by
  refine ⟨?_⟩; intro env A s m σ Q P E en ao R F q hP
  exact Calls.Name_function_global en.k (en.of h) (Calls.loadGlobal_builtin (mg := C.mg) (mb := C.mb) (by rw [en.globals]; exact O.g.keeps R.base) hg (by rw [en.builtins]; exact O.b.keeps R.base) hb (hP _ _ σ s (.ty n) R Step.refl q)) hd

def lNil : LT := fun _ σ Q => Q [] σ
def lCons (T : ET) (L : LT) : LT := fun m σ Q => T m σ fun v σ₁ => L m σ₁ fun vs σ₂ => Q (v :: vs) σ₂
theorem HL.nil : HL C sc k [] lNil := by
  refine ⟨?_⟩; intro env A s m σ pos Q P E en ao R F q hP
  exact Calls.spliced_nil (hP [] [] σ s .nil R Step.refl q)
def notStar : Expr → Bool
  | .Starred .. => false
  | _ => true
theorem starEach_plain {e : Expr} {rest : List Expr} {env : Env} (h : notStar e = true) : starEach (e :: rest) env = (false, eval e env) :: starEach rest env := by
  cases e <;> first | rfl | cases h
theorem HL.cons {e : Expr} {es : List Expr} {T : ET} {L : LT} (he : HE C sc k e T) (hl : HL C sc k es L) (hs : notStar e = true) : HL C sc k (e :: es) (lCons T L) := by
  refine ⟨?_⟩; intro env A s m σ pos Q P E en ao R F q hP
  rw [starEach_plain hs]
  show wpAny _ A (spliced ((false, eval e env) :: backTo pos (starEach es env))) P E s
  refine Calls.spliced_cons (he.run env A s m σ _ _ E en ao R F q fun v w σ₁ s₁ hv R₁ S₁ q₁ => ?_)
  exact hl.run env A s₁ m σ₁ pos _ _ E en ao R₁ (F.step R S₁) q₁ fun vs ws σ₂ s₂ hvs R₂ S₂ q₂ => hP _ _ σ₂ s₂ (.cons (hv.keep (S₂.tupsN R₁)) hvs) R₂ (S₁.trans S₂) q₂

def eTup (L : LT) : ET := fun m σ Q => L m σ fun vs σ₁ => vs.length ≤ 1000 ∧ Q (.tup vs) σ₁
theorem push_old {h : Heap} {o : Obj} : ∀ b o', h.get? b = some o' → (h.push o).get? b = some o' := fun _ _ e => Heap.get?_push_of_some _ e
theorem HE.tup {es : List Expr} {L : LT} {n : Nat} {pos : Pos} (hl : HL C sc k es L) : HE C sc k (.Tuple es n pos) (eTup L) := by
  refine ⟨?_⟩; intro env A s m σ Q P E en ao R F q hP
  show wpAny _ A (do standAt pos; newTuple (← spliced (backTo pos (starEach es env)))) P E s
  refine wpAny_bind (wpAny_standAt (wpAny_bind (hl.run env A s m σ pos _ _ E en ao R F q fun vs ws σ₁ s₁ hv R₁ S₁ q₁ => ?_)))
  have hlen := hv.length
  refine wpAny_newTuple (hP _ _ σ₁ _ (.tup (ws := ws) ⟨_, Heap.get?_push_size _ rfl, rfl, _, rfl⟩ (hv.keep fun _ _ e _ => push_old _ _ e)) (R₁.grow push_old) (S₁.trans .push) q₁.2) (by rw [← hlen, sizeLine_eq]; have := q₁.1; omega)
def newL (xs : List V) (σ : View) (Q : V → View → Prop) : Prop := ∀ a, σ a = none → Q (.ref a) (upd σ a (.list xs))
def eList (L : LT) : ET := fun m σ Q => L m σ fun vs σ₁ => vs.length ≤ 1000 ∧ newL vs σ₁ Q
theorem HE.list {es : List Expr} {L : LT} {pos : Pos} (hl : HL C sc k es L) : HE C sc k (.List es pos) (eList L) := by
  refine ⟨?_⟩; intro env A s m σ Q P E en ao R F q hP
  show wpAny _ A (do standAt pos; newList (← spliced (backTo pos (starEach es env)))) P E s
  refine wpAny_bind (wpAny_standAt (wpAny_bind (hl.run env A s m σ pos _ _ E en ao R F q fun vs ws σ₁ s₁ hv R₁ S₁ q₁ => ?_)))
  have hlen := hv.length
  have hn := size_none s₁.heap
  refine wpAny_newList (hP _ _ (upd σ₁ s₁.heap.objs.size (.list vs)) _ (.ref _) (R₁.add (tk := s₁.toks) push_old hn ⟨by have := q₁.1; omega, ws, ⟨_, Heap.get?_push_size _ rfl⟩, hv.keep fun _ _ e _ => push_old _ _ e⟩) (S₁.trans .addPush) (q₁.2 _ (R₁.freshNone hn))) (by rw [← hlen, sizeLine_eq]; have := q₁.1; omega)
end
end Mine

end
section
set_option autoImplicit false
namespace Mine
open PySem

abbrev O2 := V → V → View → (V → View → Prop) → Prop
abbrev O1 := V → View → (V → View → Prop) → Prop
/-- what holds behind an operation -/
abbrev Aft (C : Cx) (σ : View) (s : Shared) (Q : V → View → Prop) (P : Value → Shared → Prop) : Prop :=
  ∀ v w σ' s', VRel C.aS s'.heap v w → RelG C σ' s' → Step no σ σ' s.heap s'.heap → Q v σ' → P w s'
def Op2 (C : Cx) (k : Nat) (t : Value → Value → Sem Value) (op : O2) : Prop :=
  ∀ (A : Around) (s : Shared) (σ : View) (a b : V) (wa wb : Value) (Q : V → View → Prop) (P E : Value → Shared → Prop), AOk A k → RelG C σ s → VRel C.aS s.heap a wa → VRel C.aS s.heap b wb → op a b σ Q → Aft C σ s Q P →
    wpAny (model C.prog C.w) A (t wa wb) P E s
def Op1 (C : Cx) (k : Nat) (t : Value → Sem Value) (op : O1) : Prop :=
  ∀ (A : Around) (s : Shared) (σ : View) (a : V) (wa : Value) (Q : V → View → Prop) (P E : Value → Shared → Prop), AOk A k → RelG C σ s → VRel C.aS s.heap a wa → op a σ Q → Aft C σ s Q P →
    wpAny (model C.prog C.w) A (t wa) P E s
def eBin (op : O2) (T U : ET) : ET := fun m σ Q => T m σ fun a σ₁ => U m σ₁ fun b σ₂ => op a b σ₂ Q
def eUn (op : O1) (T : ET) : ET := fun m σ Q => T m σ fun a σ₁ => op a σ₁ Q
section
variable {C : Cx} {sc : Scope} {k : Nat}
theorem two {op : O2} {t : Value → Value → Sem Value} {T U : ET} {e f : Expr} (hop : Op2 C k t op) (he : HE C sc k e T) (hf : HE C sc k f U) {env : Env} {A : Around} {s : Shared} {m : Loc} {σ : View} {Q : V → View → Prop} {P E : Value → Shared → Prop}
    (en : EnvOk env sc) (ao : AOk A k) (R : RelG C σ s) (F : FrameRel C env m σ s.heap) (q : eBin op T U m σ Q) (hP : Aft C σ s Q P) :
    wpAny (model C.prog C.w) A (eval e env) (fun a s₁ => wpAny (model C.prog C.w) A (eval f env) (fun b s₂ => wpAny (model C.prog C.w) A (t a b) P E s₂) E s₁) E s :=
  he.run env A s m σ _ _ E en ao R F q fun a wa σ₁ s₁ va R₁ S₁ q₁ =>
    hf.run env A s₁ m σ₁ _ _ E en ao R₁ (F.step R S₁) q₁ fun b wb σ₂ s₂ vb R₂ S₂ q₂ =>
      hop A s₂ σ₂ a b wa wb Q P E ao R₂ (va.keep (S₂.tupsN R₁)) vb q₂ fun v w σ' s' hv R' S' q' => hP v w σ' s' hv R' ((S₁.trans S₂).trans S') q'
theorem HE.bin {op : O2} {o : Operator} {l r : Expr} {pos : Pos} {T U : ET} (hop : Op2 C k (binaryOp o) op) (hl : HE C sc k l T) (hr : HE C sc k r U) : HE C sc k (.BinOp l o r pos) (eBin op T U) := by
  refine ⟨?_⟩; intro env A s m σ Q P E en ao R F q hP
  exact wpAny_BinOp (two hop hl hr en ao R F q hP)
theorem HE.cmp {op : O2} {o : CmpOp} {l r : Expr} {pos : Pos} {T U : ET} (hop : Op2 C k (compareOp o) op) (hl : HE C sc k l T) (hr : HE C sc k r U) (hm : behindInMarks o r = false) : HE C sc k (.Compare l [o] [r] pos) (eBin op T U) := by
  refine ⟨?_⟩; intro env A s m σ Q P E en ao R F q hP
  exact wpAny_Compare1 (two hop hl hr en ao R F q hP) hm
theorem HE.un {op : O1} {o : UnaryOp} {e : Expr} {pos : Pos} {T : ET} (hop : Op1 C k (unaryOp o) op) (he : HE C sc k e T) : HE C sc k (.UnaryOp o e pos) (eUn op T) := by
  refine ⟨?_⟩; intro env A s m σ Q P E en ao R F q hP
  exact wpAny_UnaryOp (he.run env A s m σ _ _ E en ao R F q fun a wa σ₁ s₁ va R₁ S₁ q₁ =>
    hop A s₁ σ₁ a wa Q P E ao R₁ va q₁ fun v w σ' s' hv R' S' q' => hP v w σ' s' hv R' (S₁.trans S') q')

/- tests -/
def tBool (T : ET) : BT := fun m σ Q => T m σ fun v σ' => ∃ b, v = .bool b ∧ Q b σ'
theorem HB.cmp {op : O2} {o : CmpOp} {l r : Expr} {pos : Pos} {T U : ET} (hop : Op2 C k (compareOp o) op) (hl : HE C sc k l T) (hr : HE C sc k r U) (hm : behindInMarks o r = false) : HB C sc k (.Compare l [o] [r] pos) (tBool (eBin op T U)) := by
  refine ⟨?_⟩; intro env A s m σ Q P E en ao R F q hP
  refine wpAny_isTrue_Compare1 (two (P := fun c s₃ => wpAny _ A (truthy c) P E s₃) hop hl hr en ao R F q fun v w σ' s' hv R' S' q' => ?_) hm
  obtain ⟨b, rfl, q'⟩ := q'
  cases hv
  exact wpAny_truthy_bool (hP b σ' s' R' S' q')
/-- a < b < c -/
def tCmp2 (o1 o2 : O2) (T U W : ET) : BT := fun m σ Q => T m σ fun a σ₁ => U m σ₁ fun b σ₂ => o1 a b σ₂ fun v σ₃ => ∃ x, v = .bool x ∧ if x then W m σ₃ fun c σ₄ => o2 b c σ₄ fun u σ₅ => ∃ y, u = .bool y ∧ Q y σ₅ else Q false σ₃
theorem HB.cmp2 {p1 p2 : O2} {o1 o2 : CmpOp} {l r z : Expr} {pos : Pos} {T U W : ET} (h1 : Op2 C k (compareOp o1) p1) (h2 : Op2 C k (compareOp o2) p2) (hl : HE C sc k l T) (hr : HE C sc k r U) (hz : HE C sc k z W) (hm : behindInMarks o2 z = false) :
    HB C sc k (.Compare l [o1, o2] [r, z] pos) (tCmp2 p1 p2 T U W) := by
  refine ⟨?_⟩; intro env A s m σ Q P E en ao R F q hP
  show wpAny _ A (do testChain pos (← eval l env) [o1, o2] [eval r env, markedBehindIn o2 z (eval z env)]) P E s
  rw [markedBehindIn_of_false hm]
  refine wpAny_bind (hl.run env A s m σ _ _ E en ao R F q fun a wa σ₁ s₁ va R₁ S₁ q₁ => ?_)
  show wpAny _ A (do
    let rv ← holding [wa] (eval r env)
    standAt pos
    let c ← holding [wa, rv] (compareOp o1 wa rv)
    release [wa, rv] [c]
    if ← holding [c, rv] (truthy c) then testChain pos rv [o2] [eval z env] else pure false) P E s₁
  refine wpAny_bind (wpAny_holding (hr.run env A s₁ m σ₁ _ _ E en ao R₁ (F.step R S₁) q₁ fun b wb σ₂ s₂ vb R₂ S₂ q₂ => ?_))
  refine wpAny_bind (wpAny_standAt (wpAny_bind (wpAny_holding ?_)))
  refine h1 A s₂ σ₂ a b wa wb _ _ E ao R₂ (va.keep (S₂.tupsN R₁)) vb q₂ fun v w σ₃ s₃ hv R₃ S₃ q₃ => ?_
  obtain ⟨x, rfl, q₃⟩ := q₃
  cases hv
  refine wpAny_bind ?_
  intro Γ p hΓ
  rw [Sem.wp_release]
  refine wpAny_bind (wpAny_holding (wpAny_truthy_bool ?_))
  have S₁₃ := (S₁.trans S₂).trans S₃
  cases x with
  | false => exact wpAny_pure (hP false σ₃ s₃ R₃ S₁₃ (by simpa using q₃))
  | true =>
    simp only [if_true] at q₃ ⊢
    show wpAny _ A (do
      let rv ← holding [wb] (eval z env)
      standAt pos
      let c ← operate [wb, rv] (compareOp o2 wb rv)
      holding [c] (truthy c)) P E s₃
    refine wpAny_bind (wpAny_holding (hz.run env A s₃ m σ₃ _ _ E en ao R₃ (F.step R S₁₃) q₃ fun c wc σ₄ s₄ vc R₄ S₄ q₄ => ?_))
    refine wpAny_bind (wpAny_standAt (wpAny_bind (wpAny_operating ?_)))
    refine h2 A s₄ σ₄ b c wb wc _ _ E ao R₄ ((vb.keep (S₃.tupsN R₂)).keep (S₄.tupsN R₃)) vc q₄ fun v w σ₅ s₅ hv R₅ S₅ q₅ => ?_
    obtain ⟨y, rfl, q₅⟩ := q₅
    cases hv
    exact wpAny_holding (wpAny_truthy_bool (hP y σ₅ s₅ R₅ ((S₁₃.trans S₄).trans S₅) q₅))
theorem HB.val {e : Expr} {T : ET} (he : HE C sc k e T) (hi : ∀ env whole, isTrue e env whole = (do let v ← whole; standAt e.pos; holding [v] (truthy v))) : HB C sc k e (tBool T) := by
  refine ⟨?_⟩; intro env A s m σ Q P E en ao R F q hP
  refine wpAny_isTrue_value (he.run env A s m σ _ _ E en ao R F q fun v w σ' s' hv R' S' q' => ?_) (hi env _)
  obtain ⟨b, rfl, q'⟩ := q'
  cases hv
  exact wpAny_truthy_bool (hP b σ' s' R' S' q')
def tNot (T : BT) : BT := fun m σ Q => T m σ fun b σ' => Q (!b) σ'
theorem HB.not {e : Expr} {pos : Pos} {T : BT} (he : HB C sc k e T) : HB C sc k (.UnaryOp .Not e pos) (tNot T) := by
  refine ⟨?_⟩; intro env A s m σ Q P E en ao R F q hP
  exact wpAny_isTrue_Not (he.run env A s m σ _ _ E en ao R F q fun b σ' s' R' S' q' => hP (!b) σ' s' R' S' q')
/-- a row of tests -/
structure HBs (C : Cx) (sc : Scope) (k : Nat) (op : BoolOp) (es : List Expr) (T : BT) : Prop where
  run : ∀ (env : Env) (A : Around) (s : Shared) (m : Loc) (σ : View) (Q : Bool → View → Prop) (P : Bool → Shared → Prop) (E : Value → Shared → Prop),
    EnvOk env sc → AOk A k → RelG C σ s → FrameRel C env m σ s.heap → T m σ Q →
    (∀ b σ' s', RelG C σ' s' → Step no σ σ' s.heap s'.heap → Q b σ' → P b s') →
    wpAny (model C.prog C.w) A (allTrue op es env) P E s
def tT : BT := fun _ σ Q => Q true σ
def tF : BT := fun _ σ Q => Q false σ
def tAnd (T U : BT) : BT := fun m σ Q => T m σ fun b σ' => if b then U m σ' Q else Q false σ'
def tOr (T U : BT) : BT := fun m σ Q => T m σ fun b σ' => if b then Q true σ' else U m σ' Q
theorem HBs.andNil : HBs C sc k .And [] tT := ⟨fun _ _ s _ σ _ _ _ _ _ R _ q hP => wpAny_allTrue_And_nil (hP true σ s R Step.refl q)⟩
theorem HBs.orNil : HBs C sc k .Or [] tF := ⟨fun _ _ s _ σ _ _ _ _ _ R _ q hP => wpAny_allTrue_Or_nil (hP false σ s R Step.refl q)⟩
theorem HBs.and {e : Expr} {es : List Expr} {T U : BT} (he : HB C sc k e T) (hs : HBs C sc k .And es U) : HBs C sc k .And (e :: es) (tAnd T U) := by
  refine ⟨?_⟩; intro env A s m σ Q P E en ao R F q hP
  refine wpAny_allTrue_And_cons (he.run env A s m σ _ _ E en ao R F q fun b σ' s' R' S' q' => ?_)
  cases b with
  | false => simpa using hP false σ' s' R' S' (by simpa using q')
  | true => simp only [if_true] at q' ⊢; exact hs.run env A s' m σ' Q P E en ao R' (F.step R S') q' fun b σ₂ s₂ R₂ S₂ q₂ => hP b σ₂ s₂ R₂ (S'.trans S₂) q₂
theorem HBs.or {e : Expr} {es : List Expr} {T U : BT} (he : HB C sc k e T) (hs : HBs C sc k .Or es U) : HBs C sc k .Or (e :: es) (tOr T U) := by
  refine ⟨?_⟩; intro env A s m σ Q P E en ao R F q hP
  refine wpAny_allTrue_Or_cons (he.run env A s m σ _ _ E en ao R F q fun b σ' s' R' S' q' => ?_)
  cases b with
  | true => simpa using hP true σ' s' R' S' (by simpa using q')
  | false => simp only [Bool.false_eq_true, if_false] at q' ⊢; exact hs.run env A s' m σ' Q P E en ao R' (F.step R S') q' fun b σ₂ s₂ R₂ S₂ q₂ => hP b σ₂ s₂ R₂ (S'.trans S₂) q₂
theorem HB.boolOp {op : BoolOp} {es : List Expr} {pos : Pos} {T : BT} (h : HBs C sc k op es T) : HB C sc k (.BoolOp op es pos) T := by
  refine ⟨?_⟩; intro env A s m σ Q P E en ao R F q hP
  exact wpAny_isTrue_BoolOp (h.run env A s m σ Q P E en ao R F q hP)

/- values of and, or (of bools) -/
structure HVs (C : Cx) (sc : Scope) (k : Nat) (op : BoolOp) (es : List Expr) (T : ET) : Prop where
  run : ∀ (env : Env) (A : Around) (s : Shared) (m : Loc) (σ : View) (pos : Pos) (Q : V → View → Prop) (P : Value → Shared → Prop) (E : Value → Shared → Prop),
    EnvOk env sc → AOk A k → RelG C σ s → FrameRel C env m σ s.heap → T m σ Q → Aft C σ s Q P → wpAny (model C.prog C.w) A (boolOp pos op (evalEach es env)) P E s
theorem HVs.one {op : BoolOp} {e : Expr} {T : ET} (he : HE C sc k e T) : HVs C sc k op [e] T := by
  refine ⟨?_⟩; intro env A s m σ pos Q P E en ao R F q hP
  exact he.run env A s m σ Q P E en ao R F q hP
def eAnd (T U : ET) : ET := fun m σ Q => T m σ fun v σ' => ∃ b, v = .bool b ∧ if b then U m σ' Q else Q (.bool false) σ'
def eOr (T U : ET) : ET := fun m σ Q => T m σ fun v σ' => ∃ b, v = .bool b ∧ if b then Q (.bool true) σ' else U m σ' Q
theorem HVs.and {e f : Expr} {es : List Expr} {T U : ET} (he : HE C sc k e T) (hs : HVs C sc k .And (f :: es) U) : HVs C sc k .And (e :: f :: es) (eAnd T U) := by
  refine ⟨?_⟩; intro env A s m σ pos Q P E en ao R F q hP
  show wpAny _ A (do
    let v ← eval e env
    standAt pos
    let t ← holding [v] (truthy v)
    match BoolOp.And, t with
    | .And, false | .Or, true => pure v
    | _, _ => boolOp pos .And (evalEach (f :: es) env)) P E s
  refine wpAny_bind (he.run env A s m σ _ _ E en ao R F q fun v w σ' s' hv R' S' q' => wpAny_bind (wpAny_standAt (wpAny_bind (wpAny_holding ?_))))
  obtain ⟨b, rfl, q'⟩ := q'
  cases hv
  refine wpAny_truthy_bool ?_
  cases b with
  | false => exact wpAny_pure (hP _ _ σ' s' (.bool false) R' S' (by simpa using q'))
  | true => simp only [if_true] at q'; exact hs.run env A s' m σ' pos Q P E en ao R' (F.step R S') q' fun v w σ₂ s₂ hv R₂ S₂ q₂ => hP v w σ₂ s₂ hv R₂ (S'.trans S₂) q₂
theorem HVs.or {e f : Expr} {es : List Expr} {T U : ET} (he : HE C sc k e T) (hs : HVs C sc k .Or (f :: es) U) : HVs C sc k .Or (e :: f :: es) (eOr T U) := by
  refine ⟨?_⟩; intro env A s m σ pos Q P E en ao R F q hP
  show wpAny _ A (do
    let v ← eval e env
    standAt pos
    let t ← holding [v] (truthy v)
    match BoolOp.Or, t with
    | .And, false | .Or, true => pure v
    | _, _ => boolOp pos .Or (evalEach (f :: es) env)) P E s
  refine wpAny_bind (he.run env A s m σ _ _ E en ao R F q fun v w σ' s' hv R' S' q' => wpAny_bind (wpAny_standAt (wpAny_bind (wpAny_holding ?_))))
  obtain ⟨b, rfl, q'⟩ := q'
  cases hv
  refine wpAny_truthy_bool ?_
  cases b with
  | true => exact wpAny_pure (hP _ _ σ' s' (.bool true) R' S' (by simpa using q'))
  | false => simp only [Bool.false_eq_true, if_false] at q'; exact hs.run env A s' m σ' pos Q P E en ao R' (F.step R S') q' fun v w σ₂ s₂ hv R₂ S₂ q₂ => hP v w σ₂ s₂ hv R₂ (S'.trans S₂) q₂
theorem HE.boolOp {op : BoolOp} {es : List Expr} {pos : Pos} {T : ET} (h : HVs C sc k op es T) : HE C sc k (.BoolOp op es pos) T := by
  refine ⟨?_⟩; intro env A s m σ Q P E en ao R F q hP
  exact h.run env A s m σ pos Q P E en ao R F q hP

/- subscripts -/
theorem HE.sub {op : O2} {value slice : Expr} {pos : Pos} {T U : ET} (hv : HE C sc k value T) (hi : HE C sc k slice U)
    (hop : Op2 C k (fun o i => getitemInPython o >>= fun b => subscripted slice b o i) op) : HE C sc k (.Subscript value slice pos) (eBin op T U) := by
  refine ⟨?_⟩; intro env A s m σ Q P E en ao R F q hP
  show wpAny _ A (do
    let o ← eval value env
    let i ← holding [o] (eval slice env)
    standAt pos
    let r ← subscripted slice (← getitemInPython o) o i
    letTemporaryGo value o r
    pure r) P E s
  refine wpAny_bind (wpAny_mono (two (P := P) (E := E) hop hv hi en ao R F q hP) (fun o s₁ h₁ => wpAny_bind (wpAny_holding (wpAny_mono h₁ (fun i s₂ h₂ => wpAny_bind (wpAny_standAt ?_)) fun _ _ x => x))) fun _ _ x => x)
  have h₃ : wpAny (model C.prog C.w) A ((getitemInPython o >>= fun b => subscripted slice b o i) >>= fun r => letTemporaryGo value o r >>= fun _ => pure r) P E s₂ :=
    wpAny_bind (wpAny_mono h₂ (fun r s₃ hr => wpAny_bind (wpAny_letTemporaryGo (wpAny_pure hr))) fun _ _ x => x)
  rwa [bind_assoc] at h₃
end
end Mine

end
section
set_option autoImplicit false
namespace Mine
open PySem

/-- a short factor -/
def Short (i : Int) : Prop := i.natAbs < 2 ^ 64
theorem intBits_short {i : Int} (h : Short i) : Builtin.Int.intBits i ≤ 64 := by
  unfold Builtin.Int.intBits
  split
  · decide
  · rename_i hn
    have h0 : i.natAbs ≠ 0 := by
      intro e
      have : i = 0 := Int.natAbs_eq_zero.mp e
      simp [this] at hn
    have := (Nat.log2_lt h0).mpr h
    omega
theorem beq_dec {α : Type} [DecidableEq α] (a b : α) : (a == b) = decide (a = b) := by
  by_cases h : a = b
  · subst h; simp
  · simp [h]
section
variable {C : Cx} {k : Nat}
def opSub : O2
  | .int x, .int y, σ, Q => Q (.int (x - y)) σ
  | _, _, _, _ => False
theorem ok_sub : Op2 C k (binaryOp .Sub) opSub := by
  intro A s σ a b wa wb Q P E ao R va vb q hP
  cases a <;> first | exact q.elim | skip
  cases b <;> first | exact q.elim | skip
  cases va; cases vb
  exact _root_.PySem.P.sub_int (hP _ _ σ _ (.int _ _) (R.tok _) Step.refl q)
def opMod : O2
  | .int x, .int y, σ, Q => 0 < y ∧ Q (.int (x % y)) σ
  | _, _, _, _ => False
theorem ok_mod : Op2 C k (binaryOp .Mod) opMod := by
  intro A s σ a b wa wb Q P E ao R va vb q hP
  cases a <;> first | exact q.elim | skip
  cases b <;> first | exact q.elim | skip
  cases va; cases vb
  rename_i x t y u
  obtain ⟨hy, q⟩ := q
  refine PyProof.Rows.mod_int' (by omega) ?_
  rw [Int.fmod_eq_emod_of_nonneg _ (by omega)]
  exact hP _ _ σ _ (.int _ _) (R.tok _) Step.refl q
def opDiv : O2
  | .int x, .int y, σ, Q => (0 < y ∧ y < 1073741824) ∧ Q (.int (x / y)) σ
  | _, _, _, _ => False
theorem ok_div : Op2 C k (binaryOp .FloorDiv) opDiv := by
  intro A s σ a b wa wb Q P E ao R va vb q hP
  cases a <;> first | exact q.elim | skip
  cases b <;> first | exact q.elim | skip
  cases va; cases vb
  obtain ⟨hy, q⟩ := q
  refine PyProof.Rows.floordiv_int (by omega) ?_ (.inl (PyProof.noPylong_small (by omega)))
  rw [Int.fdiv_eq_ediv_of_nonneg _ (by omega)]
  exact hP _ _ σ _ (.int _ _) (R.tok _) Step.refl q
def opMul : O2
  | .int x, .int y, σ, Q => (Short x ∨ Short y) ∧ Q (.int (x * y)) σ
  | _, _, _, _ => False
theorem ok_mul : Op2 C k (binaryOp .Mult) opMul := by
  intro A s σ a b wa wb Q P E ao R va vb q hP
  cases a <;> first | exact q.elim | skip
  cases b <;> first | exact q.elim | skip
  cases va; cases vb
  refine _root_.PySem.P.mul_int (hP _ _ σ _ (.int _ _) (R.tok _) Step.refl q.2) (q.1.elim (fun h => .of_left (intBits_short h)) fun h => ?_)
  exact .of_right (intBits_short h)
def opPow : O2
  | .int x, .int y, σ, Q => (0 ≤ y ∧ (Builtin.Int.intBits x : Int) * y ≤ 2 ^ 27) ∧ Q (.int (x ^ y.toNat)) σ
  | _, _, _, _ => False
theorem ok_pow : Op2 C k (binaryOp .Pow) opPow := by
  intro A s σ a b wa wb Q P E ao R va vb q hP
  cases a <;> first | exact q.elim | skip
  cases b <;> first | exact q.elim | skip
  cases va; cases vb
  exact PyProof.Rows.pow_int q.1.1 q.1.2 (hP _ _ σ _ (.int _ _) (R.tok _) Step.refl q.2)
def opLt : O2
  | .int x, .int y, σ, Q => Q (.bool (decide (x < y))) σ
  | _, _, _, _ => False
def opLe : O2
  | .int x, .int y, σ, Q => Q (.bool (decide (x ≤ y))) σ
  | _, _, _, _ => False
def opGt : O2
  | .int x, .int y, σ, Q => Q (.bool (decide (x > y))) σ
  | _, _, _, _ => False
def opGe : O2
  | .int x, .int y, σ, Q => Q (.bool (decide (x ≥ y))) σ
  | _, _, _, _ => False
theorem ok_lt : Op2 C k (compareOp .Lt) opLt := by
  intro A s σ a b wa wb Q P E ao R va vb q hP
  cases a <;> first | exact q.elim | skip
  cases b <;> first | exact q.elim | skip
  cases va; cases vb
  exact _root_.PySem.P.lt_int (hP _ _ σ _ (.bool _) R Step.refl q)
theorem ok_le : Op2 C k (compareOp .LtE) opLe := by
  intro A s σ a b wa wb Q P E ao R va vb q hP
  cases a <;> first | exact q.elim | skip
  cases b <;> first | exact q.elim | skip
  cases va; cases vb
  exact _root_.PySem.P.le_int (hP _ _ σ _ (.bool _) R Step.refl q)
theorem ok_gt : Op2 C k (compareOp .Gt) opGt := by
  intro A s σ a b wa wb Q P E ao R va vb q hP
  cases a <;> first | exact q.elim | skip
  cases b <;> first | exact q.elim | skip
  cases va; cases vb
  exact _root_.PySem.P.gt_int (hP _ _ σ _ (.bool _) R Step.refl q)
theorem ok_ge : Op2 C k (compareOp .GtE) opGe := by
  intro A s σ a b wa wb Q P E ao R va vb q hP
  cases a <;> first | exact q.elim | skip
  cases b <;> first | exact q.elim | skip
  cases va; cases vb
  exact _root_.PySem.P.ge_int (hP _ _ σ _ (.bool _) R Step.refl q)
def opNeg : O1
  | .int x, σ, Q => Q (.int (-x)) σ
  | _, _, _ => False
theorem ok_neg : Op1 C k (unaryOp .USub) opNeg := by
  intro A s σ a wa Q P E ao R va q hP
  cases a <;> first | exact q.elim | skip
  cases va
  exact _root_.PySem.P.neg_int (hP _ _ σ _ (.int _ _) (R.tok _) Step.refl q)

/-- equality of plain values -/
def veq0 : V → V → Option Bool
  | .none, .none => some true
  | .none, .str _ => some false
  | .str _, .none => some false
  | .bool a, .bool b => some (a == b)
  | .int a, .int b => some (decide (a = b))
  | .str a, .str b => some (decide (a = b))
  | _, _ => none
def opEq0 : O2 := fun a b σ Q => ∃ r, veq0 a b = some r ∧ Q (.bool r) σ
def opNe0 : O2 := fun a b σ Q => ∃ r, veq0 a b = some r ∧ Q (.bool (!r)) σ
theorem ok_eq0 : Op2 C k (compareOp .Eq) opEq0 := by
  intro A s σ a b wa wb Q P E ao R va vb ⟨r, hr, q⟩ hP
  unfold veq0 at hr
  split at hr <;> cases hr <;> cases va <;> cases vb
  · exact PySem.EqNone.eq_none_none (hP _ _ σ _ (.bool _) R Step.refl q)
  · exact PySem.EqNone.eq_none_str (hP _ _ σ _ (.bool _) R Step.refl q)
  · exact PySem.EqNone.eq_str_none (hP _ _ σ _ (.bool _) R Step.refl q)
  · exact PyProof.Rows.eq_bool (hP _ _ σ _ (.bool _) R Step.refl q)
  · exact _root_.PySem.P.eq_int (by rw [beq_dec]; exact hP _ _ σ _ (.bool _) R Step.refl q)
  · exact PyProof.Rows.eq_str (hP _ _ σ _ (.bool _) R Step.refl (by rw [beq_dec]; exact q))
theorem ok_ne0 : Op2 C k (compareOp .NotEq) opNe0 := by
  intro A s σ a b wa wb Q P E ao R va vb ⟨r, hr, q⟩ hP
  unfold veq0 at hr
  split at hr <;> cases hr <;> cases va <;> cases vb
  · exact PySem.EqNone.ne_none_none (hP _ _ σ _ (.bool _) R Step.refl q)
  · exact PySem.EqNone.ne_none_str (hP _ _ σ _ (.bool _) R Step.refl q)
  · exact PySem.EqNone.ne_str_none (hP _ _ σ _ (.bool _) R Step.refl q)
  · exact PyProof.Rows.ne_bool (hP _ _ σ _ (.bool _) R Step.refl q)
  · exact _root_.PySem.P.ne_int (hP _ _ σ _ (.bool _) R Step.refl (by rw [bne, beq_dec]; exact q))
  · exact PyProof.Rows.ne_str (hP _ _ σ _ (.bool _) R Step.refl (by rw [bne, beq_dec]; exact q))

/- texts -/
def opInS : O2
  | .str y, .str x, σ, Q => Q (.bool (Txt.contains x y)) σ
  | _, _, _, _ => False
theorem ok_inS : Op2 C k (compareOp .In) opInS := by
  intro A s σ a b wa wb Q P E ao R va vb q hP
  cases a <;> first | exact q.elim | skip
  cases b <;> first | exact q.elim | skip
  cases va; cases vb
  exact SB.contains (hP _ _ σ _ (.bool _) R Step.refl q)
def opNotInS : O2
  | .str y, .str x, σ, Q => Q (.bool (!Txt.contains x y)) σ
  | _, _, _, _ => False
theorem ok_notInS : Op2 C k (compareOp .NotIn) opNotInS := by
  intro A s σ a b wa wb Q P E ao R va vb q hP
  cases a <;> first | exact q.elim | skip
  cases b <;> first | exact q.elim | skip
  cases va; cases vb
  exact SB.notContains (hP _ _ σ _ (.bool _) R Step.refl q)
end
end Mine

end
section
set_option autoImplicit false
namespace Mine
open PySem

theorem ofString_inj {a b : String} (h : Str.ofString a = Str.ofString b) : a = b := by
  rw [Str.ofString_eq_toList, Str.ofString_eq_toList] at h
  have h1 : (a.toList.map Char.toNat) = (b.toList.map Char.toNat) := by
    have := congrArg (fun x : Str => x.cps.toList) h
    simpa using this
  have h2 : a.toList = b.toList := by
    refine (List.map_inj_right ?_).mp h1
    intro x y e
    exact Char.toNat_inj.mp e
  exact String.toList_inj.mp h2

inductive Fl where
  | next | brk | cont
  | ret (v : V)
abbrev ST := Loc → View → (Fl → Loc → View → Prop) → Prop
inductive FlRel (aS : Addr) (h : Heap) : Fl → Flow → Prop
  | next : FlRel aS h .next .next
  | brk : FlRel aS h .brk .brk
  | cont : FlRel aS h .cont .cont
  | ret {v : V} {w : Value} : VRel aS h v w → FlRel aS h (.ret v) (.ret w)
abbrev AftS (C : Cx) (env : Env) (σ : View) (s : Shared) (Q : Fl → Loc → View → Prop) (P : Flow → Shared → Prop) : Prop :=
  ∀ f g m' σ' s', FlRel C.aS s'.heap f g → RelG C σ' s' → FrameRel C env m' σ' s'.heap → Step (Own env) σ σ' s.heap s'.heap → Q f m' σ' → P g s'
structure HS (C : Cx) (sc : Scope) (k : Nat) (b : List Stmt) (T : ST) : Prop where
  run : ∀ (env : Env) (A : Around) (s : Shared) (m : Loc) (σ : View) (Q : Fl → Loc → View → Prop) (P : Flow → Shared → Prop) (E : Value → Shared → Prop),
    EnvOk env sc → AOk A k → RelG C σ s → FrameRel C env m σ s.heap → T m σ Q → AftS C env σ s Q P → wpAny (model C.prog C.w) A (execs b env) P E s
structure HS1 (C : Cx) (sc : Scope) (k : Nat) (b : Stmt) (T : ST) : Prop where
  run : ∀ (env : Env) (A : Around) (s : Shared) (m : Loc) (σ : View) (Q : Fl → Loc → View → Prop) (P : Flow → Shared → Prop) (E : Value → Shared → Prop),
    EnvOk env sc → AOk A k → RelG C σ s → FrameRel C env m σ s.heap → T m σ Q → AftS C env σ s Q P → wpAny (model C.prog C.w) A (exec b env) P E s

section
variable {C : Cx} {sc : Scope} {k : Nat}
/-- own things are no tuples -/
theorem FrameRel.ownT {env : Env} {m : Loc} {σ : View} {h : Heap} (F : FrameRel C env m σ h) : ∀ b o, Own env b → h.get? b = some o → ¬ IsT o := by
  rintro b o (rfl | ⟨n, hn⟩) ho ⟨_, it, n', hd⟩
  · obtain ⟨mm, ⟨o', es, ep, ho', hd', _⟩, _⟩ := F.ns
    rw [ho] at ho'; cases ho'; rw [hd] at hd'; cases hd'
  · obtain ⟨v, o', ho', hd'⟩ := F.cells n b hn
    rw [ho] at ho'; cases ho'; rw [hd] at hd'; cases hd'
theorem Step.tupsO {env : Env} {m : Loc} {σ σ' : View} {s : Shared} {h' : Heap} (F : FrameRel C env m σ s.heap) (R : RelG C σ s) (S : Step (Own env) σ σ' s.heap h') : TupKeep s.heap h' := S.tups R F.ownT
theorem Step.own {env : Env} {σ σ' : View} {h h' : Heap} (S : Step no σ σ' h h') : Step (Own env) σ σ' h h' := S.mono fun _ _ _ z => z.elim

def sNil : ST := fun m σ Q => Q .next m σ
def sSeq (T U : ST) : ST := fun m σ Q => T m σ fun f m₁ σ₁ => match f with
  | .next => U m₁ σ₁ Q
  | f => Q f m₁ σ₁
theorem HS.nil : HS C sc k [] sNil := ⟨fun _ _ s m σ _ _ _ _ _ R F q hP => wpAny_execs_nil (hP .next .next m σ s .next R F Step.refl q)⟩
theorem HS.cons {st : Stmt} {b : List Stmt} {T U : ST} (h1 : HS1 C sc k st T) (h2 : HS C sc k b U) : HS C sc k (st :: b) (sSeq T U) := by
  refine ⟨?_⟩; intro env A s m σ Q P E en ao R F q hP
  refine wpAny_execs_cons (h1.run env A s m σ _ _ E en ao R F q fun f g m₁ σ₁ s₁ hf R₁ F₁ S₁ q₁ => ?_)
  cases hf with
  | next => exact h2.run env A s₁ m₁ σ₁ Q P E en ao R₁ F₁ q₁ fun f g m₂ σ₂ s₂ hf R₂ F₂ S₂ q₂ => hP f g m₂ σ₂ s₂ hf R₂ F₂ (S₁.trans S₂) q₂
  | brk => exact hP _ _ m₁ σ₁ s₁ .brk R₁ F₁ S₁ q₁
  | cont => exact hP _ _ m₁ σ₁ s₁ .cont R₁ F₁ S₁ q₁
  | ret hv => exact hP _ _ m₁ σ₁ s₁ (.ret hv) R₁ F₁ S₁ q₁

/-- storing into a name of the frame -/
theorem store_local {env : Env} {A : Around} {s : Shared} {m : Loc} {σ : View} {x : String} {v : V} {w : Value} {P : Unit → Shared → Prop} {E : Value → Shared → Prop} (en : EnvOk env sc) (R : RelG C σ s) (F : FrameRel C env m σ s.heap)
    (hl : sc.names.lookup (Str.ofString x) = some .local) (hv : VRel C.aS s.heap v w)
    (h : ∀ s', RelG C σ s' → FrameRel C env (put m x v) σ s'.heap → Step (fun b => b = env.locals) σ σ s.heap s'.heap → P () s') : wpAny (model C.prog C.w) A (storeName env (Str.ofString x) w) P E s := by
  obtain ⟨mm, hn, hm⟩ := F.ns
  have kl := en.of hl
  refine wpAny_storeName_local kl hn (fun h' hn' hs' => ?_) (by rw [en.k]; rfl)
  obtain ⟨oL, esL, epL, hoL, hdL, _⟩ := id hn
  have kt : TupKeep s.heap h' := fun b o e ht => (hs'.2 b (by rintro rfl; rw [hoL] at e; cases e; obtain ⟨_, _, _, hd⟩ := ht; rw [hdL] at hd; cases hd)).trans e
  have kc : ∀ c v, s.heap.IsCell c v → h'.IsCell c v := fun c v ⟨o, ho, hd⟩ => ⟨o, (hs'.2 c (by rintro rfl; rw [hoL] at ho; cases ho; rw [hdL] at hd; cases hd)).trans ho, hd⟩
  refine h _ ?_ ?_ ?_
  · refine ⟨let ⟨_, _, e⟩ := R.rest; ⟨h', s.toks + 1, by rw [e]⟩, fun b o e => ?_, fun a o e => ?_, R.apart⟩
    · exact (hs'.2 b (by rintro rfl; rw [F.baseL] at e; cases e)).trans (R.base b o e)
    · exact (R.view a o e).keep kt fun o' e' => (hs'.2 a (by rintro rfl; rw [F.sepL] at e; cases e)).trans e'
  · refine ⟨⟨_, hn', fun y u e ky => ?_⟩, fun y u e => ?_, fun n c e => ?_, F.sepL, F.baseL, F.baseC, F.dist, F.has⟩
    · by_cases hy : y = x
      · subst hy; rw [put_same] at e; cases e; exact ⟨w, by simp, hv.keep kt⟩
      · rw [put_ne hy] at e
        obtain ⟨w', h1, h2⟩ := hm y u e ky
        exact ⟨w', by simp [show ¬ Str.ofString y = Str.ofString x from fun z => hy (ofString_inj z), h1], h2.keep kt⟩
    · by_cases hy : y = x
      · subst hy; exact .inl kl
      · rw [put_ne hy] at e
        rcases F.cel y u e with z | ⟨z, c, w', h1, h2, h3⟩
        · exact .inl z
        · exact .inr ⟨z, c, w', h1, kc _ _ h2, h3.keep kt⟩
    · obtain ⟨v, hv⟩ := F.cells n c e; exact ⟨v, kc _ _ hv⟩
  · exact ⟨fun b o e n q => (hs'.2 b q).trans e, Nat.le_of_eq hs'.1.symm, fun _ a b => absurd a b⟩
theorem store_cell {env : Env} {A : Around} {s : Shared} {m : Loc} {σ : View} {x : String} {v : V} {w : Value} {P : Unit → Shared → Prop} {E : Value → Shared → Prop} (en : EnvOk env sc) (R : RelG C σ s) (F : FrameRel C env m σ s.heap)
    (hl : sc.names.lookup (Str.ofString x) = some .cell) (hv : VRel C.aS s.heap v w)
    (h : ∀ s', RelG C σ s' → FrameRel C env (put m x v) σ s'.heap → Step (Own env) σ σ s.heap s'.heap → P () s') : wpAny (model C.prog C.w) A (storeName env (Str.ofString x) w) P E s := by
  have kl := en.of hl
  obtain ⟨c₀, hc₀⟩ := F.has _ (.inl kl)
  obtain ⟨v₀, hv₀⟩ := F.cells _ _ hc₀
  refine wpAny_storeName_cell en.k kl hc₀ hv₀ fun h' hc' hs' => ?_
  obtain ⟨oc, hoc, hdc⟩ := id hv₀
  have kt : TupKeep s.heap h' := fun b o e ht => (hs'.2 b (by rintro rfl; rw [hoc] at e; cases e; obtain ⟨_, _, _, hd⟩ := ht; rw [hdc] at hd; cases hd)).trans e
  have kc : ∀ c v, c ≠ c₀ → s.heap.IsCell c v → h'.IsCell c v := fun c v hne ⟨o, ho, hd⟩ => ⟨o, (hs'.2 c hne).trans ho, hd⟩
  obtain ⟨mm, hn, hm⟩ := F.ns
  have hL : env.locals ≠ c₀ := by
    rintro e
    obtain ⟨oL, _, _, hoL, hdL, _⟩ := hn
    rw [e, hoc] at hoL; cases hoL; rw [hdc] at hdL; cases hdL
  have hσ : σ c₀ = Option.none := by
    cases z : σ c₀ with
    | none => rfl
    | some o' => obtain ⟨ob, h1, _, h3⟩ := (R.view c₀ o' z).shape; rw [hoc] at h1; cases h1; exact absurd hdc (h3 _)
  refine h _ ?_ ?_ ?_
  · refine ⟨let ⟨_, _, e⟩ := R.rest; ⟨h', s.toks, by rw [e]⟩, fun b o e => ?_, fun a o e => ?_, R.apart⟩
    · exact (hs'.2 b (by rintro rfl; rw [F.baseC _ _ hc₀] at e; cases e)).trans (R.base b o e)
    · exact (R.view a o e).keep kt fun o' e' => (hs'.2 a (by rintro rfl; rw [hσ] at e; cases e)).trans e'
  · refine ⟨⟨mm, hn.sameBut hs' hL, fun y u e ky => ?_⟩, fun y u e => ?_, fun n c e => ?_, F.sepL, F.baseL, F.baseC, F.dist, F.has⟩
    · have hy : y ≠ x := by rintro rfl; rw [kl] at ky; cases ky
      rw [put_ne hy] at e
      obtain ⟨w', h1, h2⟩ := hm y u e ky
      exact ⟨w', h1, h2.keep kt⟩
    · by_cases hy : y = x
      · subst hy; rw [put_same] at e; cases e; exact .inr ⟨.inl kl, c₀, w, hc₀, hc', hv.keep kt⟩
      · rw [put_ne hy] at e
        rcases F.cel y u e with z | ⟨z, c, w', h1, h2, h3⟩
        · exact .inl z
        · exact .inr ⟨z, c, w', h1, kc _ _ (by rintro rfl; exact hy (ofString_inj (name_of_addr F.dist (mem_of_lookup h1) (mem_of_lookup hc₀)))) h2, h3.keep kt⟩
    · by_cases hc : c = c₀
      · subst hc; exact ⟨_, hc'⟩
      · obtain ⟨v, hv⟩ := F.cells n c e; exact ⟨v, kc _ _ hc hv⟩
  · exact ⟨fun b o e n q => (hs'.2 b fun z => q (.inr ⟨_, z ▸ hc₀⟩)).trans e, Nat.le_of_eq hs'.1.symm, fun _ a b => absurd a b⟩
/-- a name of the frame that may be stored into -/
def Var (sc : Scope) (x : String) : Prop := sc.names.lookup (Str.ofString x) = some .local ∨ sc.names.lookup (Str.ofString x) = some .cell
theorem store {env : Env} {A : Around} {s : Shared} {m : Loc} {σ : View} {x : String} {v : V} {w : Value} {P : Unit → Shared → Prop} {E : Value → Shared → Prop} (en : EnvOk env sc) (R : RelG C σ s) (F : FrameRel C env m σ s.heap)
    (hl : Var sc x) (hv : VRel C.aS s.heap v w)
    (h : ∀ s', RelG C σ s' → FrameRel C env (put m x v) σ s'.heap → Step (Own env) σ σ s.heap s'.heap → P () s') : wpAny (model C.prog C.w) A (storeName env (Str.ofString x) w) P E s :=
  hl.elim (fun z => store_local en R F z hv fun s' R' F' S' => h s' R' F' (S'.mono fun _ _ _ q => .inl q)) fun z => store_cell en R F z hv h

def sSet (x : String) (T : ET) : ST := fun m σ Q => T m σ fun v σ' => Q .next (put m x v) σ'
theorem HS1.set {x : String} {p pos : Pos} {value : Expr} {T : ET} (hx : Var sc x) (he : HE C sc k value T) (hs : ∀ env, EnvOk env sc → swapsWith value (some (.Name (Str.ofString x) p)) pos.line env = pure false) : HS1 C sc k (.Assign [.Name (Str.ofString x) p] value pos) (sSet x T) := by
  refine ⟨?_⟩; intro env A s m σ Q P E en ao R F q hP
  refine wpAny_Assign_Name (he.run env A s m σ _ _ E en ao R F q fun v w σ₁ s₁ hv R₁ S₁ q₁ => ?_) (hs env en)
  exact store en R₁ (F.step R S₁) hx hv fun s₂ R₂ F₂ S₂ => hP .next .next _ σ₁ s₂ .next R₂ F₂ ((S₁.own).trans S₂) q₁
def sExpr (T : ET) : ST := fun m σ Q => T m σ fun _ σ' => Q .next m σ'
theorem HS1.expr {pos : Pos} {value : Expr} {T : ET} (he : HE C sc k value T) (hs : ∀ env, EnvOk env sc → swapsWith value Option.none pos.line env = pure false) : HS1 C sc k (.Expr value pos) (sExpr T) := by
  refine ⟨?_⟩; intro env A s m σ Q P E en ao R F q hP
  have hi : interactive env = false := by unfold interactive; rw [en.k]; rfl
  rw [exec_Expr env value pos hi (hs env en)]
  refine wpAny_bind (wpAny_standAt (wpAny_bind (he.run env A s m σ _ _ E en ao R F q fun v w σ₁ s₁ hv R₁ S₁ q₁ => ?_)))
  exact wpAny_dropValue (hP .next .next m σ₁ s₁ .next R₁ (F.step R S₁) S₁.own q₁)
def sIf (B : BT) (T U : ST) : ST := fun m σ Q => B m σ fun b σ' => if b then T m σ' Q else U m σ' Q
theorem HS1.ite {pos : Pos} {test : Expr} {a b : List Stmt} {B : BT} {T U : ST} (hb : HB C sc k test B) (h1 : HS C sc k a T) (h2 : HS C sc k b U) : HS1 C sc k (.If test a b pos) (sIf B T U) := by
  refine ⟨?_⟩; intro env A s m σ Q P E en ao R F q hP
  refine wpAny_If (hb.run env A s m σ _ _ E en ao R F q fun b σ₁ s₁ R₁ S₁ q₁ => ?_)
  cases b with
  | true => simp only [if_true] at q₁ ⊢; exact h1.run env A s₁ m σ₁ Q P E en ao R₁ (F.step R S₁) q₁ fun f g m₂ σ₂ s₂ hf R₂ F₂ S₂ q₂ => hP f g m₂ σ₂ s₂ hf R₂ F₂ (S₁.own.trans S₂) q₂
  | false => simp only [Bool.false_eq_true, if_false] at q₁ ⊢; exact h2.run env A s₁ m σ₁ Q P E en ao R₁ (F.step R S₁) q₁ fun f g m₂ σ₂ s₂ hf R₂ F₂ S₂ q₂ => hP f g m₂ σ₂ s₂ hf R₂ F₂ (S₁.own.trans S₂) q₂
def sRet (T : ET) : ST := fun m σ Q => T m σ fun v σ' => Q (.ret v) m σ'
theorem HS1.ret {pos : Pos} {value : Expr} {T : ET} (he : HE C sc k value T) : HS1 C sc k (.Return (some value) pos) (sRet T) := by
  refine ⟨?_⟩; intro env A s m σ Q P E en ao R F q hP
  exact wpAny_Return_some (he.run env A s m σ _ _ E en ao R F q fun v w σ₁ s₁ hv R₁ S₁ q₁ => hP (.ret v) (.ret w) m σ₁ s₁ (.ret hv) R₁ (F.step R S₁) S₁.own q₁)
theorem HS1.retNone {pos : Pos} : HS1 C sc k (.Return Option.none pos) (sRet (eVal .none)) := by
  refine ⟨?_⟩; intro env A s m σ Q P E en ao R F q hP
  exact wpAny_Return_none (hP (.ret .none) (.ret .none) m σ s (.ret .none) R F Step.refl q)
def sCont : ST := fun m σ Q => Q .cont m σ
theorem HS1.cont {pos : Pos} : HS1 C sc k (.Continue pos) sCont := by
  refine ⟨?_⟩; intro env A s m σ Q P E en ao R F q hP
  exact wpAny_Continue (hP .cont .cont m σ s .cont R F Step.refl q)
theorem HS1.pass {pos : Pos} : HS1 C sc k (.Pass pos) sNil := by
  refine ⟨?_⟩; intro env A s m σ Q P E en ao R F q hP
  exact wpAny_Pass (hP .next .next m σ s .next R F Step.refl q)
end
end Mine

end
section
set_option autoImplicit false
namespace Mine
open PySem

abbrev Spec := List V → View → (V → View → Prop) → Prop
/-- the function at f answers by its contract -/
def FnSound (C : Cx) (j : Nat) (f : Addr) (spec : Spec) : Prop :=
  ∀ (A : Around) (s : Shared) (σ : View) (vs : List V) (ws : List Value) (Q : V → View → Prop) (P : Value → Shared → Prop) (E : Value → Shared → Prop),
    AOk A (j + 1) → RelG C σ s → VRels C.aS s.heap vs ws → spec vs σ Q → Aft C σ s Q P → codeAny (model C.prog C.w) A (.call (.ref f) ⟨ws, []⟩) (fun r s' => match r with | .ok (.ret v) => P v s' | .ok _ => False | .error e => E e s') s

def none' : Loc := fun _ => Option.none
def bindM : List String → List V → Loc → Loc
  | x :: xs, v :: vs, m => bindM xs vs (put m x v)
  | _, _, m => m

theorem cellsFrom_has {x : Str} : ∀ (names : List (Str × NameKind)) (n : Nat) (acc : List (Str × Addr)), (names.lookup x = some .cell ∨ ∃ c, acc.lookup x = some c) → ∃ c, (cellsFrom n names acc).lookup x = some c
  | [], _, _, h => h.elim (fun e => by cases e) id
  | (y, q) :: r, n, acc, h => by
    unfold cellsFrom
    by_cases hq : q = .cell
    · rw [if_pos (by simp [hq])]
      refine cellsFrom_has r _ _ ?_
      by_cases hy : x = y
      · exact .inr ⟨n, by simp [hy]⟩
      · have hb : (x == y) = false := by simp [hy]
        refine h.imp (fun e => ?_) fun ⟨c, e⟩ => ⟨c, ?_⟩
        · rw [List.lookup_cons, hb] at e; exact e
        · rw [List.lookup_cons, hb]; exact e
    · rw [if_neg (by simpa using hq)]
      refine cellsFrom_has r _ _ ?_
      by_cases hy : x = y
      · refine .inr (h.elim (fun e => ?_) id)
        rw [List.lookup_cons, show (x == y) = true by simp [hy]] at e
        exact absurd (Option.some.inj e) hq
      · have hb : (x == y) = false := by simp [hy]
        refine h.imp (fun e => ?_) id
        rw [List.lookup_cons, hb] at e; exact e

section
variable {C : Cx}
/-- the parameters are bound -/
theorem bound_vars {h : Heap} (kindOf : Str → Option NameKind) : ∀ (xs : List String) (vs : List V) (ws : List Value) (m : Loc) (mL mC : Str → Option Value),
    (∀ x ∈ xs, kindOf (Str.ofString x) = some .local ∨ kindOf (Str.ofString x) = some .cell) → VRels C.aS h vs ws →
    (∀ x v, m x = some v → (kindOf (Str.ofString x) = some .local ∧ ∃ w, mL (Str.ofString x) = some w ∧ VRel C.aS h v w) ∨ (kindOf (Str.ofString x) = some .cell ∧ ∃ w, mC (Str.ofString x) = some w ∧ VRel C.aS h v w)) →
    ∀ x v, bindM xs vs m x = some v → (kindOf (Str.ofString x) = some .local ∧ ∃ w, bindL kindOf ((xs.map Str.ofString).zip ws) mL (Str.ofString x) = some w ∧ VRel C.aS h v w) ∨
      (kindOf (Str.ofString x) = some .cell ∧ ∃ w, bindC kindOf ((xs.map Str.ofString).zip ws) mC (Str.ofString x) = some w ∧ VRel C.aS h v w)
  | [], _, _, _, _, _, _, _, hm => by simpa [bindM, bindL, bindC] using hm
  | x :: xs, [], _, _, _, _, _, .nil, hm => by simpa [bindM, bindL, bindC] using hm
  | x :: xs, v :: vs, w :: ws, m, mL, mC, hk, .cons hv hvs, hm => by
    simp only [bindM, List.map_cons, List.zip_cons_cons, bindL, bindC]
    refine bound_vars kindOf xs vs ws _ _ _ (fun y hy => hk y (.tail _ hy)) hvs fun y u e => ?_
    by_cases hy : y = x
    · subst hy
      rw [put_same] at e; cases e
      rcases hk y (.head _) with z | z
      · exact .inl ⟨z, w, by simp [z], hv⟩
      · exact .inr ⟨z, w, by simp [z], hv⟩
    · rw [put_ne hy] at e
      have hne : ¬ Str.ofString y = Str.ofString x := fun z => hy (ofString_inj z)
      rcases hm y u e with ⟨z, w', h1, h2⟩ | ⟨z, w', h1, h2⟩
      · refine .inl ⟨z, w', ?_, h2⟩
        split <;> simp [hne, h1]
      · refine .inr ⟨z, w', ?_, h2⟩
        split <;> simp [hne, h1]

/-- a def of the text answers by what its body's transformer says -/
theorem FnSound.mk (O : C.Ok) {f : Addr} {o : Obj} {fd : FuncData} {body : List Stmt} {xs : List String} {sc : Scope} {j : Nat} {spec : Spec} {T : ST}
    (ho : C.hB.get? f = some o) (hd : o.data = .func fd) (hcd : C.hB.CodeRec fd.code fd.qualname) (hb : fd.body = .stmts body) (hsc : fd.scope = sc) (hcl : fd.closure = []) (hg : fd.globals = mainGlobals) (hbi : fd.builtins = builtinsNs)
    (hk : sc.kind = .function) (hfr : ∀ p ∈ sc.names, p.2 ≠ .free) (hco : sc.isCoroutine = false) (hgen : sc.isGenerator = false)
    (hbind : ∀ ws : List Value, ws.length = xs.length → bindArgs fd ⟨ws, []⟩ = pure ((xs.map Str.ofString).zip ws))
    (hloc : ∀ x ∈ xs, sc.names.lookup (Str.ofString x) = some .local ∨ sc.names.lookup (Str.ofString x) = some .cell)
    (hT : HS C sc j body T)
    (hspec : ∀ vs σ Q, spec vs σ Q → vs.length = xs.length ∧ T (bindM xs vs none') σ fun f _ σ' => match f with | .ret v => Q v σ' | .next => Q .none σ' | _ => False) : FnSound C j f spec := by
  intro A s σ vs ws Q P E ao R hvs hs hP
  subst hsc
  obtain ⟨hlen, q⟩ := hspec vs σ Q hs
  have hlw : ws.length = xs.length := by rw [← hvs.length]; exact hlen
  refine (codeAny_call_cells (fd := fd) (body := body) (binds := (xs.map Str.ofString).zip ws) (by have := ao.depth; omega) (R.base _ _ ho) hd (O.nolimit.keeps R.base) (hcd.keeps R.base) hb (hbind ws hlw) hcl ?_ ?_ hco hgen hk)
  · intro x hx
    have : x.1 ∈ xs.map Str.ofString := (List.of_mem_zip (a := x.1) (b := x.2) hx).1
    obtain ⟨y, hy, e⟩ := List.mem_map.mp this
    rw [← e]
    refine (hloc y hy).imp id fun z => ⟨z, ?_⟩
    obtain ⟨c, hc⟩ := cellsFrom_has (x := Str.ofString y) fd.scope.names (s.heap.objs.size + 1) [] (.inl z)
    rw [hc]; rfl
  · intro s₁ x
    generalize henv : callEnvC fd s.heap.objs.size f = env at x ⊢
    have eS : env.scope = fd.scope := by rw [← henv]; rfl
    have eL : env.locals = s.heap.objs.size := by rw [← henv]; rfl
    have eC : env.cells = cellsFrom (s.heap.objs.size + 1) fd.scope.names [] := by rw [← henv]; rfl
    have en : EnvOk env fd.scope := ⟨eS, hk, by rw [← henv]; exact hg, by rw [← henv]; exact hbi⟩
    obtain ⟨h₁, tk₁, e₁⟩ := x.toInCall.same
    have keep := x.toInCall.keep
    have R₁ : RelG C σ s₁ := by
      rw [e₁]
      exact R.grow (fun b o e => by have := keep b o e; rw [e₁] at this; exact this)
    have hz : s.heap.objs.size ≤ s₁.heap.objs.size := Nat.le_of_lt (by have := x.toInCall.ns.lt; rw [eL] at this; exact this)
    have kt : TupKeep s.heap s₁.heap := fun b o e _ => keep b o e
    have vars := bound_vars (C := C) (h := s₁.heap) env.kindOf xs vs ws none' (fun _ => Option.none) (fun _ => Option.none)
      (fun y hy => by unfold Env.kindOf; rw [eS]; exact hloc y hy) (hvs.keep kt) (fun _ _ e => by cases e)
    have lookupC : ∀ n, env.kindOf n = some .cell → ∃ c, env.cells.lookup n = some c := fun n hn => by
      rw [eC]; exact cellsFrom_has _ _ _ (.inl (by unfold Env.kindOf at hn; rw [eS] at hn; exact hn))
    have lookupF : ∀ n, env.kindOf n = some .cell ∨ env.kindOf n = some .free → ∃ c, env.cells.lookup n = some c := fun n hn => hn.elim (lookupC n) fun z => by
      unfold Env.kindOf at z; rw [eS] at z; exact absurd rfl (hfr _ (mem_of_lookup z))
    have fresh : ∀ c, s.heap.objs.size ≤ c → C.hB.get? c = Option.none := fun c hc => R.baseNone (get_none_of_size hc)
    have F₁ : FrameRel C env (bindM xs vs none') σ s₁.heap := by
      refine ⟨⟨_, x.toInCall.ns, fun y v e ky => ?_⟩, fun y v e => ?_, fun n c hc => ?_, R.freshNone (get_none_of_size (Nat.le_of_eq eL.symm)), fresh _ (Nat.le_of_eq eL.symm), fun n c hc => ?_, x.apart, lookupF⟩
      · rcases vars y v e with ⟨_, w, h1, h2⟩ | ⟨z, _⟩
        · exact ⟨w, h1, h2⟩
        · rw [z] at ky; cases ky
      · rcases vars y v e with ⟨z, _⟩ | ⟨z, w, h1, h2⟩
        · exact .inl z
        · obtain ⟨c, hc⟩ := lookupC _ z
          exact .inr ⟨.inl z, c, w, hc, h1 ▸ x.cell _ c hc, h2⟩
      · exact ⟨_, x.cell n c hc⟩
      · exact fresh c (Nat.le_of_lt (by have := x.above n c (mem_of_lookup hc); rw [eL] at this; exact this))
    refine hT.run env _ s₁ _ σ _ _ _ en ⟨by show A.handled = _; exact ao.handled, by show A.depth + 1 + 3 * j + 3 < _; have := ao.depth; omega, by show A.units + 3 + 10 * j + 20 < _; have := ao.units; omega⟩ R₁ F₁ q fun fl g m' σ' s' hf R' F' S' q' => ?_
    have S₀ : Step no σ σ' s.heap s'.heap :=
      ⟨fun b o e n _ => S'.keep b o (keep b o e) n (fun z => by
          have hlt := Heap.lt_size e
          rcases z with z | ⟨n', z⟩
          · rw [z, eL] at hlt; exact Nat.lt_irrefl _ hlt
          · have := x.above n' b (mem_of_lookup z); rw [eL] at this; exact Nat.lt_irrefl _ (Nat.lt_trans hlt this)),
        Nat.le_trans hz S'.size, fun b n m => Nat.le_trans hz (S'.new b n m)⟩
    cases hf with
    | next => exact hP .none .none σ' s' .none R' S₀ q'
    | ret hv => exact hP _ _ σ' s' hv R' S₀ q'
    | brk => exact q'.elim
    | cont => exact q'.elim
end
end Mine

end
section
set_option autoImplicit false
namespace Mine
open PySem

section
variable {C : Cx} {sc : Scope} {k : Nat}
def plainArgs (es : List Expr) : Bool := es.all notStar
theorem starEach_any {es : List Expr} {env : Env} {pos : Pos} (h : plainArgs es = true) : (backTo pos (starEach es env)).any (·.1) = false := by
  induction es with
  | nil => rfl
  | cons e r ih =>
    simp only [plainArgs, List.all_cons, Bool.and_eq_true] at h
    rw [starEach_plain h.1]
    show ((false, _) :: backTo pos (starEach r env)).any (·.1) = false
    rw [List.any_cons, ih h.2]; rfl
theorem evalArgs_of {f : Value} {es : List Expr} {env : Env} {pos : Pos} {M : Model} {A : Around} {s : Shared} {Q : Args → Shared → Prop} {E : Value → Shared → Prop} (h : plainArgs es = true)
    (hs : wpAny M A (spliced (backTo pos (starEach es env))) (fun vs s' => Q ⟨vs, []⟩ s') E s) : wpAny M A (evalArgs f true (backTo pos (starEach es env)) []) Q E s := by
  cases es with
  | nil =>
    unfold evalArgs
    show wpAny M A (spliced [] >>= _) Q E s
    refine wpAny_bind (wpAny_mono hs (fun vs s' h' => ?_) fun _ _ x => x)
    refine wpAny_holding ?_
    exact wpAny_bind (wpAny_pure (wpAny_bind (wpAny_pure (wpAny_pure h'))))
  | cons e r =>
    simp only [plainArgs, List.all_cons, Bool.and_eq_true] at h
    rw [starEach_plain h.1] at hs ⊢
    exact Calls.evalArgs_plain hs
/-- the call of a def of the text -/
def eCall (spec : Spec) (L : LT) : ET := fun m σ Q => L m σ fun vs σ' => spec vs σ' Q
theorem HE.call (O : C.Ok) {f : String} {a : Addr} {o : Obj} {fd : FuncData} {np pos : Pos} {es : List Expr} {L : LT} {spec : Spec} {j : Nat} (hf : FnSound C j a spec) (hj : j < k)
    (hn : sc.names.lookup (Str.ofString f) = some .globalImplicit) (hg : C.mg (Str.ofString f) = some (.ref a)) (ho : C.hB.get? a = some o) (hd : o.data = .func fd) (hdb : (Str.ofString f == ("__debug__" : Str)) = false)
    (hl : HL C sc k es L) (hp : plainArgs es = true) : HE C sc k (.Call (.Name (Str.ofString f) np) es [] pos) (eCall spec L) := by
  refine ⟨?_⟩; intro env A s m σ Q P E en ao R F q hP
  refine wpAny_Call_NameR (Calls.Name_function_global en.k (en.of hn) (Calls.loadGlobal_global (mg := C.mg) (by rw [en.globals]; exact O.g.keeps R.base) hg ?_) hdb)
  refine Calls.callWith_function (o := o) (fd := fd) (evalArgs_of hp (hl.run env A s m σ pos _ _ E en ao R F q fun vs ws σ₁ s₁ hv R₁ S₁ q₁ => ⟨⟨R₁.base _ _ ho, hd⟩, ?_⟩))
  exact wpAny_call (hf A s₁ σ₁ vs ws Q P E (ao.le hj) R₁ hv q₁ fun v w σ' s' hv' R' S' q' => hP v w σ' s' hv' R' (S₁.trans S') q')
/-- a built-in function or a built-in type by name -/
def OpN (C : Cx) (k : Nat) (t : List Value → Sem Value) (op : Spec) : Prop :=
  ∀ (A : Around) (s : Shared) (σ : View) (vs : List V) (ws : List Value) (Q : V → View → Prop) (P E : Value → Shared → Prop), AOk A k → RelG C σ s → VRels C.aS s.heap vs ws → op vs σ Q → Aft C σ s Q P →
    wpAny (model C.prog C.w) A (t ws) P E s
theorem HE.builtin (O : C.Ok) {f : String} {id : String} {np pos : Pos} {es : List Expr} {L : LT} {op : Spec} (hop : OpN C k (fun ws => PySem.call (.builtin id) ws) op)
    (hn : sc.names.lookup (Str.ofString f) = some .globalImplicit) (hg : C.mg (Str.ofString f) = Option.none) (hb : C.mb (Str.ofString f) = some (.builtin id)) (hdb : (Str.ofString f == ("__debug__" : Str)) = false)
    (hl : HL C sc k es L) (hp : plainArgs es = true) : HE C sc k (.Call (.Name (Str.ofString f) np) es [] pos) (eCall op L) := by
  refine ⟨?_⟩; intro env A s m σ Q P E en ao R F q hP
  refine wpAny_Call_NameR (Calls.Name_function_global en.k (en.of hn) (Calls.loadGlobal_builtin (mg := C.mg) (mb := C.mb) (by rw [en.globals]; exact O.g.keeps R.base) hg (by rw [en.builtins]; exact O.b.keeps R.base) hb ?_) hdb)
  refine Calls.callWith_builtin (starEach_any hp) (evalArgs_of hp (hl.run env A s m σ pos _ _ E en ao R F q fun vs ws σ₁ s₁ hv R₁ S₁ q₁ => ?_))
  exact hop A s₁ σ₁ vs ws Q P E ao R₁ hv q₁ fun v w σ' s' hv' R' S' q' => hP v w σ' s' hv' R' (S₁.trans S') q'
theorem HE.btype (O : C.Ok) {f : String} {id : String} {np pos : Pos} {es : List Expr} {L : LT} {op : Spec} (hop : OpN C k (fun ws => PySem.call (.type id) ws) op)
    (hn : sc.names.lookup (Str.ofString f) = some .globalImplicit) (hg : C.mg (Str.ofString f) = Option.none) (hb : C.mb (Str.ofString f) = some (.type id)) (hdb : (Str.ofString f == ("__debug__" : Str)) = false)
    (hl : HL C sc k es L) (hp : plainArgs es = true) : HE C sc k (.Call (.Name (Str.ofString f) np) es [] pos) (eCall op L) := by
  refine ⟨?_⟩; intro env A s m σ Q P E en ao R F q hP
  refine wpAny_Call_NameR (Calls.Name_function_global en.k (en.of hn) (Calls.loadGlobal_builtin (mg := C.mg) (mb := C.mb) (by rw [en.globals]; exact O.g.keeps R.base) hg (by rw [en.builtins]; exact O.b.keeps R.base) hb ?_) hdb)
  refine callWith_type (starEach_any hp) (evalArgs_of hp (hl.run env A s m σ pos _ _ E en ao R F q fun vs ws σ₁ s₁ hv R₁ S₁ q₁ => ?_))
  exact hop A s₁ σ₁ vs ws Q P E ao R₁ hv q₁ fun v w σ' s' hv' R' S' q' => hP v w σ' s' hv' R' (S₁.trans S') q'

/- iteration -/
structure It (C : Cx) (k : Nat) (I : Addr) (items : List V) (inv : View → Prop) (St : Nat → Heap → Prop) : Prop where
  frame : ∀ i h h', St i h → (∀ o, h.get? I = some o → h'.get? I = some o) → TupKeep h h' → St i h'
  live : ∀ i h, St i h → ∃ o, h.get? I = some o ∧ ¬ IsT o ∧ ∀ v, o.data ≠ .cell v
  next : ∀ (A : Around) (σ : View) (s : Shared) (i : Nat) (v : V) (Q : Option Value → Shared → Prop) (E : Value → Shared → Prop), AOk A k → RelG C σ s → inv σ → St i s.heap → items[i]? = some v →
    (∀ w h' tk, VRel C.aS h' v w → St (i + 1) h' → Heap.ExtBut I s.heap h' → Q (some w) { s with heap := h', toks := tk }) → wpAny (model C.prog C.w) A (pyNext (.ref I)) Q E s
  done : ∀ (A : Around) (σ : View) (s : Shared) (Q : Option Value → Shared → Prop) (E : Value → Shared → Prop), AOk A k → RelG C σ s → inv σ → St items.length s.heap →
    (∀ h' tk, Heap.ExtBut I s.heap h' → Q Option.none { s with heap := h', toks := tk }) → wpAny (model C.prog C.w) A (pyNext (.ref I)) Q E s
  self : ∀ (A : Around) (s : Shared) (i : Nat) (Q : Value → Shared → Prop) (E : Value → Shared → Prop), St i s.heap → Q (.ref I) s → wpAny (model C.prog C.w) A (pyIter (.ref I)) Q E s
  own : ∀ (A : Around) (s : Shared) (i : Nat) (t : Expr) (w : Value) (Q : Unit → Shared → Prop) (E : Value → Shared → Prop), St i s.heap → Q () s → wpAny (model C.prog C.w) A (letOwnedTupleGo t (.ref I) w) Q E s

abbrev IT := Loc → View → (List V → (View → Prop) → View → Prop) → Prop
/-- an iterable in the head of a loop -/
structure HI (C : Cx) (sc : Scope) (k : Nat) (e : Expr) (T : IT) : Prop where
  run : ∀ (env : Env) (A : Around) (s : Shared) (m : Loc) (σ : View) (Q : List V → (View → Prop) → View → Prop) (P : Value → Shared → Prop) (E : Value → Shared → Prop),
    EnvOk env sc → AOk A k → RelG C σ s → FrameRel C env m σ s.heap → T m σ Q →
    (∀ items inv I St σ' s', It C k I items inv St → St 0 s'.heap → s.heap.objs.size ≤ I → σ' I = Option.none → RelG C σ' s' → Step no σ σ' s.heap s'.heap → Q items inv σ' → P (.ref I) s') →
    wpAny (model C.prog C.w) A (eval e env) (fun x s₁ => wpAny (model C.prog C.w) A (pyIter x) P E s₁) E s

/-- the next item is drawn: the frame and the view stand -/
theorem draw_rel {σ : View} {s : Shared} {h' : Heap} {tk : Nat} {I : Addr} (R : RelG C σ s) (hx : Heap.ExtBut I s.heap h') (hσ : σ I = Option.none) (hb : C.hB.get? I = Option.none) (hI : ∃ o, s.heap.get? I = some o ∧ ¬ IsT o ∧ ∀ v, o.data ≠ .cell v) :
    RelG C σ { s with heap := h', toks := tk } := by
  obtain ⟨oI, hoI, hT, _⟩ := hI
  have kt : TupKeep s.heap h' := fun b o e ht => hx b o (by rintro rfl; rw [hoI] at e; cases e; exact hT ht) e
  exact ⟨let ⟨_, _, e⟩ := R.rest; ⟨h', tk, by rw [e]⟩, fun b o e => hx b o (by rintro rfl; rw [hb] at e; cases e) (R.base b o e),
    fun a o e => (R.view a o e).keep kt fun o' e' => hx a o' (by rintro rfl; rw [hσ] at e; cases e) e', R.apart⟩
theorem draw_frame {env : Env} {m : Loc} {σ : View} {s : Shared} {h' : Heap} {I : Addr} (F : FrameRel C env m σ s.heap) (hx : Heap.ExtBut I s.heap h') (hI : ∃ o, s.heap.get? I = some o ∧ ¬ IsT o ∧ ∀ v, o.data ≠ .cell v) (hL : I ≠ env.locals) : FrameRel C env m σ h' := by
  obtain ⟨oI, hoI, hT, hC⟩ := hI
  have kt : TupKeep s.heap h' := fun b o e ht => hx b o (by rintro rfl; rw [hoI] at e; cases e; exact hT ht) e
  have kc : ∀ c v, s.heap.IsCell c v → h'.IsCell c v := fun c v ⟨o, ho, hd⟩ => ⟨o, hx c o (by rintro rfl; rw [hoI] at ho; cases ho; exact hC _ hd) ho, hd⟩
  obtain ⟨mm, hn, hm⟩ := F.ns
  refine ⟨⟨mm, hn.extBut hx (Ne.symm hL), fun y u e ky => ?_⟩, fun y u e => ?_, fun n c e => ?_, F.sepL, F.baseL, F.baseC, F.dist, F.has⟩
  · obtain ⟨w, h1, h2⟩ := hm y u e ky; exact ⟨w, h1, h2.keep kt⟩
  · rcases F.cel y u e with z | ⟨z, c, w', h1, h2, h3⟩
    · exact .inl z
    · exact .inr ⟨z, c, w', h1, kc _ _ h2, h3.keep kt⟩
  · obtain ⟨v, hv⟩ := F.cells n c e; exact ⟨v, kc _ _ hv⟩

/-- the target of a loop or of an assignment -/
inductive Tgt where
  | name (x : String)
  | tup (xs : List String)
def bindT : Tgt → V → Loc → Option Loc
  | .name x, v, m => some (put m x v)
  | .tup xs, .tup vs, m => if xs.length = vs.length then some (bindM xs vs m) else Option.none
  | .tup _, _, _ => Option.none
/-- what an assignment may turn: the names of the frame, or its cells too -/
def OwnL (loc : Bool) (env : Env) (b : Addr) : Prop := b = env.locals ∨ (loc = false ∧ ∃ n, env.cells.lookup n = some b)
structure HT (C : Cx) (sc : Scope) (k : Nat) (loc : Bool) (t : Expr) (g : Tgt) : Prop where
  run : ∀ (env : Env) (A : Around) (s : Shared) (m m' : Loc) (σ : View) (v : V) (w : Value) (P : Unit → Shared → Prop) (E : Value → Shared → Prop),
    EnvOk env sc → AOk A k → RelG C σ s → FrameRel C env m σ s.heap → VRel C.aS s.heap v w → bindT g v m = some m' →
    (∀ s', RelG C σ s' → FrameRel C env m' σ s'.heap → Step (OwnL loc env) σ σ s.heap s'.heap → P () s') → wpAny (model C.prog C.w) A (assign t env w) P E s
theorem HT.name {x : String} {pos : Pos} (hx : sc.names.lookup (Str.ofString x) = some .local) : HT C sc k true (.Name (Str.ofString x) pos) (.name x) := by
  refine ⟨?_⟩; intro env A s m m' σ v w P E en ao R F hv hb hP
  cases hb
  exact wpAny_assign_Name (store_local en R F hx hv fun s' R' F' S' => hP s' R' F' (S'.mono fun _ _ _ z => .inl z))
theorem HT.cell {x : String} {pos : Pos} (hx : sc.names.lookup (Str.ofString x) = some .cell) : HT C sc k false (.Name (Str.ofString x) pos) (.name x) := by
  refine ⟨?_⟩; intro env A s m m' σ v w P E en ao R F hv hb hP
  cases hb
  exact wpAny_assign_Name (store_cell en R F hx hv fun s' R' F' S' => hP s' R' F' (S'.mono fun _ _ _ z => z.imp id fun z => ⟨rfl, z⟩))

def forL (g : Tgt) (inv : View → Prop) (T : ST) : List V → ST
  | [] => fun m σ Q => inv σ ∧ Q .next m σ
  | v :: r => fun m σ Q => inv σ ∧ ∃ m', bindT g v m = some m' ∧ T m' σ fun f m₁ σ₁ => match f with
    | .next => forL g inv T r m₁ σ₁ Q
    | .cont => forL g inv T r m₁ σ₁ Q
    | .brk => Q .next m₁ σ₁
    | .ret u => Q (.ret u) m₁ σ₁
def sFor (g : Tgt) (I : IT) (T : ST) : ST := fun m σ Q => I m σ fun items inv σ' => forL g inv T items m σ' Q
theorem HS1.for {target iter : Expr} {body : List Stmt} {pos : Pos} {g : Tgt} {I : IT} {T : ST} {loc : Bool} (ht : HT C sc k loc target g) (hi : HI C sc k iter I) (hb : HS C sc k body T)
    (hf : ∀ env x, foldedSetIterable iter env x = pure x) : HS1 C sc k (.For target iter body [] pos) (sFor g I T) := by
  refine ⟨?_⟩; intro env A s m σ Q P E en ao R F q hP
  rw [exec_For]
  refine wpAny_bind (wpAny_standAt ?_)
  have start : wpAny (model C.prog C.w) A (eval iter env) (fun x s₁ => wpAny (model C.prog C.w) A (pyIter x) (fun it s₂ => codeAny (model C.prog C.w) A (.forLoop target it body [] env) (fun r s' => match r with | .ok f => P f s' | .error e => cameBackBy (model C.prog C.w) A env E e s') s₂) E s₁) E s := by
    refine hi.run env A s m σ _ _ E en ao R F q fun items inv I St σ₀ s₀ hit st₀ hI hσ₀ R₀ S₀ q₀ => ?_
    have F₀ := F.step R S₀
    obtain ⟨mm, hn, _⟩ := F.ns
    have hIL : I ≠ env.locals := fun e => absurd hn.lt (Nat.not_lt.mpr (e ▸ hI))
    have hIb : C.hB.get? I = Option.none := R.baseNone (get_none_of_size hI)
    have back : ∀ {σ' : View} {h' : Heap}, Step (fun b => Own env b ∨ b = I) σ σ' s.heap h' → Step (Own env) σ σ' s.heap h' := fun S =>
      S.mono fun b o e z => z.elim id fun z => absurd (Heap.lt_size e) (Nat.not_lt.mpr (z ▸ hI))
    refine codeAny_forLoop_any
      (fun n s' => ∃ i m' σ' rest, items.drop i = rest ∧ i ≤ items.length ∧ n = rest.length + 1 ∧ St i s'.heap ∧ σ' I = Option.none ∧ RelG C σ' s' ∧ FrameRel C env m' σ' s'.heap ∧ Step (fun b => Own env b ∨ b = I) σ σ' s.heap s'.heap ∧ forL g inv T rest m' σ' Q) ?_ _
      ⟨0, m, σ₀, items, by simp, by simp, rfl, st₀, hσ₀, R₀, F₀, S₀.mono fun _ _ _ z => z.elim, q₀⟩
    rintro n s' ⟨i, m', σ', rest, e1, e2, rfl, st, hσ', R', F', S', q'⟩
    have drew : ∀ {h' : Heap}, Heap.ExtBut I s'.heap h' → s'.heap.objs.size ≤ h'.objs.size → Step (fun b => Own env b ∨ b = I) σ' σ' s'.heap h' := fun hx hsz =>
      ⟨fun b o e _ q => hx b o (fun z => q (.inr z)) e, hsz, fun _ a b => absurd a b⟩
    cases rest with
    | nil =>
      have hil : i = items.length := by
        have := congrArg List.length e1
        simp at this; omega
      subst hil
      refine with_size (hit.done A σ' s' _ _ ao R' q'.1 st fun h' tk hx hsz => ?_)
      exact wpAny_execs_nil (hP .next .next m' σ' _ .next (draw_rel (tk := tk) R' hx hσ' hIb (hit.live _ _ st)) (draw_frame F' hx (hit.live _ _ st) hIL) (back (S'.trans (drew hx hsz))) q'.2)
    | cons v r =>
      obtain ⟨hinv, m₁, hm₁, q'⟩ := q'
      have hiv : items[i]? = some v := by
        have : (items.drop i)[0]? = some v := by rw [e1]; rfl
        simpa using this
      have hilt : i < items.length := by
        have := congrArg List.length e1
        simp at this; omega
      refine with_size (hit.next A σ' s' i v _ _ ao R' hinv st hiv fun w h₁ tk₁ hv st₁ hx hsz => ?_)
      have R₁ := draw_rel (tk := tk₁) R' hx hσ' hIb (hit.live _ _ st)
      have F₁ := draw_frame F' hx (hit.live _ _ st) hIL
      have S₁ := S'.trans (drew hx hsz)
      refine hit.own A _ (i + 1) target w _ _ st₁ ?_
      refine ht.run env A _ m' m₁ σ' v w _ _ en ao R₁ F₁ hv hm₁ fun s₂ R₂ F₂ S₂L => ?_
      have S₂ : Step (Own env) σ' σ' h₁ s₂.heap := S₂L.mono fun _ _ _ z => z.imp id fun z => z.2
      have S₂' : Step (fun b => Own env b ∨ b = I) σ' σ' h₁ s₂.heap := S₂.mono fun _ _ _ z => .inl z
      have st₂ : St (i + 1) s₂.heap := hit.frame _ _ _ st₁ (fun o e => S₂.keep I o e hσ' fun z => by
        rcases z with z | ⟨n, z⟩
        · exact hIL z
        · obtain ⟨u, ou, hou, hdu⟩ := F₁.cells n I z
          obtain ⟨o', ho', _, hc'⟩ := hit.live _ _ st₁
          have : ou = o' := Option.some.inj (hou.symm.trans ho')
          exact hc' u (this ▸ hdu)) (S₂.tupsO F₁ R₁)
      refine hb.run env A s₂ m₁ σ' _ _ _ en ao R₂ F₂ q' fun f fl m₃ σ₃ s₃ hf R₃ F₃ S₃ q₃ => ?_
      have S₃' : Step (fun b => Own env b ∨ b = I) σ' σ₃ s₂.heap s₃.heap := S₃.mono fun _ _ _ z => .inl z
      have SS := (S₁.trans S₂').trans S₃'
      have go : forL g inv T r m₃ σ₃ Q → ∃ k', k' < (v :: r).length + 1 ∧ ∃ i m' σ' rest, items.drop i = rest ∧ i ≤ items.length ∧ k' = rest.length + 1 ∧ St i s₃.heap ∧ σ' I = Option.none ∧ RelG C σ' s₃ ∧ FrameRel C env m' σ' s₃.heap ∧ Step (fun b => Own env b ∨ b = I) σ σ' s.heap s₃.heap ∧ forL g inv T rest m' σ' Q := fun q₃ => by
        refine ⟨r.length + 1, by simp, i + 1, m₃, σ₃, r, ?_, hilt, rfl, ?_, ?_, R₃, F₃, SS, q₃⟩
        · rw [← List.tail_drop, e1]; rfl
        · refine hit.frame _ _ _ st₂ (fun o e => S₃.keep I o e hσ' fun z => ?_) (S₃.tupsO F₂ R₂)
          rcases z with z | ⟨n, z⟩
          · exact hIL z
          · obtain ⟨u, ou, hou, hdu⟩ := F₂.cells n I z
            obtain ⟨o', ho', _, hc'⟩ := hit.live _ _ st₂
            have : ou = o' := Option.some.inj (hou.symm.trans ho')
            exact hc' u (this ▸ hdu)
        · cases z : σ₃ I with
          | none => rfl
          | some o =>
            obtain ⟨o', ho', _⟩ := hit.live _ _ st₂
            exact absurd (Heap.lt_size ho') (Nat.not_lt.mpr (S₃.new I hσ' (by rw [z]; simp)))
      cases hf with
      | next => exact go q₃
      | cont => exact go q₃
      | brk => exact hP .next .next m₃ σ₃ s₃ .next R₃ F₃ (back SS) q₃
      | ret hv => exact hP _ _ m₃ σ₃ s₃ (.ret hv) R₃ F₃ (back SS) q₃
  refine wpAny_bind (wpAny_mono start (fun x s₁ h₁ => wpAny_bind (wpAny_of_eq (hf env x) (wpAny_bind (wpAny_standAt (wpAny_bind (wpAny_holding (wpAny_mono h₁ (fun it s₂ h₂ => wpAny_runOwn h₂) fun _ _ h' => h'))))))) fun _ _ h' => h')
end
end Mine

end
section
set_option autoImplicit false
namespace Mine
open PySem

section
variable {C : Cx} {sc : Scope} {k : Nat}
theorem own_plain {I : Addr} {o : Obj} {n : String} {A : Around} {s : Shared} {t : Expr} {w : Value} {Q : Unit → Shared → Prop} {E : Value → Shared → Prop} (ho : s.heap.get? I = some o) (hc : o.cls = .type n)
    (hn : ["enumerate", "zip", "dict_itemiterator", "dict_reverseitemiterator", "odict_iterator", "itertools.zip_longest", "itertools.pairwise"].contains n = false) (q : Q () s) : wpAny (model C.prog C.w) A (letOwnedTupleGo t (.ref I) w) Q E s := by
  have fin : ∀ vs a, wpAny (model C.prog C.w) A (if (["enumerate", "zip", "dict_itemiterator", "dict_reverseitemiterator", "odict_iterator", "itertools.zip_longest", "itertools.pairwise"].contains n && (vs : Array Value)[0]? == some (rawInt a)) = true then (do rule "for.unpacks-the-owned-tuple"; updateField I 0 .none) else pure ()) Q E s := fun vs a => by
    rw [hn, Bool.false_and, if_neg Bool.false_ne_true]; exact wpAny_pure q
  unfold letOwnedTupleGo
  split
  · cases w <;> first | exact wpAny_pure q | skip
    refine wpAny_bind (wpAny_load ho ?_)
    rw [hc]
    cases hd : o.data <;> first | exact wpAny_pure q | exact fin _ _
  · cases w <;> first | exact wpAny_pure q | skip
    refine wpAny_bind (wpAny_load ho ?_)
    rw [hc]
    cases hd : o.data <;> first | exact wpAny_pure q | exact fin _ _
  · exact wpAny_pure q

theorem it_list (I a : Addr) (xs : List V) : It C k I xs (fun σ => σ a = some (.list xs)) (fun i h => h.IsListIter I a i) where
  frame := fun i h h' st kI _ => st.at kI
  live := fun i h ⟨o, ho, hc, hd⟩ => ⟨o, ho, (fun ⟨_, _, _, h2⟩ => by rw [hd] at h2; cases h2), (fun v h2 => by rw [hd] at h2; cases h2)⟩
  next := fun A σ s i v Q E ao R inv st hv hQ => by
    obtain ⟨_, ws, h1, h2⟩ := R.view a _ inv
    obtain ⟨w, hw, hr⟩ := h2.get hv
    refine wpAny_pyNext_list_item st h1.isList (x := w) (by simpa using hw) fun h' st' hs' => hQ w h' s.toks (hr.keep ?_) st' hs'.extBut
    obtain ⟨o, ho, hc, hd⟩ := st
    exact fun b ob e ht => hs'.extBut b ob (by rintro rfl; rw [ho] at e; cases e; obtain ⟨_, _, _, h2⟩ := ht; rw [hd] at h2; cases h2) e
  done := fun A σ s Q E ao R inv st hQ => by
    obtain ⟨_, ws, h1, h2⟩ := R.view a _ inv
    exact wpAny_pyNext_list_end ao.handled st h1.isList (by have := h2.length; simp [this]) fun h' hx => hQ h' s.toks hx
  self := fun A s i Q E st q => wpAny_pyIter_listiter st q
  own := fun A s i t w Q E ⟨o, ho, hc, hd⟩ q => own_plain ho hc (by decide) q
theorem it_script (O : C.Ok) (I : Addr) : It C k I (C.ns.map .int) (fun _ => True) (fun i h => h.IsListIter I C.aS i) where
  frame := fun i h h' st kI _ => st.at kI
  live := fun i h ⟨o, ho, hc, hd⟩ => ⟨o, ho, (fun ⟨_, _, _, h2⟩ => by rw [hd] at h2; cases h2), (fun v h2 => by rw [hd] at h2; cases h2)⟩
  next := fun A σ s i v Q E ao R inv st hv hQ => by
    obtain ⟨ws, h1, h2, h3⟩ := O.script
    rw [List.getElem?_map] at hv
    obtain ⟨n, hn, rfl⟩ := Option.map_eq_some_iff.mp hv
    obtain ⟨t, ht⟩ := h3 i n hn
    refine wpAny_pyNext_list_item st (h1.at fun o e => R.base _ _ e) (x := .int n t) (by simpa using ht) fun h' st' hs' => hQ _ h' s.toks (.int n t) st' hs'.extBut
  done := fun A σ s Q E ao R inv st hQ => by
    obtain ⟨ws, h1, h2, h3⟩ := O.script
    exact wpAny_pyNext_list_end ao.handled st (h1.at fun o e => R.base _ _ e) (by simp at h2; simp [h2]) fun h' hx => hQ h' s.toks hx
  self := fun A s i Q E st q => wpAny_pyIter_listiter st q
  own := fun A s i t w Q E ⟨o, ho, hc, hd⟩ q => own_plain ho hc (by decide) q
theorem it_tup (I a : Addr) (vs : List V) (ws : List Value) : It C k I vs (fun _ => True) (fun i h => h.IsTupleIter I a i ∧ h.IsTuple a ws.toArray ∧ VRels C.aS h vs ws) where
  frame := fun i h h' st kI kt => ⟨st.1.at kI, let ⟨o, ho, hc, n, r⟩ := st.2.1; ⟨o, kt a o ho ⟨hc, _, n, r⟩, hc, n, r⟩, st.2.2.keep kt⟩
  live := fun i h ⟨⟨o, ho, hc, hd⟩, _⟩ => ⟨o, ho, (fun ⟨_, _, _, h2⟩ => by rw [hd] at h2; cases h2), (fun v h2 => by rw [hd] at h2; cases h2)⟩
  next := fun A σ s i v Q E ao R inv st hv hQ => by
    obtain ⟨w, hw, hr⟩ := st.2.2.get hv
    obtain ⟨o, ho, hc, hd⟩ := id st.1
    have kt : ∀ h', Heap.SameBut I s.heap h' → TupKeep s.heap h' := fun h' hs' b ob e ht => hs'.extBut b ob (by rintro rfl; rw [ho] at e; cases e; obtain ⟨_, _, _, h2⟩ := ht; rw [hd] at h2; cases h2) e
    refine wpAny_pyNext_tuple_item st.1 st.2.1 (x := w) (by simpa using hw) fun h' st' hs' => hQ w h' s.toks (hr.keep (kt h' hs')) ⟨st', ?_, st.2.2.keep (kt h' hs')⟩ hs'.extBut
    obtain ⟨o, ho, hc, n, r⟩ := st.2.1
    exact ⟨o, kt h' hs' a o ho ⟨hc, _, n, r⟩, hc, n, r⟩
  done := fun A σ s Q E ao R inv st hQ => wpAny_pyNext_tuple_end ao.handled st.1 st.2.1 (by have := st.2.2.length; simp [this]) fun h' hx => hQ h' s.toks hx
  self := fun A s i Q E st q => wpAny_pyIter_tupleiter st.1 q
  own := fun A s i t w Q E ⟨⟨o, ho, hc, hd⟩, _⟩ q => own_plain ho hc (by decide) q
def signs (x : Str) : List V := x.cps.toList.map fun c => .str ⟨#[c]⟩
theorem it_str (I : Addr) (cls : String) (x : Str) (t : Tok) (hcls : cls = "str_ascii_iterator" ∨ cls = "str_iterator") : It C k I (signs x) (fun _ => True) (fun i h => h.IsStrIter I cls x t i) where
  frame := fun i h h' ⟨o, ho, r⟩ kI _ => ⟨o, kI o ho, r⟩
  live := fun i h ⟨o, ho, hc, hd⟩ => ⟨o, ho, (fun ⟨_, _, _, h2⟩ => by rw [hd] at h2; cases h2), (fun v h2 => by rw [hd] at h2; cases h2)⟩
  next := fun A σ s i v Q E ao R inv st hv hQ => by
    unfold signs at hv
    rw [List.getElem?_map] at hv
    obtain ⟨c, hc, rfl⟩ := Option.map_eq_some_iff.mp hv
    rcases hcls with rfl | rfl
    · exact wpAny_pyNext_ascii_item st (c := c) (by simpa using hc) fun h' st' hs' => hQ _ h' _ (.str _ _) st' hs'.extBut
    · exact wpAny_pyNext_wide_item st (c := c) (by simpa using hc) fun h' st' hs' => hQ _ h' _ (.str _ _) st' hs'.extBut
  done := fun A σ s Q E ao R inv st hQ => by
    rcases hcls with rfl | rfl
    · exact wpAny_pyNext_ascii_end ao.handled st (by simp [signs]) fun h' hx => hQ h' s.toks hx
    · exact wpAny_pyNext_wide_end ao.handled st (by simp [signs]) fun h' hx => hQ h' s.toks hx
  self := fun A s i Q E st q => by
    rcases hcls with rfl | rfl
    · exact wpAny_pyIter_striter_ascii st q
    · exact wpAny_pyIter_striter_wide st q
  own := fun A s i t w Q E ⟨o, ho, hc, hd⟩ q => by
    rcases hcls with rfl | rfl
    · exact own_plain ho hc (by decide) q
    · exact own_plain ho hc (by decide) q
theorem it_dict (I d : Addr) (kvs : List (Str × V)) (ep : Nat) : It C k I (kvs.map fun p => .str p.1) (fun σ => σ d = some (.dict kvs ep)) (fun i h => h.IsKeyIter I d i kvs.length ep) where
  frame := fun i h h' st kI _ => st.at kI
  live := fun i h ⟨o, ho, hc, hd⟩ => ⟨o, ho, (fun ⟨_, _, _, h2⟩ => by rw [hd] at h2; cases h2), (fun v h2 => by rw [hd] at h2; cases h2)⟩
  next := fun A σ s i v Q E ao R inv st hv hQ => by
    obtain ⟨_, kws, h1, h2⟩ := R.view d _ inv
    rw [List.getElem?_map] at hv
    obtain ⟨⟨key, u⟩, hku, rfl⟩ := Option.map_eq_some_iff.mp hv
    obtain ⟨w, hw, _⟩ := PRel.get h2 hku
    have st' : s.heap.IsKeyIter I d i kws.length ep := by rw [← h2.length]; exact st
    refine wpAny_pyNext_dict_item st' h1 hw fun kv h' hkey hit' hs' => hQ kv h' s.toks ?_ (by rw [h2.length]; exact hit') hs'.extBut
    cases kv with
    | str y t =>
      have : y = key := by simpa [strKind, Value.isStrOf] using hkey
      subst this; exact .str _ _
    | _ => simp [strKind, Value.isStrOf] at hkey
  done := fun A σ s Q E ao R inv st hQ => by
    obtain ⟨_, kws, h1, h2⟩ := R.view d _ inv
    have e : (kvs.map fun p : Str × V => V.str p.1).length = kws.length := by rw [List.length_map, h2.length]
    have st' : s.heap.IsKeyIter I d kws.length kws.length ep := by rw [← e]; simpa using st
    exact wpAny_pyNext_dict_end ao.handled st' h1 (by simp) fun h' hx => hQ h' s.toks hx
  self := fun A s i Q E st q => wpAny_pyIter_keyiter st q
  own := fun A s i t w Q E ⟨o, ho, hc, hd⟩ q => own_plain ho hc (by decide) q
def rangeL (a : Int) (n : Nat) : List V := (List.range n).map fun (i : Nat) => .int (a + i)
theorem it_range (I : Addr) (a : Int) (n : Nat) : It C k I (rangeL a n) (fun _ => True) (fun i h => IsRangeIter h I (a + (i : Nat) * 1) ((n : Int) - (i : Nat)) 1) where
  frame := fun i h h' st kI _ => kI _ st
  live := fun i h st => ⟨_, st, fun ⟨_, _, _, h2⟩ => by simp at h2, fun v h2 => by simp at h2⟩
  next := fun A σ s i v Q E ao R inv st hv hQ => by
    unfold rangeL at hv
    rw [List.getElem?_map] at hv
    obtain ⟨j, hj, rfl⟩ := Option.map_eq_some_iff.mp hv
    have hjn := List.getElem?_eq_some_iff.mp hj
    obtain ⟨hlt, hji⟩ := hjn
    simp at hji hlt
    subst hji
    refine wpAny_pyNext_range_item st (by omega) fun h' hit' hs' => ?_
    have e1 : a + ((i + 1 : Nat) : Int) * 1 = a + (i : Int) * 1 + 1 := by push_cast; omega
    have e2 : (n : Int) - ((i + 1 : Nat) : Int) = (n : Int) - (i : Int) - 1 := by push_cast; omega
    refine hQ _ h' _ ?_ (by rw [e1, e2]; exact hit') hs'.extBut
    rw [Int.mul_one]; exact .int _ _
  done := fun A σ s Q E ao R inv st hQ => wpAny_pyNext_range_end ao.handled st (by simp [rangeL]) fun h' hx => hQ h' s.toks hx
  self := fun A s i Q E st q => wpAny_pyIter_rangeiter st q
  own := fun A s i t w Q E st q => own_plain st rfl (by decide) q

def iterOf (ns : List Int) : V → View → (List V → (View → Prop) → View → Prop) → Prop
  | .str x, σ, Q => Q (signs x) (fun _ => True) σ
  | .tup vs, σ, Q => Q vs (fun _ => True) σ
  | .script, σ, Q => Q (ns.map .int) (fun _ => True) σ
  | .ref a, σ, Q => match σ a with
    | some (.list xs) => Q xs (fun σ => σ a = some (.list xs)) σ
    | some (.dict kvs ep) => Q (kvs.map fun p => .str p.1) (fun σ => σ a = some (.dict kvs ep)) σ
    | _ => False
  | _, _, _ => False
def iOf (ns : List Int) (T : ET) : IT := fun m σ Q => T m σ fun v σ' => iterOf ns v σ' Q
theorem HI.of (O : C.Ok) {e : Expr} {T : ET} (he : HE C sc k e T) : HI C sc k e (iOf C.ns T) := by
  refine ⟨?_⟩; intro env A s m σ Q P E en ao R F q hP
  refine he.run env A s m σ _ _ E en ao R F q fun v w σ₁ s₁ hv R₁ S₁ q₁ => ?_
  have fr : s.heap.objs.size ≤ s₁.heap.objs.size := S₁.size
  have hn := R₁.freshNone (size_none s₁.heap)
  have Rp : ∀ o, RelG C σ₁ { s₁ with heap := s₁.heap.push o } := fun o => R₁.grow (tk := s₁.toks) push_old
  have Sp : ∀ o, Step no σ σ₁ s.heap (s₁.heap.push o) := fun o => S₁.trans .push
  cases hv with
  | none => exact q₁.elim
  | bool => exact q₁.elim
  | int => exact q₁.elim
  | ty => exact q₁.elim
  | str x t =>
    cases ha : x.cps.all (· < 128)
    · exact wpAny_pyIter_wide ha (hP _ _ _ _ σ₁ _ (it_str _ "str_iterator" x t (.inr rfl)) ⟨_, Heap.get?_push_size _ rfl, rfl, rfl⟩ fr hn (Rp _) (Sp _) q₁)
    · exact wpAny_pyIter_ascii ha (hP _ _ _ _ σ₁ _ (it_str _ "str_ascii_iterator" x t (.inl rfl)) ⟨_, Heap.get?_push_size _ rfl, rfl, rfl⟩ fr hn (Rp _) (Sp _) q₁)
  | script =>
    obtain ⟨ws, h1, h2, h3⟩ := O.script
    exact wpAny_pyIter_list (h1.at fun o e => R₁.base _ _ e) (hP _ _ _ _ σ₁ _ (it_script O _) ⟨_, Heap.get?_push_size _ rfl, rfl, rfl⟩ fr hn (Rp _) (Sp _) q₁)
  | tup ht hvs =>
    exact wpAny_pyIter_tuple ht (hP _ _ _ _ σ₁ _ (it_tup _ _ _ _) ⟨⟨_, Heap.get?_push_size _ rfl, rfl, rfl⟩, ht.push _, hvs.keep fun _ _ e _ => push_old _ _ e⟩ fr hn (Rp _) (Sp _) q₁)
  | ref a =>
    simp only [iterOf] at q₁
    split at q₁
    · rename_i xs hx
      obtain ⟨_, ws, h1, h2⟩ := R₁.view a _ hx
      exact wpAny_pyIter_list h1.isList (hP _ _ _ _ σ₁ _ (it_list _ a xs) ⟨_, Heap.get?_push_size _ rfl, rfl, rfl⟩ fr hn (Rp _) (Sp _) q₁)
    · rename_i kvs ep hx
      obtain ⟨_, kws, h1, h2⟩ := R₁.view a _ hx
      refine wpAny_pyIter_dict (O.noMods (R₁.apart a (by rw [hx]; simp))) h1 (hP _ _ _ _ σ₁ _ (it_dict _ a kvs ep) ⟨_, Heap.get?_push_size _ rfl, rfl, by rw [← h2.length]; rfl⟩ fr hn (Rp _) (Sp _) q₁)
    · exact q₁.elim
/-- range(n), range(a, b) -/
def rangeOf : List V → View → (List V → (View → Prop) → View → Prop) → Prop
  | [.int n], σ, Q => (-(2 ^ 62) ≤ n ∧ n < 2 ^ 62) ∧ Q (rangeL 0 n.toNat) (fun _ => True) σ
  | [.int a, .int b], σ, Q => (-(2 ^ 62) ≤ a ∧ a < 2 ^ 62 ∧ -(2 ^ 62) ≤ b ∧ b < 2 ^ 62) ∧ Q (rangeL a (b - a).toNat) (fun _ => True) σ
  | _, _, _ => False
def iRange (L : LT) : IT := fun m σ Q => L m σ fun vs σ' => rangeOf vs σ' Q
theorem HI.range (O : C.Ok) {np pos : Pos} {es : List Expr} {L : LT} (hl : HL C sc k es L) (hp : plainArgs es = true)
    (hn : sc.names.lookup (Str.ofString "range") = some .globalImplicit) (hg : C.mg (Str.ofString "range") = Option.none) (hb : C.mb (Str.ofString "range") = some (.type "range")) :
    HI C sc k (.Call (.Name (Str.ofString "range") np) es [] pos) (iRange L) := by
  refine ⟨?_⟩; intro env A s m σ Q P E en ao R F q hP
  refine wpAny_Call_NameR (Calls.Name_function_global en.k (en.of hn) (Calls.loadGlobal_builtin (mg := C.mg) (mb := C.mb) (by rw [en.globals]; exact O.g.keeps R.base) hg (by rw [en.builtins]; exact O.b.keeps R.base) hb ?_) (by decide))
  refine callWith_type (starEach_any hp) (evalArgs_of hp (hl.run env A s m σ pos _ _ E en ao R F q fun vs ws σ₁ s₁ hv R₁ S₁ q₁ => ?_))
  have fr : s.heap.objs.size ≤ s₁.heap.objs.size + 1 := Nat.le_succ_of_le S₁.size
  have hσ : σ₁ (s₁.heap.objs.size + 1) = Option.none := R₁.freshNone (get_none_of_size (Nat.le_succ _))
  have go : ∀ (a b : Int) (o : Obj) (tk : Nat) (t u v : Tok), -(2 ^ 62) ≤ a → a < 2 ^ 62 → -(2 ^ 62) ≤ b → b < 2 ^ 62 → o = { cls := .type "range", data := .fields #[.int a t, .int b u, .int 1 v] } → Q (rangeL a (b - a).toNat) (fun _ => True) σ₁ →
      wpAny (model C.prog C.w) A (pyIter (.ref s₁.heap.objs.size)) P E { s₁ with heap := s₁.heap.push o, toks := tk } := by
    rintro a b o tk t u v h1 h2 h3 h4 rfl q₁
    refine wpAny_pyIter_range (IsRange.new ..) (small_one h1 h2 h3 h4) ?_
    have hsz : Builtin.Range.rangeSize a b 1 = ((b - a).toNat : Int) := by rw [rangeSize_one]; split <;> omega
    have hit := it_range (C := C) (k := k) (s₁.heap.objs.size + 1) a (b - a).toNat
    have R₂ : RelG C σ₁ { s₁ with heap := (s₁.heap.push { cls := .type "range", data := .fields #[.int a t, .int b u, .int 1 v] }).push { cls := .type "range_iterator", data := .fields #[rawInt a, rawInt (Builtin.Range.rangeSize a b 1), rawInt 1] }, toks := tk } :=
      R₁.grow fun _ _ e => push_old _ _ (push_old _ _ e)
    have e := Heap.get?_push_size (s₁.heap.push { cls := .type "range", data := .fields #[.int a t, .int b u, .int 1 v] }) (o := { cls := .type "range_iterator", data := .fields #[rawInt a, rawInt (Builtin.Range.rangeSize a b 1), rawInt 1] }) rfl
    rw [Heap.size_push] at e
    have this := hP _ _ _ _ σ₁ _ hit (by
        show IsRangeIter ((s₁.heap.push { cls := .type "range", data := .fields #[.int a t, .int b u, .int 1 v] }).push { cls := .type "range_iterator", data := .fields #[rawInt a, rawInt (Builtin.Range.rangeSize a b 1), rawInt 1] }) _ _ _ _
        unfold IsRangeIter
        rw [e, hsz]; simp) fr hσ R₂ ((S₁.trans .push).trans .push) q₁
    rw [Heap.size_push]
    exact this
  show wpAny _ A (PySem.call (.type "range") ([] ++ ws)) _ _ _
  rw [List.nil_append]
  unfold rangeOf at q₁
  split at q₁
  · cases hv with | cons h1 r => cases r with | nil => cases h1 with | int n t =>
      refine call_range_1 (go 0 _ _ _ _ _ _ (by decide) (by decide) q₁.1.1 q₁.1.2 rfl ?_)
      rw [Int.sub_zero]; exact q₁.2
  · cases hv with | cons h1 r => cases r with | cons h2 r => cases r with | nil => cases h1 with | int a t => cases h2 with | int b u =>
      exact call_range_2 (go _ _ _ _ _ _ _ q₁.1.1 q₁.1.2.1 q₁.1.2.2.1 q₁.1.2.2.2 rfl q₁.2)
  · exact q₁.elim
end
end Mine

end
section
set_option autoImplicit false
namespace Mine
open PySem

/- the closure of a comprehension -/
def clo (cells : List (Str × Addr)) : List (Str × NameKind) → List (Str × Addr) → List (Str × Addr)
  | [], acc => acc
  | (n, q) :: r, acc => if q == .free then clo cells r ((n, (cells.lookup n).getD 0) :: acc) else clo cells r acc
theorem closure_eq {env : Env} {scope : Scope} (h : ∀ p ∈ scope.names, p.2 = .free → ∃ c, env.cells.lookup p.1 = some c) : closureFor scope env = pure (clo env.cells scope.names []) := by
  unfold closureFor
  have key : ∀ (l : List (Str × NameKind)) (acc : List (Str × Addr)), (∀ p ∈ l, p.2 = .free → ∃ c, env.cells.lookup p.1 = some c) →
      (forIn l acc fun p r => (if (p.2 == NameKind.free) = true then do let c ← cellOf env p.1; pure (ForInStep.yield ((p.1, c) :: r)) else pure (ForInStep.yield r) : Sem (ForInStep (List (Str × Addr))))) = pure (clo env.cells l acc) := by
    intro l
    induction l with
    | nil => intro acc _; rfl
    | cons p r ih =>
      intro acc hp
      rw [List.forIn_cons]
      obtain ⟨n, q⟩ := p
      unfold clo
      cases hq : (q == NameKind.free) with
      | true =>
        obtain ⟨c, hc⟩ := hp (n, q) (.head _) (by simpa using hq)
        simp only [cellOf, hc, if_true, pure_bind, Option.getD_some]
        exact ih _ fun p hp' => hp p (.tail _ hp')
      | false =>
        simp only [Bool.false_eq_true, if_false, pure_bind]
        exact ih _ fun p hp' => hp p (.tail _ hp')
  have := key scope.names [] h
  simpa using congrArg (fun t => t >>= fun cs => (pure cs : Sem _)) this
theorem clo_lookup {cells : List (Str × Addr)} : ∀ (l : List (Str × NameKind)) (acc : List (Str × Addr)), (∀ p ∈ l, p.2 = .free → ∃ c, cells.lookup p.1 = some c) → ∀ n,
    ((clo cells l acc).lookup n = if (n, NameKind.free) ∈ l then cells.lookup n else acc.lookup n)
  | [], acc, _, n => by simp [clo]
  | (y, q) :: r, acc, h, n => by
    unfold clo
    have ih := fun acc => clo_lookup r acc (fun p hp => h p (.tail _ hp)) n
    cases hq : (q == NameKind.free) with
    | true =>
      have hq' : q = .free := by simpa using hq
      obtain ⟨c, hc⟩ := h (y, q) (.head _) hq'
      rw [if_pos rfl, ih]
      subst hq'
      by_cases hr : (n, NameKind.free) ∈ r
      · simp [hr]
      · rw [if_neg hr]
        by_cases hy : n = y
        · subst hy; simp [hc]
        · have : (n == y) = false := by simp [hy]
          simp [hr, hy, List.lookup_cons, this]
    | false =>
      have hq' : q ≠ .free := by simpa using hq
      rw [if_neg Bool.false_ne_true, ih]
      have : ((n, NameKind.free) ∈ (y, q) :: r) ↔ (n, NameKind.free) ∈ r := by simp [Ne.symm hq']
      simp [this]
theorem clo_dist {cells : List (Str × Addr)} (hd : cells.Pairwise fun x y => x.2 ≠ y.2) : ∀ (l : List (Str × NameKind)) (acc : List (Str × Addr)), (∀ p ∈ l, p.2 = .free → ∃ c, cells.lookup p.1 = some c) → (l.map (·.1)).Nodup →
    (∀ p ∈ acc, cells.lookup p.1 = some p.2 ∧ p.1 ∉ l.map (·.1)) → acc.Pairwise (fun x y => x.2 ≠ y.2) → (clo cells l acc).Pairwise fun x y => x.2 ≠ y.2
  | [], acc, _, _, _, h => by simpa [clo] using h
  | (y, q) :: r, acc, h, hn, ha, hp => by
    unfold clo
    rw [List.map_cons, List.nodup_cons] at hn
    cases hq : (q == NameKind.free) with
    | true =>
      obtain ⟨c, hc⟩ := h (y, q) (.head _) (by simpa using hq)
      rw [if_pos rfl]
      refine clo_dist hd r _ (fun p hp => h p (.tail _ hp)) hn.2 ?_ ?_
      · intro p hp'
        rcases List.mem_cons.mp hp' with rfl | hp'
        · exact ⟨by simp [hc], hn.1⟩
        · exact ⟨(ha p hp').1, fun z => (ha p hp').2 (.tail _ z)⟩
      · refine List.pairwise_cons.mpr ⟨fun p hp' e => ?_, hp⟩
        rw [hc] at e
        simp only [Option.getD_some] at e
        have := name_of_addr hd (mem_of_lookup hc) (mem_of_lookup (e ▸ (ha p hp').1))
        exact (ha p hp').2 (by rw [← this]; exact .head _)
    | false =>
      rw [if_neg Bool.false_ne_true]
      exact clo_dist hd r acc (fun p hp => h p (.tail _ hp)) hn.2 (fun p hp' => ⟨(ha p hp').1, fun z => (ha p hp').2 (.tail _ z)⟩) hp

/-- the table of a comprehension, as its body sees it -/
def rkind (sc : Scope) (n : Str) (q : NameKind) : NameKind := if (q == .free && sc.kind == .function && sc.names.lookup n == some .cell) then .cell else q
def relS (sc scope : Scope) : Scope := { scope with names := scope.names.map fun p => (p.1, rkind sc p.1 p.2) }
theorem relabel_eq {cs : Scope} {env : Env} : relabel cs env = relS env.scope cs := by
  unfold relabel relS Env.kindOf rkind
  congr 1
  refine List.map_congr_left fun p _ => ?_
  obtain ⟨n, q⟩ := p
  dsimp only
  split <;> rfl
theorem lookup_rel {sc : Scope} : ∀ (l : List (Str × NameKind)) (n : Str), (l.map fun p => (p.1, rkind sc p.1 p.2)).lookup n = (l.lookup n).map (rkind sc n)
  | [], n => rfl
  | (y, q) :: r, n => by
    rw [List.map_cons, List.lookup_cons, List.lookup_cons]
    by_cases hy : n = y
    · subst hy; simp
    · have hb : (n == y) = false := by simp [hy]
      simp only [hb]
      exact lookup_rel r n
theorem relS_free {sc : Scope} {l : List (Str × NameKind)} {n : Str} (h : l.lookup n = some .free) : (l.map fun p => (p.1, rkind sc p.1 p.2)).lookup n = some .cell ∨ (l.map fun p => (p.1, rkind sc p.1 p.2)).lookup n = some .free := by
  rw [lookup_rel, h, Option.map_some]
  unfold rkind
  split
  · exact .inl rfl
  · exact .inr rfl
theorem relS_cell {sc : Scope} {l : List (Str × NameKind)} {n : Str} (h : (l.map fun p => (p.1, rkind sc p.1 p.2)).lookup n = some .cell) : (n, NameKind.free) ∈ l ∨ (n, NameKind.cell) ∈ l := by
  rw [lookup_rel] at h
  obtain ⟨q, hq, e⟩ := Option.map_eq_some_iff.mp h
  unfold rkind at e
  split at e
  · rename_i hc
    have : q = .free := by simp at hc; exact hc.1.1
    subst this
    exact .inl (mem_of_lookup hq)
  · subst e; exact .inr (mem_of_lookup hq)

theorem relS_freeInv {sc : Scope} {l : List (Str × NameKind)} {n : Str} (h : (l.map fun p => (p.1, rkind sc p.1 p.2)).lookup n = some .free) : (n, NameKind.free) ∈ l := by
  rw [lookup_rel] at h
  obtain ⟨q, hq, e⟩ := Option.map_eq_some_iff.mp h
  unfold rkind at e
  split at e
  · cases e
  · subst e; exact mem_of_lookup hq

section
variable {C : Cx} {sc : Scope} {k : Nat}
/-- the tests of a comprehension -/
structure HTs (C : Cx) (sc : Scope) (k : Nat) (ifs : List Expr) (B : BT) : Prop where
  run : ∀ (env : Env) (A : Around) (s : Shared) (m : Loc) (σ : View) (Q : Bool → View → Prop) (P : Bool → Shared → Prop) (E : Value → Shared → Prop),
    EnvOk env sc → AOk A k → RelG C σ s → FrameRel C env m σ s.heap → B m σ Q →
    (∀ b σ' s', RelG C σ' s' → Step no σ σ' s.heap s'.heap → Q b σ' → P b s') →
    wpAny (model C.prog C.w) A (forIn ifs true fun c r => if r = true then do let ok ← isTrue c env (eval c env); pure (ForInStep.yield ok) else pure (ForInStep.yield r)) P E s
theorem HTs.nil : HTs C sc k [] tT := ⟨fun _ _ s _ σ _ _ _ _ _ R _ q hP => wpAny_tests_nil (hP true σ s R Step.refl q)⟩
theorem HTs.one {c : Expr} {B : BT} (h : HB C sc k c B) : HTs C sc k [c] B := ⟨fun env A s m σ Q P E en ao R F q hP => wpAny_tests_one (h.run env A s m σ Q P E en ao R F q hP)⟩

def only (fv : List String) (m : Loc) : Loc := fun x => if x ∈ fv then m x else Option.none
def compL (g : Tgt) (inv : View → Prop) (B : BT) (T : ET) (m : Loc) : List V → List V → View → (List V → View → Prop) → Prop
  | [], acc, σ, Q => inv σ ∧ Q acc σ
  | v :: r, acc, σ, Q => inv σ ∧ ∃ m', bindT g v m = some m' ∧ B m' σ fun b σ₁ => if b then T m' σ₁ fun y σ₂ => acc.length < 1048576 ∧ compL g inv B T m r (acc ++ [y]) σ₂ Q else compL g inv B T m r acc σ₁ Q
def eComp (fv : List String) (g : Tgt) (I : IT) (B : BT) (T : ET) : ET := fun m σ Q => I m σ fun items inv σ' => compL g inv B T (only fv m) items [] σ' fun ys σ'' => newL ys σ'' Q
def Tgt.names : Tgt → List String
  | .name x => [x]
  | .tup xs => xs
theorem bindM_other : ∀ (xs : List String) (vs : List V) (m : Loc) (y : String), y ∉ xs → bindM xs vs m y = m y
  | [], _, _, _, _ => by simp [bindM]
  | x :: xs, [], _, _, _ => by simp [bindM]
  | x :: xs, v :: vs, m, y, h => by
    simp only [bindM]
    rw [bindM_other xs vs _ y (fun z => h (.tail _ z))]
    exact put_ne (fun z => h (by rw [z]; exact .head _))
theorem bindT_other {g : Tgt} {v : V} {m m' : Loc} (h : bindT g v m = some m') {y : String} (hy : y ∉ g.names) : m' y = m y := by
  cases g with
  | name x => cases h; exact put_ne (fun z => hy (by simp [Tgt.names, z]))
  | tup xs =>
    cases v <;> simp [bindT] at h
    obtain ⟨_, rfl⟩ := h
    exact bindM_other _ _ _ _ hy
theorem FrameRel.weaken {env : Env} {m m' : Loc} {σ : View} {h : Heap} (F : FrameRel C env m' σ h) (hw : ∀ x v, m x = some v → m' x = some v) : FrameRel C env m σ h :=
  ⟨let ⟨mm, h1, h2⟩ := F.ns; ⟨mm, h1, fun x v e q => h2 x v (hw x v e) q⟩, fun x v e => F.cel x v (hw x v e), F.cells, F.sepL, F.baseL, F.baseC, F.dist, F.has⟩

/-- one turn of a comprehension's loop, the target any -/
theorem compLoop_any {A : Around} {R : Result → Shared → Prop} {s : Shared} {elt target iter : Expr} {ifs : List Expr} {scope : Scope} {pos : Pos} {it acc : Value} {env : Env} (I : Nat → Shared → Prop)
    (turn : ∀ n s, I n s → wpAny (model C.prog C.w) A (pyNext it) (fun r s₁ => match r with
      | Option.none => R (.ok .next) s₁
      | some v => wpAny (model C.prog C.w) A (letOwnedTupleGo target it v) (fun _ s₁' => wpAny (model C.prog C.w) A (assign target env v) (fun _ s₂ =>
          wpAny (model C.prog C.w) A (forIn ifs true fun c r => if r = true then do let ok ← isTrue c env (eval c env); pure (ForInStep.yield ok) else pure (ForInStep.yield r)) (fun ok s₃ =>
            if ok = true then wpAny (model C.prog C.w) A (eval elt env) (fun x s₄ =>
              wpAny (model C.prog C.w) A (call (.builtin "list.append") [acc, x]) (fun _ s₅ => ∃ m, m < n ∧ I m s₅) (notedBy (model C.prog C.w) A env fun e s' => R (.error e) s') s₄) (notedBy (model C.prog C.w) A env fun e s' => R (.error e) s') s₃
            else ∃ m, m < n ∧ I m s₃) (notedBy (model C.prog C.w) A env fun e s' => R (.error e) s') s₂) (notedBy (model C.prog C.w) A env fun e s' => R (.error e) s') s₁') (notedBy (model C.prog C.w) A env fun e s' => R (.error e) s') s₁) (notedBy (model C.prog C.w) A env fun e s' => R (.error e) s') s)
    (n : Nat) (h : I n s) : codeAny (model C.prog C.w) A (.compLoop (.ListComp elt [⟨target, iter, ifs, 0⟩] scope pos) 0 it acc env) R s := by
  refine codeAny_loop rfl I (fun n s hI => ?_) n h
  show wpAny _ A ((compTurn (.ListComp elt [⟨target, iter, ifs, 0⟩] scope pos) 0 it acc env).onRaise (fun x => do noteFrame x env; theTreesLotGoes x)) _ _ s
  refine wpAny_noted ?_
  rw [compTurn_list]
  refine wpAny_bind (wpAny_standAt (wpAny_bind (wpAny_mono (turn n s hI) (fun r s₁ h₁ => ?_) fun _ _ h' => h')))
  cases r with
  | none => exact wpAny_pure h₁
  | some v =>
    refine wpAny_bind (wpAny_mono h₁ (fun _ s₁' h₁' => ?_) fun _ _ h' => h')
    refine wpAny_bind (wpAny_mono h₁' (fun _ s₂ h₂ => wpAny_bind (wpAny_mono h₂ (fun ok s₃ h₃ => ?_) fun _ _ h' => h')) fun _ _ h' => h')
    cases ok with
    | false => exact wpAny_pure ⟨rfl, h₃⟩
    | true => exact wpAny_bind (wpAny_bind (wpAny_mono h₃ (fun x s₄ h₄ => wpAny_bind (wpAny_mono h₄ (fun _ s₅ h₅ => wpAny_pure (wpAny_pure ⟨rfl, h₅⟩)) fun _ _ h' => h')) fun _ _ h' => h'))

/-- the side facts of a comprehension's tables -/
structure CompOk (sc cs : Scope) (fv : List String) (g : Tgt) : Prop where
  kind : cs.kind = .function
  nocell : ∀ y ∈ cs.names, y.2 ≠ .cell
  names : ∀ y ∈ cs.names, y.2 = .local → cs.names.lookup y.1 = some .local
  nodup : (cs.names.map (·.1)).Nodup
  frees : ∀ p ∈ cs.names, p.2 = .free → ∃ x ∈ fv, Str.ofString x = p.1
  frs : ∀ x ∈ fv, (Str.ofString x, NameKind.free) ∈ cs.names ∧ (sc.names.lookup (Str.ofString x) = some .cell ∨ sc.names.lookup (Str.ofString x) = some .free)
  tgt : ∀ x ∈ g.names, x ∉ fv
/-- every cell of the table is there -/
def FrameHas (env : Env) (x : String) : Prop := ∃ c, env.cells.lookup (Str.ofString x) = some c

theorem mem_lookup_nodup {α : Type} : ∀ {l : List (Str × α)} {n : Str} {c : α}, (l.map (·.1)).Nodup → (n, c) ∈ l → l.lookup n = some c
  | p :: r, n, c, hn, hm => by
    rw [List.map_cons, List.nodup_cons] at hn
    rcases List.mem_cons.mp hm with e | hm
    · subst e; simp
    · have : n ≠ p.1 := fun e => hn.1 (e ▸ List.mem_map_of_mem hm)
      rw [List.lookup_cons, show (n == p.1) = false by simp [this]]
      exact mem_lookup_nodup hn.2 hm

/-- the body of a comprehension, from the made iterator on -/
theorem comp_core {env : Env} {A : Around} {s₀ s₂ : Shared} {m : Loc} {σ₀ σ₂ : View} {elt iter target : Expr} {ifs : List Expr} {cs : Scope} {pos : Pos} {fv : List String} {g : Tgt} {B : BT} {T : ET} {I : Addr} {items : List V} {inv : View → Prop} {St : Nat → Heap → Prop}
    {Q : List V → View → Prop} {RR : Value → Addr → Result → Shared → Prop} {E : Value → Shared → Prop}
    (ok : CompOk sc cs fv g) (hhas : ∀ x ∈ fv, FrameHas env x) (ht : HT C (relS sc cs) k true target g) (hB : HTs C (relS sc cs) k ifs B) (hT : HE C (relS sc cs) k elt T)
    (en : EnvOk env sc) (ao : AOk A k) (R₀ : RelG C σ₀ s₀) (S : Step no σ₀ σ₂ s₀.heap s₂.heap) (R₂ : RelG C σ₂ s₂) (F : FrameRel C env m σ₂ s₂.heap) (hit : It C k I items inv St) (st : St 0 s₂.heap) (hI : s₀.heap.objs.size ≤ I) (hσI : σ₂ I = Option.none)
    (q : compL g inv B T (only fv m) items [] σ₂ Q)
    (hRR : ∀ D C' ys ws mm σ' s', Heap.Ns s'.heap C' mm → s₂.heap.objs.size ≤ C' → s₂.heap.objs.size ≤ D → D ≠ C' → σ' D = Option.none → σ' C' = Option.none → s'.heap.PlainList D (List.toArray ws) → VRels C.aS s'.heap ys ws → RelG C σ' s' →
      ys.length ≤ 1048576 → Step no σ₀ σ' s₀.heap s'.heap → Step (fun b => b = I) σ₂ σ' s₂.heap s'.heap → Q ys σ' → RR (.ref D) C' (.ok .next) s') :
    wpAny (model C.prog C.w) A (newList []) (fun acc s₃ => wpAny (model C.prog C.w) A (newFunctionEnv cs env.globals (clo env.cells cs.names []) [] env.qual Option.none .none (some env)) (fun cenv s₄ =>
      codeAny (model C.prog C.w) A (.compStart (.ListComp elt [⟨target, iter, ifs, 0⟩] cs pos) 0 (.ref I) acc { cenv with scope := relabel cs env }) (RR acc cenv.locals) s₄) E s₃) E s₂ := by
  have hfree : ∀ p ∈ cs.names, p.2 = .free → ∃ c, env.cells.lookup p.1 = some c := fun p hp hq => by
    obtain ⟨x, hx, e⟩ := ok.frees p hp hq
    rw [← e]; exact hhas x hx
  refine wpAny_newObj_type (wpAny_newFunctionEnv ok.nocell (by intro y hy; simp at hy) (fun h₁ hns₁ hsb₁ => ?_) ok.kind)
  dsimp only at hns₁ hsb₁ ⊢
  generalize hH2 : s₂.heap.push { cls := .type "list", dict := Option.none, data := .seq ([] : List Value).toArray } = H2 at hns₁ hsb₁ ⊢
  have hC : H2.objs.size = s₂.heap.objs.size + 1 := by rw [← hH2, Heap.size_push]
  have hDC : s₂.heap.objs.size ≠ H2.objs.size := by rw [hC]; exact Nat.ne_of_lt (Nat.lt_succ_self _)
  have old : ∀ b o, s₂.heap.get? b = some o → h₁.get? b = some o := fun b o e => hsb₁.extBut b o (by rw [hC]; exact Nat.ne_of_lt (Nat.lt_succ_of_lt (Heap.lt_size e))) (Heap.get?_push_of_some _ (hH2 ▸ Heap.get?_push_of_some _ e))
  have hacc : h₁.PlainList s₂.heap.objs.size (List.toArray []) := ⟨_, hsb₁.extBut _ _ hDC (Heap.get?_push_of_some _ (hH2 ▸ Heap.get?_push_size _ rfl))⟩
  have hsz₁ : h₁.objs.size = s₂.heap.objs.size + 2 := by rw [hsb₁.1, Heap.size_push, hC]
  have R₁ : RelG C σ₂ { s₂ with heap := h₁, toks := s₂.toks + ([] : List (Str × Value)).length } := R₂.grow old
  have cl := clo_lookup (cells := env.cells) cs.names [] hfree
  have kindF : ∀ x ∈ fv, (relS sc cs).names.lookup (Str.ofString x) = some .cell ∨ (relS sc cs).names.lookup (Str.ofString x) = some .free := fun x hx =>
    relS_free (mem_lookup_nodup ok.nodup (ok.frs x hx).1)
  have hLC : (compEnvC cs (clo env.cells cs.names []) H2.objs.size env).locals = H2.objs.size := rfl
  have eS : (compEnvC cs (clo env.cells cs.names []) H2.objs.size env).scope = relS sc cs := by show relabel cs env = _; rw [relabel_eq, en.scope]
  have eCl : (compEnvC cs (clo env.cells cs.names []) H2.objs.size env).cells = clo env.cells cs.names [] := rfl
  have enC : EnvOk (compEnvC cs (clo env.cells cs.names []) H2.objs.size env) (relS sc cs) := ⟨eS, ok.kind, en.globals, en.builtins⟩
  have memF : ∀ n c, (clo env.cells cs.names []).lookup n = some c → (n, NameKind.free) ∈ cs.names ∧ env.cells.lookup n = some c := fun n c e => by
    rw [cl n] at e
    split at e
    · exact ⟨by assumption, e⟩
    · simp at e
  have kc : ∀ c v, s₂.heap.IsCell c v → h₁.IsCell c v := fun c v ⟨o, ho, hd⟩ => ⟨o, old c o ho, hd⟩
  have F₁ : FrameRel C (compEnvC cs (clo env.cells cs.names []) H2.objs.size env) (only fv m) σ₂ h₁ := by
    refine ⟨⟨_, hns₁, fun x v e kx => ?_⟩, fun x v e => ?_, fun n c e => ?_, R₂.freshNone (get_none_of_size (by rw [hLC, hC]; exact Nat.le_succ _)), R₂.baseNone (get_none_of_size (by rw [hLC, hC]; exact Nat.le_succ _)), fun n c e => ?_, ?_, fun n e => ?_⟩
    · unfold only at e
      split at e
      · rename_i hx
        rcases kindF x hx with z | z <;> (rw [enC.of z] at kx; cases kx)
      · cases e
    · unfold only at e
      split at e
      · rename_i hx
        rcases F.cel x v e with z | ⟨z, c, w, h1, h2, h3⟩
        · exfalso
          rcases (ok.frs x hx).2 with y | y <;> (rw [en.of y] at z; cases z)
        · refine .inr ⟨?_, c, w, ?_, kc _ _ h2, h3.keep fun b o e _ => old b o e⟩
          · exact (kindF x hx).imp (fun z => enC.of z) fun z => enC.of z
          · rw [eCl, cl, if_pos (ok.frs x hx).1]; exact h1
      · cases e
    · obtain ⟨v, hv⟩ := F.cells n c (memF n c e).2
      exact ⟨v, kc _ _ hv⟩
    · exact F.baseC n c (memF n c e).2
    · exact clo_dist F.dist cs.names [] hfree ok.nodup (fun p hp => by cases hp) List.Pairwise.nil
    · have go : (n, NameKind.free) ∈ cs.names → ∃ c, (clo env.cells cs.names []).lookup n = some c := fun z => by
        obtain ⟨c, hc⟩ := hfree _ z rfl
        exact ⟨c, by rw [cl, if_pos z]; exact hc⟩
      rcases e with e | e
      · have e' : (relS sc cs).names.lookup n = some .cell := by unfold Env.kindOf at e; rw [eS] at e; exact e
        rcases relS_cell e' with z | z
        · exact go z
        · exact absurd rfl (ok.nocell _ z)
      · have e' : (relS sc cs).names.lookup n = some .free := by unfold Env.kindOf at e; rw [eS] at e; exact e
        exact go (relS_freeInv e')
  have hI2 : I < s₂.heap.objs.size := by obtain ⟨o, ho, _⟩ := hit.live _ _ st; exact Heap.lt_size ho
  have st₁ : St 0 h₁ := hit.frame _ _ _ st (fun o e => old I o e) (fun b o e _ => old b o e)
  have S₁ : Step (fun b => b = I ∨ b = s₂.heap.objs.size ∨ b = H2.objs.size) σ₂ σ₂ s₂.heap h₁ := .grow old (by rw [hsz₁]; omega)
  have hσD : σ₂ s₂.heap.objs.size = Option.none := R₂.freshNone (size_none _)
  have hIb : C.hB.get? I = Option.none := R₀.baseNone (get_none_of_size hI)
  have hIL : I ≠ H2.objs.size := by rw [hC]; exact Nat.ne_of_lt (Nat.lt_succ_of_lt hI2)
  have wk : ∀ {v m'}, bindT g v (only fv m) = some m' → ∀ x u, only fv m x = some u → m' x = some u := fun hb x u e => by
    rw [bindT_other hb]; exact e
    intro hx
    unfold only at e
    rw [if_neg (ok.tgt x hx)] at e; cases e
  have loop : ∀ s₃ : Shared, s₃ = { s₂ with heap := h₁, toks := s₂.toks + ([] : List (Str × Value)).length } →
      codeAny (model C.prog C.w) A (.compLoop (.ListComp elt [⟨target, iter, ifs, 0⟩] cs pos) 0 (.ref I) (.ref s₂.heap.objs.size) (compEnvC cs (clo env.cells cs.names []) H2.objs.size env)) (RR (.ref s₂.heap.objs.size) H2.objs.size) s₃ := by
    rintro s₃ rfl
    generalize compEnvC cs (clo env.cells cs.names []) H2.objs.size env = cenv at hLC eS eCl enC F₁ ⊢
    refine compLoop_any
      (fun n s' => ∃ i ys ws σ' rest, items.drop i = rest ∧ i ≤ items.length ∧ n = rest.length + 1 ∧ St i s'.heap ∧ σ' I = Option.none ∧ σ' s₂.heap.objs.size = Option.none ∧ RelG C σ' s' ∧ FrameRel C cenv (only fv m) σ' s'.heap ∧
        s'.heap.PlainList s₂.heap.objs.size (List.toArray ws) ∧ VRels C.aS s'.heap ys ws ∧ ys.length ≤ 1048576 ∧ Step (fun b => b = I ∨ b = s₂.heap.objs.size ∨ b = H2.objs.size) σ₂ σ' s₂.heap s'.heap ∧ compL g inv B T (only fv m) rest ys σ' Q) ?_ _
      ⟨0, [], [], σ₂, items, by simp, by simp, rfl, st₁, hσI, hσD, R₁, F₁, hacc, .nil, by simp, S₁, q⟩
    rintro n s' ⟨i, ys, ws, σ', rest, e1, e2, rfl, st', hσ', hσD', R', F', hp', hv', hl', S', q'⟩
    have nT : ∀ o, s'.heap.get? s₂.heap.objs.size = some o → ¬ IsT o ∧ ∀ v, o.data ≠ .cell v := fun o ho => by
      obtain ⟨n, hn⟩ := hp'; rw [hn] at ho; cases ho; exact ⟨by simp [IsT], by simp⟩
    have drew : ∀ {h' : Heap}, Heap.ExtBut I s'.heap h' → s'.heap.objs.size ≤ h'.objs.size → Step (fun b => b = I ∨ b = s₂.heap.objs.size ∨ b = H2.objs.size) σ' σ' s'.heap h' := fun hx hsz =>
      ⟨fun b o e _ q => hx b o (fun z => q (.inl z)) e, hsz, fun _ a b => absurd a b⟩
    have ktI : ∀ {h' : Heap}, Heap.ExtBut I s'.heap h' → TupKeep s'.heap h' := fun hx b o e ht => hx b o (by
      rintro rfl; obtain ⟨oI, hoI, hT, _⟩ := hit.live _ _ st'; rw [hoI] at e; cases e; exact hT ht) e
    cases rest with
    | nil =>
      have hil : i = items.length := by
        have := congrArg List.length e1
        simp at this; omega
      subst hil
      refine with_size (hit.done A σ' s' _ _ ao R' q'.1 st' fun h' tk hx hsz => ?_)
      have R₃ := draw_rel (tk := tk) R' hx hσ' hIb (hit.live _ _ st')
      have F₃ := draw_frame F' hx (hit.live _ _ st') (by rw [hLC]; exact hIL)
      have S₃ := S'.trans (drew hx hsz)
      obtain ⟨mm, hmm, _⟩ := F₃.ns
      rw [hLC] at hmm
      have sep := F₃.sepL
      rw [hLC] at sep
      refine hRR _ _ ys ws mm σ' _ hmm (by rw [hC]; exact Nat.le_succ _) (Nat.le_refl _) hDC hσD' sep (hp'.extBut hx (Nat.ne_of_gt hI2)) (hv'.keep (ktI hx)) R₃ hl' (((S.mono fun _ _ _ z => z.elim).trans S₃).mono fun b o e z => ?_) (S₃.mono fun b o e z => ?_) q'.2
      · have := Heap.lt_size e
        have hh := S.size
        rcases z with z | z | z
        · exact absurd this (by rw [z]; exact Nat.not_lt.mpr hI)
        · exact absurd this (by rw [z]; exact Nat.not_lt.mpr hh)
        · exact absurd this (by rw [z, hC]; exact Nat.not_lt.mpr (Nat.le_succ_of_le hh))
      · have := Heap.lt_size e
        rcases z with z | z | z
        · exact z
        · exact absurd this (by rw [z]; exact Nat.lt_irrefl _)
        · exact absurd this (by rw [z, hC]; exact Nat.not_lt.mpr (Nat.le_succ _))
    | cons v r =>
      obtain ⟨hinv, m₁, hm₁, q'⟩ := q'
      have hiv : items[i]? = some v := by
        have : (items.drop i)[0]? = some v := by rw [e1]; rfl
        simpa using this
      have hilt : i < items.length := by
        have := congrArg List.length e1
        simp at this; omega
      refine with_size (hit.next A σ' s' i v _ _ ao R' hinv st' hiv fun w h₂ tk₂ hv st₂ hx hsz => ?_)
      have R₃ := draw_rel (tk := tk₂) R' hx hσ' hIb (hit.live _ _ st')
      have F₃ := draw_frame F' hx (hit.live _ _ st') (by rw [hLC]; exact hIL)
      have S₃ := S'.trans (drew hx hsz)
      have hp₃ := hp'.extBut hx (Nat.ne_of_gt hI2)
      have hv₃ := hv'.keep (ktI hx)
      refine hit.own A _ (i + 1) target w _ _ st₂ ?_
      refine ht.run cenv A _ (only fv m) m₁ σ' v w _ _ enC ao R₃ F₃ hv hm₁ fun s₄ R₄ F₄ S₄ => ?_
      have S₄' : Step (fun b => b = H2.objs.size) σ' σ' h₂ s₄.heap := S₄.mono fun b _ _ z => z.elim (fun z => by rw [hLC] at z; exact z) fun z => by cases z.1
      have kt₄ : TupKeep h₂ s₄.heap := S₄'.tups (s := { s' with heap := h₂, toks := tk₂ }) R₃ fun b o z e => by
        subst z; rw [← hLC] at e; exact F₃.ownT _ o (.inl rfl) e
      have st₄ : St (i + 1) s₄.heap := hit.frame _ _ _ st₂ (fun o e => S₄'.keep I o e hσ' hIL) kt₄
      have hp₄ : s₄.heap.PlainList s₂.heap.objs.size (List.toArray ws) := hp₃.at fun o e => S₄'.keep _ o e hσD' hDC
      have hv₄ := hv₃.keep kt₄
      have S₅ : Step (fun b => b = I ∨ b = s₂.heap.objs.size ∨ b = H2.objs.size) σ₂ σ' s₂.heap s₄.heap := S₃.trans (S₄'.mono fun _ _ _ z => .inr (.inr z))
      refine hB.run cenv A s₄ m₁ σ' _ _ _ enC ao R₄ F₄ q' fun b σ₅ s₅ R₅ Sb q₅ => ?_
      have sepI : ∀ {σa σb : View} {sa : Shared} {hb : Heap}, Step no σa σb sa.heap hb → St (i + 1) sa.heap → σa I = Option.none → σb I = Option.none := fun {σa σb sa hb} Sx stx hx => by
        cases z : σb I with
        | none => rfl
        | some o =>
          obtain ⟨o', ho', _⟩ := hit.live _ _ stx
          exact absurd (Heap.lt_size ho') (Nat.not_lt.mpr (Sx.new I hx (by rw [z]; simp)))
      have sepD : ∀ {σa σb : View} {sa : Shared} {hb : Heap}, Step no σa σb sa.heap hb → sa.heap.PlainList s₂.heap.objs.size (List.toArray ws) → σa s₂.heap.objs.size = Option.none → σb s₂.heap.objs.size = Option.none := fun {σa σb sa hb} Sx hpx hx => by
        cases z : σb s₂.heap.objs.size with
        | none => rfl
        | some o =>
          obtain ⟨n', hn'⟩ := hpx
          exact absurd (Heap.lt_size hn') (Nat.not_lt.mpr (Sx.new _ hx (by rw [z]; simp)))
      have st₅ : St (i + 1) s₅.heap := hit.frame _ _ _ st₄ (fun o e => Sb.keep I o e hσ' fun z => z) (Sb.tupsN R₄)
      have hp₅ : s₅.heap.PlainList s₂.heap.objs.size (List.toArray ws) := hp₄.at fun o e => Sb.keep _ o e hσD' fun z => z
      have hv₅ := hv₄.keep (Sb.tupsN R₄)
      have F₅ := F₄.step R₄ Sb
      have hσ₅ := sepI Sb st₄ hσ'
      have hσD₅ := sepD Sb hp₄ hσD'
      have S₆ := S₅.trans (Sb.mono fun _ _ _ z => z.elim)
      have dr : items.drop (i + 1) = r := by rw [← List.tail_drop, e1]; rfl
      cases b with
      | false =>
        simp only [Bool.false_eq_true, if_false] at q₅ ⊢
        exact ⟨r.length + 1, by simp, i + 1, ys, ws, σ₅, r, dr, hilt, rfl, st₅, hσ₅, hσD₅, R₅, F₅.weaken (wk hm₁), hp₅, hv₅, hl', S₆, q₅⟩
      | true =>
        simp only [if_true] at q₅ ⊢
        refine hT.run cenv A s₅ m₁ σ₅ _ _ _ enC ao R₅ F₅ q₅ fun y wy σ₆ s₆ hy R₆ Sc q₆ => ?_
        obtain ⟨hlen, q₆⟩ := q₆
        have st₆ : St (i + 1) s₆.heap := hit.frame _ _ _ st₅ (fun o e => Sc.keep I o e hσ₅ fun z => z) (Sc.tupsN R₅)
        have hp₆ : s₆.heap.PlainList s₂.heap.objs.size (List.toArray ws) := hp₅.at fun o e => Sc.keep _ o e hσD₅ fun z => z
        have hv₆ := hv₅.keep (Sc.tupsN R₅)
        have hσ₆ := sepI Sc st₅ hσ₅
        have hσD₆ := sepD Sc hp₅ hσD₅
        have F₆ := F₅.step R₅ Sc
        refine wpAny_list_append_plain hp₆ (fun h₇ hp₇ hs₇ => ?_) (by rw [List.size_toArray, ← hv₆.length, sizeLine_eq]; omega)
        have nD : ∀ o, s₆.heap.get? s₂.heap.objs.size = some o → ¬ IsT o ∧ ∀ v, o.data ≠ .cell v := fun o ho => by
          obtain ⟨n, hn⟩ := hp₆; rw [hn] at ho; cases ho; exact ⟨by simp [IsT], by simp⟩
        obtain ⟨oD, hoD⟩ : ∃ o, s₆.heap.get? s₂.heap.objs.size = some o := let ⟨n, hn⟩ := hp₆; ⟨_, hn⟩
        have kt₇ : TupKeep s₆.heap h₇ := fun b o e ht => hs₇.extBut b o (by rintro rfl; exact (nD o e).1 ht) e
        have R₇ : RelG C σ₆ { s₆ with heap := h₇ } := draw_rel (tk := s₆.toks) R₆ hs₇.extBut hσD₆ (R₂.baseNone (size_none _)) ⟨oD, hoD, nD oD hoD⟩
        have F₇ : FrameRel C cenv m₁ σ₆ h₇ := draw_frame F₆ hs₇.extBut ⟨oD, hoD, nD oD hoD⟩ (by rw [hLC]; exact hDC)
        have st₇ : St (i + 1) h₇ := hit.frame _ _ _ st₆ (fun o e => hs₇.extBut I o (Nat.ne_of_lt hI2) e) kt₇
        refine ⟨r.length + 1, by simp, i + 1, ys ++ [y], ws ++ [wy], σ₆, r, dr, hilt, rfl, st₇, hσ₆, hσD₆, R₇, F₇.weaken (wk hm₁), by simpa using hp₇, (hv₆.append (.cons hy .nil)).keep kt₇, by simp; omega, (S₆.trans (Sc.mono fun _ _ _ z => z.elim)).trans ?_, q₆⟩
        exact ⟨fun b o e _ q => hs₇.extBut b o (fun z => q (.inr (.inl z))) e, Nat.le_of_eq hs₇.1.symm, fun _ a b => absurd a b⟩
  exact codeAny_compStart_list (loop _ rfl) (hit.self A _ 0 _ _ st₁ (loop _ rfl))

theorem has_fv {env : Env} {m : Loc} {σ : View} {h : Heap} {cs : Scope} {fv : List String} {g : Tgt} (ok : CompOk sc cs fv g) (en : EnvOk env sc) (F : FrameRel C env m σ h) : ∀ x ∈ fv, FrameHas env x := fun x hx =>
  F.has _ ((ok.frs x hx).2.imp (fun z => en.of z) fun z => en.of z)
/-- a list that stood outside of the view enters it -/
theorem RelG.enter {σ : View} {s : Shared} {D : Addr} {o : AObj} (R : RelG C σ s) (hD : C.hB.get? D = Option.none) (ho : ObjRel C s.heap D o) : RelG C (upd σ D o) s :=
  ⟨R.rest, R.base, fun a o' e => by
    by_cases h : a = D
    · subst h; rw [upd_same] at e; cases e; exact ho
    · rw [upd_ne h] at e; exact R.view a o' e,
   fun a ha => by
    by_cases h : a = D
    · subst h; exact hD
    · rw [upd_ne h] at ha; exact R.apart a ha⟩
theorem Step.enter {own : Addr → Prop} {σ σ' : View} {h h' : Heap} {D : Addr} {o : AObj} (S : Step own σ σ' h h') (hD : h.objs.size ≤ D) : Step own σ (upd σ' D o) h h' :=
  ⟨S.keep, S.size, fun b n z => by
    by_cases hb : b = D
    · subst hb; exact hD
    · rw [upd_ne hb] at z; exact S.new b n z⟩
theorem HE.comp {elt iter target : Expr} {ifs : List Expr} {cs : Scope} {pos : Pos} {fv : List String} {g : Tgt} {I : IT} {B : BT} {T : ET} (ok : CompOk sc cs fv g)
    (hi : HI C sc k iter I) (ht : HT C (relS sc cs) k true target g) (hB : HTs C (relS sc cs) k ifs B) (hT : HE C (relS sc cs) k elt T) (hf : ∀ env x, foldedSetIterable iter env x = pure x) :
    HE C sc k (.ListComp elt [⟨target, iter, ifs, 0⟩] cs pos) (eComp fv g I B T) := by
  refine ⟨?_⟩; intro env A s m σ Q P E en ao R F q hP
  have hfree : ∀ p ∈ cs.names, p.2 = .free → ∃ c, env.cells.lookup p.1 = some c := fun p hp hq => by
    obtain ⟨x, hx, e⟩ := ok.frees p hp hq
    rw [← e]; exact has_fv ok en F x hx
  rw [eval_ListComp]
  refine wpAny_comprehension_free (use := Option.none) rfl (hf env) (closure_eq hfree) ok.kind ok.names (hi.run env A s m σ _ _ E en ao R F q fun items inv I St σ₂ s₂ hit st hI hσI R₂ S₂ q₂ => ?_)
  refine comp_core (RR := fun acc C' => compPost (model C.prog C.w) A E Option.none P acc C') ok (has_fv ok en F) ht hB hT en ao R S₂ R₂ (F.step R S₂) hit st hI hσI q₂ ?_
  intro D C' ys ws mm σ' s' hmm hC' hD hDC hσD hσC hp hv R' hly S' SI q'
  refine ⟨mm, hmm, fun h'' hs'' => ?_⟩
  have nT : ∀ o, s'.heap.get? C' = some o → ¬ IsT o ∧ ∀ v, o.data ≠ .cell v := fun o ho => by
    obtain ⟨o', es, ep, ho', hd', _⟩ := hmm; rw [ho'] at ho; cases ho; exact ⟨by simp [IsT, hd'], by simp [hd']⟩
  obtain ⟨oC, hoC⟩ : ∃ o, s'.heap.get? C' = some o := let ⟨o', _, _, ho', _⟩ := hmm; ⟨o', ho'⟩
  have hC0 : s.heap.objs.size ≤ C' := Nat.le_trans S₂.size hC'
  have hD0 : s.heap.objs.size ≤ D := Nat.le_trans S₂.size hD
  have kt : TupKeep s'.heap h'' := fun b o e ht => hs''.extBut b o (by rintro rfl; exact (nT o e).1 ht) e
  have R₃ : RelG C σ' { s' with heap := h'' } := draw_rel (tk := s'.toks) R' hs''.extBut hσC (R.baseNone (get_none_of_size hC0)) ⟨oC, hoC, nT oC hoC⟩
  have R₄ := R₃.enter (D := D) (o := .list ys) (R.baseNone (get_none_of_size hD0)) ⟨by omega, ws, hp.extBut hs''.extBut hDC, hv.keep kt⟩
  have S₃ : Step (fun b => b = C') σ' σ' s'.heap h'' := ⟨fun b o e _ q => hs''.extBut b o q e, Nat.le_of_eq hs''.1.symm, fun _ a b => absurd a b⟩
  have S₄ : Step no σ σ' s.heap h'' := ((S'.mono fun _ _ _ z => z.elim).trans S₃).mono fun b o e z => absurd (Heap.lt_size e) (by rw [z]; exact Nat.not_lt.mpr hC0)
  exact hP _ _ _ _ (.ref D) R₄ (S₄.enter hD0) (q' D hσD)
/-- x = [..] where the model stores into x ahead of letting the loop's names go -/
theorem HS1.setComp {elt iter target : Expr} {ifs : List Expr} {cs : Scope} {pos p spos : Pos} {x : String} {fv : List String} {g : Tgt} {I : IT} {B : BT} {T : ET} (ok : CompOk sc cs fv g)
    (hi : HI C sc k iter I) (ht : HT C (relS sc cs) k true target g) (hB : HTs C (relS sc cs) k ifs B) (hT : HE C (relS sc cs) k elt T) (hf : ∀ env x, foldedSetIterable iter env x = pure x)
    (hx : sc.names.lookup (Str.ofString x) = some .local) (hsw : ∀ env, EnvOk env sc → swapsWith (.ListComp elt [⟨target, iter, ifs, 0⟩] cs pos) (some (.Name (Str.ofString x) p)) spos.line env = pure true) :
    HS1 C sc k (.Assign [.Name (Str.ofString x) p] (.ListComp elt [⟨target, iter, ifs, 0⟩] cs pos) spos) (sSet x (eComp fv g I B T)) := by
  refine ⟨?_⟩; intro env A s m σ Q P E en ao R F q hP
  have hfree : ∀ p ∈ cs.names, p.2 = .free → ∃ c, env.cells.lookup p.1 = some c := fun p hp hq => by
    obtain ⟨x, hx, e⟩ := ok.frees p hp hq
    rw [← e]; exact has_fv ok en F x hx
  rw [exec_Assign_Name_used _ _ _ _ (hsw env en)]
  refine wpAny_bind (wpAny_standAt (wpAny_bind ?_))
  show wpAny _ A (do let _ ← comprehension (.ListComp elt [⟨target, iter, ifs, 0⟩] cs pos) cs env _ (newList []) false (eval iter env) (some (assign (.Name (Str.ofString x) p) env))) _ _ s
  refine wpAny_bind (wpAny_mono (wpAny_comprehension_free (use := some (assign (.Name (Str.ofString x) p) env)) (Q := fun _ s' => P .next s') rfl (hf env) (closure_eq hfree) ok.kind ok.names (hi.run env A s m σ _ _ E en ao R F q fun items inv I St σ₂ s₂ hit st hI hσI R₂ S₂ q₂ => ?_))
    (fun _ s' hq => wpAny_pure (wpAny_pure hq)) fun _ _ e => e)
  refine comp_core (RR := fun acc C' => compPost (model C.prog C.w) A E (some (assign (.Name (Str.ofString x) p) env)) (fun _ s' => P .next s') acc C') ok (has_fv ok en F) ht hB hT en ao R S₂ R₂ (F.step R S₂) hit st hI hσI q₂ ?_
  intro D C' ys ws mm σ' s' hmm hC' hD hDC hσD hσC hp hv R' hly S' SI q'
  have hC0 : s.heap.objs.size ≤ C' := Nat.le_trans S₂.size hC'
  have hD0 : s.heap.objs.size ≤ D := Nat.le_trans S₂.size hD
  have R₃ := R'.enter (D := D) (o := .list ys) (R.baseNone (get_none_of_size hD0)) ⟨by omega, ws, hp, hv⟩
  have S₃ := S'.enter (o := .list ys) hD0
  have F₃ := F.step R S₃
  have hCL : C' ≠ env.locals := fun e => by
    obtain ⟨mL, hmL, _⟩ := F.ns
    exact absurd hmL.lt (by rw [← e]; exact Nat.not_lt.mpr hC0)
  refine wpAny_assign_Name (store_local en R₃ F₃ hx (.ref D) fun s₄ R₄ F₄ S₄ => ?_)
  have hσ₃C : upd σ' D (.list ys) C' = Option.none := by rw [upd_ne (Ne.symm hDC)]; exact hσC
  have keepC : ∀ o, s'.heap.get? C' = some o → s₄.heap.get? C' = some o := fun o e => S₄.keep C' o e hσ₃C hCL
  refine ⟨mm, hmm.at' keepC, fun h'' hs'' => ?_⟩
  have nT : ∀ o, s₄.heap.get? C' = some o → ¬ IsT o ∧ ∀ v, o.data ≠ .cell v := fun o ho => by
    obtain ⟨o', es, ep, ho', hd', _⟩ := hmm.at' keepC; rw [ho'] at ho; cases ho; exact ⟨by simp [IsT, hd'], by simp [hd']⟩
  obtain ⟨oC, hoC⟩ : ∃ o, s₄.heap.get? C' = some o := let ⟨o', _, _, ho', _⟩ := hmm.at' keepC; ⟨o', ho'⟩
  have R₅ := draw_rel (tk := s₄.toks) R₄ hs''.extBut hσ₃C (R.baseNone (get_none_of_size hC0)) ⟨oC, hoC, nT oC hoC⟩
  have F₅ := draw_frame F₄ hs''.extBut ⟨oC, hoC, nT oC hoC⟩ hCL
  have S₅ : Step (fun b => b = env.locals ∨ b = C') (upd σ' D (.list ys)) (upd σ' D (.list ys)) s'.heap h'' := (S₄.mono fun _ _ _ z => .inl z).trans ⟨fun b o e _ q => hs''.extBut b o (fun z => q (.inr z)) e, Nat.le_of_eq hs''.1.symm, fun _ a b => absurd a b⟩
  have S₆ : Step (Own env) σ (upd σ' D (.list ys)) s.heap h'' := ((S₃.mono fun _ _ _ z => z.elim).trans S₅).mono fun b o e z => z.elim .inl fun z => absurd (Heap.lt_size e) (by rw [z]; exact Nat.not_lt.mpr hC0)
  exact hP .next .next _ _ _ .next R₅ F₅ S₆ (q' D hσD)
end
end Mine

end
section
set_option autoImplicit false
set_option linter.unusedVariables false
namespace Mine
open PySem

section
variable {C : Cx} {sc : Scope} {k : Nat}
/- an item -/
def isSlice : Expr → Bool
  | .Slice .. => true
  | _ => false
theorem item_tree {A : Around} {s : Shared} {slice : Expr} {o i : Value} {T id : String} {P E : Value → Shared → Prop} (hsl : isSlice slice = false) (hT : s.TypeIs o T)
    (hl : typeLookup (.type T) "__getitem__" = pure (some (.builtin id))) (hg : wpAny (model C.prog C.w) A (getItem o i) P E s) :
    wpAny (model C.prog C.w) A (getitemInPython o >>= fun b => subscripted slice b o i) P E s := by
  refine wpAny_bind ?_
  rw [getitemInPython_of_ne hT.not_modules]
  refine wpAny_bind (wpAny_specialOf hT hl ?_)
  refine wpAny_pure ?_
  have : subscripted slice false o i = operate [o, i] (getItem o i) := by
    unfold subscripted
    cases slice <;> first | rfl | cases hsl
  rw [this]
  exact wpAny_operating hg
/-- the place that an index names -/
def idx (i : Int) (n : Nat) : Option Nat := if 0 ≤ i then (if i < n then some i.toNat else Option.none) else (if -(n : Int) ≤ i then some (i + n).toNat else Option.none)
def opItem (ns : List Int) : O2
  | .str x, .int i, σ, Q => x.length < 16777217 ∧ ∃ j c, idx i x.length = some j ∧ x.cps.toList[j]? = some c ∧ Q (.str ⟨#[c]⟩) σ
  | .script, .int i, σ, Q => ∃ j n, 0 ≤ i ∧ idx i ns.length = some j ∧ ns[j]? = some n ∧ Q (.int n) σ
  | .tup vs, .int i, σ, Q => vs.length < 16777217 ∧ ∃ j v, idx i vs.length = some j ∧ vs[j]? = some v ∧ Q v σ
  | .ref a, .int i, σ, Q => ∃ xs j v, σ a = some (.list xs) ∧ idx i xs.length = some j ∧ xs[j]? = some v ∧ Q v σ
  | _, _, _, _ => False
theorem idx_seq {i : Int} {n j : Nat} (h : idx i n = some j) : seqIndex? i n = some j := by
  unfold idx at h
  unfold seqIndex?
  split at h
  · split at h
    · cases h
      rename_i h1 h2
      simp [Int.not_lt.mpr h1, h1, h2]
    · cases h
  · split at h
    · cases h
      rename_i h1 h2
      have : i < 0 := by omega
      simp only [this, if_true]
      rw [if_pos (by simp only [Bool.and_eq_true, decide_eq_true_eq]; omega)]
    · cases h
theorem idx_lt {i : Int} {n j : Nat} (h : idx i n = some j) : j < n ∧ -(n : Int) ≤ i ∧ i < n := by
  unfold idx at h
  split at h
  · split at h
    · cases h; omega
    · cases h
  · split at h
    · cases h; omega
    · cases h
theorem get_list {A : Around} {s : Shared} {a : Addr} {ws : List Value} {i : Int} {t : Tok} {j : Nat} {w : Value} {P E : Value → Shared → Prop} (hl : s.heap.IsList a ws.toArray) (hi : idx i ws.length = some j) (hw : ws[j]? = some w) (hz : ws.length ≤ 16777216) (q : P w s) :
    wpAny (model C.prog C.w) A (getItem (.ref a) (.int i t)) P E s := by
  have hlt := idx_lt hi
  by_cases h0 : 0 ≤ i
  · have : j = i.toNat := by unfold idx at hi; rw [if_pos h0] at hi; split at hi <;> cases hi; rfl
    subst this
    exact wpAny_getItem_list hl h0 (by omega) (by simpa using hw) q
  · have : j = (i + ws.length).toNat := by unfold idx at hi; rw [if_neg h0] at hi; split at hi <;> cases hi; rfl
    subst this
    refine wpAny_getItem_list_neg hl (by omega) (by simp; omega) (by omega) (by simpa using hw) q
theorem ok_item (O : C.Ok) {slice : Expr} (hsl : isSlice slice = false) : Op2 C k (fun o i => getitemInPython o >>= fun b => subscripted slice b o i) (opItem C.ns) := by
  intro A s σ a b wa wb Q P E ao R va vb q hP
  cases a <;> first | exact q.elim | skip
  all_goals (cases b <;> first | exact q.elim | skip)
  · rename_i x i
    cases va; cases vb
    obtain ⟨hx, j, c, hj, hc, q⟩ := q
    refine item_tree hsl (typeIs_str _ _ _) F.slot_str_getitem.lookup ?_
    have hlt := idx_lt hj
    have e : Txt.charAt x i = some c := by
      unfold Txt.charAt
      rw [idx_seq hj]
      simpa using hc
    refine SB.getItem ?_ (by rw [e]; rfl) ?_
    · unfold fitsSsize; simp; omega
    · have e2 : Txt.item x i = ⟨#[c]⟩ := by unfold Txt.item; rw [e]; rfl
      rw [e2]
      exact hP _ _ σ _ (.str _ _) (R.tok _) Step.refl q
  · rename_i aa i
    cases va; cases vb
    obtain ⟨xs, j, v, hx, hj, hv, q⟩ := q
    obtain ⟨hz, ws, h1, h2⟩ := R.view aa _ hx
    obtain ⟨w, hw, hr⟩ := h2.get hv
    exact item_tree hsl h1.isList.typeIs slot_list_getitem.lookup (get_list h1.isList (by rw [← h2.length]; exact hj) hw (by rw [← h2.length]; exact hz) (hP _ _ σ s hr R Step.refl q))
  · rename_i i
    cases va; cases vb
    obtain ⟨j, n, h0, hj, hv, q⟩ := q
    obtain ⟨ws, h1, h2, h3⟩ := O.script
    obtain ⟨t, ht⟩ := h3 j n hv
    have hl : s.heap.IsList C.aS ws := h1.at fun o e => R.base _ _ e
    have hl' : s.heap.IsList C.aS ws.toList.toArray := by simpa using hl
    exact item_tree hsl hl.typeIs slot_list_getitem.lookup (get_list hl' (by rw [h2]; exact hj) ht (by rw [h2]; have := O.few; omega) (hP _ _ σ s (.int n t) R Step.refl q))
  · rename_i vs i
    cases vb
    cases va with
    | @tup _ at' ws ht hvs =>
      obtain ⟨hz, j, v, hj, hv, q⟩ := q
      obtain ⟨w, hw, hr⟩ := hvs.get hv
      have hlt := idx_lt hj
      have htt : PyProof.Rows.IsTup s.heap at' ws.toArray := ht
      refine item_tree hsl ht.typeIs (PyProof.Rows.slot_tuple_getitem).lookup (PyProof.Rows.getItem_tuple htt (by omega) (by omega) (by rw [List.size_toArray, ← hvs.length]; exact idx_seq hj) (by simpa using hw) (hP _ _ σ s hr R Step.refl q))

/- slices -/
def clip (n : Nat) (lo hi : Option Int) : Nat × Nat := (lo.elim 0 (clipAt n), hi.elim n (clipAt n) - lo.elim 0 (clipAt n))
def pyCut {α : Type} (l : List α) (lo hi : Option Int) : List α := (l.drop (clip l.length lo hi).1).take (clip l.length lo hi).2
def opCut (ns : List Int) (lo hi : Option Int) : O1
  | .str x, σ, Q => x.length ≤ 16777216 ∧ Q (.str ⟨(pyCut x.cps.toList lo hi).toArray⟩) σ
  | .ref a, σ, Q => ∃ xs, σ a = some (.list xs) ∧ newL (pyCut xs lo hi) σ Q
  | .script, σ, Q => newL ((pyCut ns lo hi).map .int) σ Q
  | _, _, _ => False
/-- a part of a slice -/
structure HP (C : Cx) (sc : Scope) (k : Nat) (e : Option Expr) (T : Loc → View → (Option Int → View → Prop) → Prop) : Prop where
  run : ∀ (env : Env) (A : Around) (s : Shared) (m : Loc) (σ : View) (Q : Option Int → View → Prop) (P : Value → Shared → Prop) (E : Value → Shared → Prop),
    EnvOk env sc → AOk A k → RelG C σ s → FrameRel C env m σ s.heap → T m σ Q →
    (∀ i p σ' s', i = Option.map Prod.fst p → RelG C σ' s' → Step no σ σ' s.heap s'.heap → Q i σ' → P (partValue p) s') →
    wpAny (model C.prog C.w) A (evalPart e env) P E s
def pNone : Loc → View → (Option Int → View → Prop) → Prop := fun _ σ Q => Q Option.none σ
def pSome (T : ET) : Loc → View → (Option Int → View → Prop) → Prop := fun m σ Q => T m σ fun v σ' => ∃ i, v = .int i ∧ Q (some i) σ'
theorem HP.none : HP C sc k Option.none pNone := ⟨fun env A s m σ Q P E en ao R F q hP => wpAny_pure (hP Option.none Option.none σ s rfl R Step.refl q)⟩
theorem HP.some {e : Expr} {T : ET} (he : HE C sc k e T) : HP C sc k (some e) (pSome T) := ⟨fun env A s m σ Q P E en ao R F q hP =>
  he.run env A s m σ _ _ E en ao R F q fun v w σ' s' hv R' S' q' => by
    obtain ⟨i, rfl, q'⟩ := q'
    cases hv with
    | int i t => exact hP (Option.some i) (Option.some (i, t)) σ' s' rfl R' S' q'⟩
theorem cut_len {α : Type} (l : List α) (lo hi : Option Int) : (pyCut l lo hi).length ≤ l.length := by
  unfold pyCut; rw [List.length_take, List.length_drop]; omega
theorem VRels.cut {aS : Addr} {h : Heap} {vs : List V} {ws : List Value} (x : VRels aS h vs ws) (a b : Nat) : VRels aS h ((vs.drop a).take b) ((ws.drop a).take b) := by
  have hd : ∀ (a : Nat) {vs : List V} {ws : List Value}, VRels aS h vs ws → VRels aS h (vs.drop a) (ws.drop a) := by
    intro a
    induction a with
    | zero => intro vs ws x; exact x
    | succ a ih => intro vs ws x; cases x with
      | nil => exact .nil
      | cons _ r => exact ih r
  have ht : ∀ (b : Nat) {vs : List V} {ws : List Value}, VRels aS h vs ws → VRels aS h (vs.take b) (ws.take b) := by
    intro b
    induction b with
    | zero => intro vs ws x; exact .nil
    | succ b ih => intro vs ws x; cases x with
      | nil => exact .nil
      | cons a r => exact .cons a (ih r)
  exact ht b (hd a x)
theorem strCut (x : Str) (lo hi : Option Int) : ((Builtin.Str.strSliceIndices lo hi 1 x.length).filterMap (x.cps[·]?)) = pyCut x.cps.toList lo hi := by
  have e : Builtin.Str.strSliceIndices lo hi 1 x.length = sliceRange ((lo.elim 0 (clipAt x.length) : Nat) : Int) ((hi.elim x.length (clipAt x.length) : Nat) : Int) 1 := by
    unfold Builtin.Str.strSliceIndices
    cases lo <;> cases hi <;> simp [clipAt_cast]
  rw [e, sliceRange_one, pick_run]
  unfold pyCut clip
  simp [Str.length]
def eCut (ns : List Int) (T : ET) (L U : Loc → View → (Option Int → View → Prop) → Prop) : ET := fun m σ Q => T m σ fun v σ₁ => L m σ₁ fun lo σ₂ => U m σ₂ fun hi σ₃ => opCut ns lo hi v σ₃ Q
theorem HE.cut (O : C.Ok) {value : Expr} {lower upper : Option Expr} {p pos : Pos} {T : ET} {L U : Loc → View → (Option Int → View → Prop) → Prop} (hv : HE C sc k value T) (hl : HP C sc k lower L) (hu : HP C sc k upper U) :
    HE C sc k (.Subscript value (.Slice lower upper Option.none p) pos) (eCut C.ns T L U) := by
  refine ⟨?_⟩; intro env A s m σ Q P E en ao R F q hP
  rw [eval_Subscript]
  refine wpAny_bind (hv.run env A s m σ _ _ E en ao R F q fun v w σ₁ s₁ va R₁ S₁ q₁ => wpAny_bind (wpAny_holding (wpAny_Slice ?_)))
  have F₁ := F.step R S₁
  refine hl.run env A s₁ m σ₁ _ _ E en ao R₁ F₁ q₁ fun lo pl σ₂ s₂ el R₂ S₂ q₂ => ?_
  refine hu.run env A s₂ m σ₂ _ _ E en ao R₂ (F₁.step R₁ S₂) q₂ fun hi pu σ₃ s₃ eu R₃ S₃ q₃ => ?_
  rw [evalPart_none]
  refine wpAny_pure (wpAny_bind (wpAny_standAt ?_))
  have va₃ := (va.keep (S₂.tupsN R₁)).keep (S₃.tupsN R₂)
  have S₁₃ := (S₁.trans S₂).trans S₃
  have Rs : RelG C σ₃ { s₃ with heap := s₃.heap.push { cls := .type "slice", data := .fields #[partValue pl, partValue pu, .none] } } := R₃.grow (tk := s₃.toks) push_old
  have part : ∀ p : Option (Int × Tok), IsPart (partValue p) (p.map (·.1)) := fun p => by
    cases p with
    | none => exact .none
    | some x => exact .int _ _
  have go : ∀ {T id : String} {o : Value} {s : Shared}, s.TypeIs o T → typeLookup (.type T) "__getitem__" = pure (some (.builtin id)) → ∀ {i : Value}, wpAny (model C.prog C.w) A (getItem o i) P E s →
      wpAny (model C.prog C.w) A ((getitemInPython o >>= fun b => subscripted (.Slice lower upper Option.none p) b o i) >>= fun r => letTemporaryGo value o r >>= fun _ => pure r) P E s := fun {T id o s} hT hl {i} hg => by
    refine wpAny_bind (wpAny_bind ?_)
    rw [getitemInPython_of_ne hT.not_modules]
    refine wpAny_bind (wpAny_specialOf hT hl (wpAny_pure ?_))
    show wpAny _ A (operate [i, o] (getItem o i)) _ _ _
    exact wpAny_operating (wpAny_mono hg (fun r s' hr => wpAny_bind (wpAny_letTemporaryGo (wpAny_pure hr))) fun _ _ x => x)
  have fin : ∀ {o i : Value} {s : Shared}, wpAny (model C.prog C.w) A ((getitemInPython o >>= fun b => subscripted (.Slice lower upper Option.none p) b o i) >>= fun r => letTemporaryGo value o r >>= fun _ => pure r) P E s →
      wpAny (model C.prog C.w) A (getitemInPython o >>= fun b => subscripted (.Slice lower upper Option.none p) b o i >>= fun r => letTemporaryGo value o r >>= fun _ => pure r) P E s := fun h => by rwa [bind_assoc] at h
  have pick : ∀ (ws : List Value), slicePick ws.toArray lo hi Option.none = (pyCut ws lo hi).toArray := fun ws => by
    rw [slicePick_plain]; simp [pyCut, clip]
  have lists : ∀ (a : Addr) (vs : List V) (ws : List Value), s₃.heap.IsList a ws.toArray → VRels C.aS s₃.heap vs ws → vs.length ≤ 16777216 → newL (pyCut vs lo hi) σ₃ Q →
      wpAny (model C.prog C.w) A (getitemInPython (.ref a) >>= fun b => subscripted (.Slice lower upper Option.none p) b (.ref a) (.ref s₃.heap.objs.size) >>= fun r => letTemporaryGo value (.ref a) r >>= fun _ => pure r) P E { s₃ with heap := s₃.heap.push { cls := .type "slice", data := .fields #[partValue pl, partValue pu, .none] } } := fun a vs ws hla hvs hz qn => by
    refine fin (go (hla.push _).typeIs slot_list_getitem.lookup (wpAny_getItem_list_slice (lo := lo) (hi := hi) (st := Option.none) (hla.push _) (Heap.IsSliceOf.new ..) (el ▸ part pl) (eu ▸ part pu) .none (by simp) ?_ (by rw [List.size_toArray, ← hvs.length, sizeLine_eq]; exact hz)))
    rw [pick]
    have hn := size_none (s₃.heap.push { cls := .type "slice", data := .fields #[partValue pl, partValue pu, .none] })
    refine hP _ _ (upd σ₃ _ (.list (pyCut vs lo hi))) _ (.ref _) (Rs.add (tk := s₃.toks) push_old hn ⟨Nat.le_trans (cut_len vs lo hi) hz, pyCut ws lo hi, ⟨_, Heap.get?_push_size _ rfl⟩, ?_⟩) ((S₁₃.trans .push).trans .addPush) (qn _ (Rs.freshNone hn))
    have := (hvs.cut (clip vs.length lo hi).1 (clip vs.length lo hi).2).keep (h' := (s₃.heap.push { cls := .type "slice", data := .fields #[partValue pl, partValue pu, .none] }).push { cls := .type "list", data := .seq (pyCut ws lo hi).toArray }) fun _ _ e _ => push_old _ _ (push_old _ _ e)
    have e2 : pyCut ws lo hi = (ws.drop (clip vs.length lo hi).1).take (clip vs.length lo hi).2 := by unfold pyCut; rw [hvs.length]
    rw [← e2] at this
    exact this
  show wpAny _ A (getitemInPython w >>= fun b => subscripted (.Slice lower upper Option.none p) b w (.ref s₃.heap.objs.size) >>= fun r => letTemporaryGo value w r >>= fun _ => pure r) P E _
  cases va₃ with
  | none => exact q₃.elim
  | bool => exact q₃.elim
  | int => exact q₃.elim
  | ty => exact q₃.elim
  | tup => exact q₃.elim
  | script =>
    obtain ⟨ws, h1, h2, h3⟩ := O.script
    have hl : s₃.heap.IsList C.aS ws.toList.toArray := by simpa using (h1.at fun o e => R₃.base _ _ e)
    have hvs : VRels C.aS s₃.heap (C.ns.map .int) ws.toList := by
      have : ∀ (ns : List Int) (l : List Value), l.length = ns.length → (∀ (i : Nat) n, ns[i]? = Option.some n → ∃ t, l[i]? = Option.some (Value.int n t)) → VRels C.aS s₃.heap (ns.map .int) l := by
        intro ns
        induction ns with
        | nil => intro l hl _; cases l with | nil => exact .nil | cons => simp at hl
        | cons n r ih => intro l hl h; cases l with
          | nil => simp at hl
          | cons w r' =>
            obtain ⟨t, ht⟩ := h 0 n rfl
            simp at ht; subst ht
            exact .cons (.int n t) (ih r' (by simpa using hl) fun i n hi => h (i + 1) n (by simpa using hi))
      exact this _ _ h2 h3
    refine lists _ _ _ hl hvs (by have := O.few; simp; omega) ?_
    have e : pyCut (C.ns.map V.int) lo hi = (pyCut C.ns lo hi).map .int := by unfold pyCut; simp [List.map_take, List.map_drop]
    rw [e]; exact q₃
  | ref a =>
    obtain ⟨xs, hx, qn⟩ := q₃
    obtain ⟨hz, ws, h1, h2⟩ := R₃.view a _ hx
    exact lists a xs ws h1.isList h2 hz qn
  | str x t =>
    obtain ⟨hx, q₃⟩ := q₃
    refine fin (go (typeIs_str _ x t) _root_.PySem.F.slot_str_getitem.lookup (wpAny_getItem_str_slice (l := pl) (u := pu) (st := Option.none) ⟨_, Heap.get?_push_size _ rfl, rfl, rfl⟩ rfl ?_))
    have e1 : slicePicked x pl pu Option.none = Builtin.Str.strSliceIndices lo hi 1 x.length := by unfold slicePicked; rw [el, eu]; rfl
    have e2 := strCut x lo hi
    unfold sliceMade
    rw [e1, e2]
    have res : ∀ t' tk, P (.str ⟨(pyCut x.cps.toList lo hi).toArray⟩ t') { s₃ with heap := s₃.heap.push { cls := .type "slice", data := .fields #[partValue pl, partValue pu, .none] }, toks := tk } := fun t' tk =>
      hP _ _ σ₃ _ (.str _ _) (R₃.grow push_old) (S₁₃.trans .push) q₃
    split
    · rename_i hc
      have hlen : (Builtin.Str.strSliceIndices lo hi 1 x.length).length = x.length := by simpa using hc
      have : (⟨(pyCut x.cps.toList lo hi).toArray⟩ : Str) = x := by
        have hh : (pyCut x.cps.toList lo hi) = x.cps.toList := by
          have l1 : (pyCut x.cps.toList lo hi).length = x.cps.toList.length := by
            have e : Builtin.Str.strSliceIndices lo hi 1 x.length = sliceRange ((lo.elim 0 (clipAt x.length) : Nat) : Int) ((hi.elim x.length (clipAt x.length) : Nat) : Int) 1 := by
              unfold Builtin.Str.strSliceIndices
              cases lo <;> cases hi <;> simp [clipAt_cast]
            rw [e, sliceRange_one] at hlen
            simp at hlen
            unfold pyCut clip
            have hxl : x.cps.toList.length = x.length := by simp [Str.length]
            rw [List.length_take, List.length_drop, hxl]
            dsimp only
            have hle : hi.elim x.length (clipAt x.length) ≤ x.length := by
              cases hi with
              | none => exact Nat.le_refl _
              | some i =>
                have := clipAt_cast x.length i
                simp only [Option.elim]
                omega
            omega
          unfold pyCut at l1 ⊢
          rw [List.length_take, List.length_drop] at l1
          have a0 : (clip x.cps.toList.length lo hi).1 = 0 ∨ x.cps.toList.length = 0 := by omega
          rcases a0 with a0 | a0
          · rw [a0] at l1 ⊢; rw [List.drop_zero]; exact List.take_of_length_le (by omega)
          · have : x.cps.toList = [] := List.length_eq_zero_iff.mp a0
            rw [this]; simp
        rw [hh]
      have r := res t s₃.toks
      rw [this] at r
      exact r
    · refine ⟨?_, res _ _⟩
      show (pyCut x.cps.toList lo hi).toArray.size ≤ sizeLine
      rw [List.size_toArray, sizeLine_eq]
      have := cut_len x.cps.toList lo hi
      have hxl : x.cps.toList.length = x.length := by simp [Str.length]
      omega
end
end Mine

end
section
set_option autoImplicit false
set_option linter.unusedVariables false
namespace Mine
open PySem

section
variable {C : Cx} {sc : Scope} {k : Nat}
/- the methods of built-in types -/
def eMeth (ty : V → View → Prop) (op : Spec) (T : ET) (L : LT) : ET := fun m σ Q => T m σ fun o σ₁ => ty o σ₁ ∧ L m σ₁ fun vs σ₂ => op (o :: vs) σ₂ Q
def TyOk (C : Cx) (T : String) (ty : V → View → Prop) : Prop := ∀ (o : V) (wo : Value) (σ : View) (s : Shared), RelG C σ s → VRel C.aS s.heap o wo → ty o σ → s.TypeIs wo T ∧ ∀ a, wo = .ref a → ∃ ob, s.heap.get? a = some ob ∧ ob.dict = Option.none
theorem HE.meth {T id : String} {name : Str} {o : Expr} {apos pos : Pos} {es : List Expr} {ty : V → View → Prop} {op : Spec} {To : ET} {L : LT} (hty : TyOk C T ty) (pa : PlainAttrs T) (slot : Slot T name id) (hmd : typeOf (.builtin id) = pure (.type "method_descriptor"))
    (hop : OpN C k (fun ws => PySem.call (.builtin id) ws) op) (ho : HE C sc k o To) (hl : HL C sc k es L) (hp : plainArgs es = true)
    (hbase : ∀ env, attributeBase o name env (eval o env) = eval o env) (hline : (apos.endLine == pos.line) = true) (hfew : es.length < 30) : HE C sc k (.Call (.Attribute o name apos) es [] pos) (eMeth ty op To L) := by
  refine ⟨?_⟩; intro env A s m σ Q P E en ao R F q hP
  have hall : (backTo pos (starEach es env)).all (fun x => !x.1) = true := by
    have := starEach_any (env := env) (pos := pos) hp
    rw [List.any_eq_false] at this
    rw [List.all_eq_true]
    intro x hx
    have := this x hx
    simp at this
    simp [this]
  refine wpAny_Call_method (hbase env) (by rw [hall]; simp [backToKw, keywordEach]; omega) hline pa slot hmd ?_
  refine ho.run env A s m σ _ _ E en ao R F q fun v w σ₁ s₁ hv R₁ S₁ q₁ => ?_
  obtain ⟨h1, h2⟩ := hty v w σ₁ s₁ R₁ hv q₁.1
  refine ⟨h1, h2, Calls.callWith_builtin (starEach_any hp) (evalArgs_of hp (hl.run env A s₁ m σ₁ pos _ _ E en ao R₁ (F.step R S₁) q₁.2 fun vs ws σ₂ s₂ hvs R₂ S₂ q₂ => ?_))⟩
  exact hop A s₂ σ₂ (v :: vs) (w :: ws) Q P E ao R₂ (.cons (hv.keep (S₂.tupsN R₁)) hvs) q₂ fun v' w' σ' s' hv' R' S' q' => hP v' w' σ' s' hv' R' ((S₁.trans S₂).trans S') q'
def tyStr : V → View → Prop
  | .str _, _ => True
  | _, _ => False
theorem tyStr_ok : TyOk C "str" tyStr := by
  intro o wo σ s R hv h
  cases hv <;> first | exact h.elim | skip
  exact ⟨typeIs_str _ _ _, fun a e => by cases e⟩
def tyList : V → View → Prop
  | .ref a, σ => ∃ xs, σ a = some (.list xs)
  | _, _ => False
theorem tyList_ok : TyOk C "list" tyList := by
  intro o wo σ s R hv h
  cases hv <;> first | exact h.elim | skip
  obtain ⟨xs, hx⟩ := h
  obtain ⟨_, ws, h1, h2⟩ := R.view _ _ hx
  refine ⟨h1.isList.typeIs, fun b e => ?_⟩
  cases e
  obtain ⟨n, hn⟩ := h1
  exact ⟨_, hn, rfl⟩

theorem VRels.inv1 {aS : Addr} {h : Heap} {a : V} {ws : List Value} (x : VRels aS h [a] ws) : ∃ wa, ws = [wa] ∧ VRel aS h a wa := by
  cases x with
  | cons h1 r => cases r; exact ⟨_, rfl, h1⟩
theorem VRels.inv2 {aS : Addr} {h : Heap} {a b : V} {ws : List Value} (x : VRels aS h [a, b] ws) : ∃ wa wb, ws = [wa, wb] ∧ VRel aS h a wa ∧ VRel aS h b wb := by
  cases x with
  | cons h1 r => obtain ⟨wb, rfl, h2⟩ := r.inv1; exact ⟨_, _, rfl, h1, h2⟩
/- texts -/
def spStarts : Spec
  | [.str x, .str y], σ, Q => Q (.bool (Txt.startswith x y)) σ
  | _, _, _ => False
theorem ok_starts : OpN C k (fun ws => PySem.call (.builtin "str.startswith") ws) spStarts := by
  intro A s σ vs ws Q P E ao R hv q hP
  unfold spStarts at q
  split at q
  · obtain ⟨wa, wb, rfl, h1, h2⟩ := hv.inv2
    cases h1; cases h2
    exact SC.startswith (hP _ _ σ s (.bool _) R Step.refl q)
  · exact q.elim
theorem strs_of {aS : Addr} {h : Heap} : ∀ {ys : List Str} {ws : List Value}, VRels aS h (ys.map .str) ws → ∃ l : List (Str × Tok), ws = strValues l ∧ l.map (·.1) = ys
  | [], _, .nil => ⟨[], rfl, rfl⟩
  | y :: ys, _, .cons (.str _ t) r => by
    obtain ⟨l, rfl, rfl⟩ := strs_of r
    exact ⟨(y, t) :: l, rfl, rfl⟩
theorem strs_rel {aS : Addr} {h : Heap} : ∀ (l : List (Str × Tok)), VRels aS h ((l.map (·.1)).map .str) (strValues l)
  | [] => .nil
  | (x, t) :: l => .cons (.str x t) (strs_rel l)
/-- sep.join of a list of texts -/
def spJoin : Spec
  | [.str x, .ref a], σ, Q => ∃ ys : List Str, σ a = some (.list (ys.map .str)) ∧ (ys.map (·.length)).sum + ys.length * x.length ≤ 16777216 ∧ Q (.str (Str.join x ys)) σ
  | _, _, _ => False
theorem foldl_len (x : Str) : ∀ (l : List Str) (n : Nat), l.foldl (fun a y => a + y.length + x.length) n = n + (l.map (·.length)).sum + l.length * x.length
  | [], n => by simp
  | y :: r, n => by
    rw [List.foldl_cons, foldl_len x r]
    simp [Nat.add_mul]; omega
theorem glued_join (x : Str) : ∀ ys : List Str, Builtin.Str.glued x ys = Str.join x ys := by
  have key : ∀ (r : List Str) (acc : Array Nat), (⟨r.foldl (fun acc p => acc ++ x.cps ++ p.cps) acc⟩ : Str) = match r with | [] => ⟨acc⟩ | _ => (⟨acc⟩ : Str) ++ x ++ Str.join x r := by
    intro r
    induction r with
    | nil => intro acc; rfl
    | cons y r ih =>
      intro acc
      rw [List.foldl_cons, ih]
      cases r with
      | nil => rfl
      | cons z r => 
        show (⟨acc ++ x.cps ++ y.cps⟩ : Str) ++ x ++ Str.join x (z :: r) = (⟨acc⟩ : Str) ++ x ++ (y ++ x ++ Str.join x (z :: r))
        have : ∀ a b : Str, a ++ b = ⟨a.cps ++ b.cps⟩ := fun _ _ => rfl
        simp only [this, Array.append_assoc]
  intro ys
  cases ys with
  | nil => rfl
  | cons y r =>
    unfold Builtin.Str.glued
    simp only [List.drop_one, List.tail_cons, List.headD_cons]
    rw [key]
    cases r with
    | nil => rfl
    | cons z r => rfl
theorem ok_join : OpN C k (fun ws => PySem.call (.builtin "str.join") ws) spJoin := by
  intro A s σ vs ws Q P E ao R hv q hP
  unfold spJoin at q
  split at q
  · rename_i x a
    obtain ⟨wa, wb, rfl, h1, h2⟩ := hv.inv2
    cases h1; cases h2
    obtain ⟨ys, hy, hl, q⟩ := q
    obtain ⟨_, ws, h3, h4⟩ := R.view a _ hy
    obtain ⟨l, rfl, e⟩ := strs_of h4
    refine SC.join (texts := ys) h3.isList e ?_ fun t' tk => ?_
    · unfold JoinOk Builtin.Str.tooLong
      rw [← Array.foldl_toList, foldl_len]
      rw [sizeLine_eq]
      simp
      omega
    · have : Txt.join x ys = Str.join x ys := glued_join x ys
      rw [this]
      exact hP _ _ σ _ (.str _ _) (R.tok _) Step.refl q
  · exact q.elim
/-- x.split(y) -/
def spSplit : Spec
  | [.str x, .str y], σ, Q => (y.length = 1 ∧ x.length ≤ 1048576) ∧ newL ((Txt.split x y).map .str) σ Q
  | _, _, _ => False
theorem push_list {A : Around} {s : Shared} {σ : View} {xs : List V} {ws : List Value} {tk : Nat} {Q : V → View → Prop} {P : Value → Shared → Prop} (R : RelG C σ s) (hv : VRels C.aS s.heap xs ws) (hz : xs.length ≤ 16777216) (q : newL xs σ Q) (hP : Aft C σ s Q P) :
    P (.ref s.heap.objs.size) { s with heap := s.heap.push { cls := .type "list", data := .seq ws.toArray }, toks := tk } := by
  have hn := size_none s.heap
  exact hP _ _ (upd σ s.heap.objs.size (.list xs)) _ (.ref _) (R.add (tk := tk) push_old hn ⟨hz, ws, ⟨_, Heap.get?_push_size _ rfl⟩, hv.keep fun _ _ e _ => push_old _ _ e⟩) .addPush (q _ (R.freshNone hn))
theorem ok_split : OpN C k (fun ws => PySem.call (.builtin "str.split") ws) spSplit := by
  intro A s σ vs ws Q P E ao R hv q hP
  unfold spSplit at q
  split at q
  · rename_i x y
    obtain ⟨wa, wb, rfl, h1, h2⟩ := hv.inv2
    cases h1 with | str _ t => cases h2 with | str _ u =>
    obtain ⟨⟨hy, hx⟩, q⟩ := q
    have hy0 : (y.length == 0) = false := by simp [hy]
    have hsz : (Builtin.Str.partsBetween x (Builtin.Str.occurrences x y 0 x.length (x.length + 1)) y.length).length ≤ 1048578 := by
      rw [length_partsBetween]
      have := StrLaws.occ_length_le x y 0 x.length (x.length + 1)
      omega
    have single : Txt.split x y = [x] → P (.ref s.heap.objs.size) { s with heap := s.heap.push { cls := .type "list", data := .seq [Value.str x t].toArray } } := fun e => by
      rw [e] at q
      exact push_list (A := A) (tk := s.toks) R (.cons (.str x t) .nil) (by simp) q hP
    cases h1 : (decide (x.length < y.length) || decide (Builtin.Str.strKind x < Builtin.Str.strKind y))
    · cases hf : (Builtin.Str.occurrences x y 0 x.length (x.length + 1)).isEmpty
      · refine call_meets _root_.PySem.F.slot_str_split (typeIs_str _ _ _) _root_.PySem.F.entry_str_split (_root_.PySem.F.args_str_split_2 _ _) (meets_str_split_sep x y t u h1 hy0 hf (by rw [sizeLine_eq]; omega) (by rw [sizeLine_eq]; omega)) ?_
        have e : Txt.split x y = Builtin.Str.partsBetween x (Builtin.Str.occurrences x y 0 x.length (x.length + 1)) y.length := by unfold Txt.split; rw [h1, hf]; rfl
        rw [e] at q
        show wants P E _ { s with toks := _, heap := s.heap.push { cls := .type "list", data := .seq (strsFrom s.toks (Builtin.Str.partsBetween x (Builtin.Str.occurrences x y 0 x.length (x.length + 1)) y.length)).toArray } }
        rw [strsFrom_eq]
        refine push_list (A := A) R ?_ (by rw [List.length_map]; omega) q hP
        have := strs_rel (aS := C.aS) (h := s.heap) (numbered s.toks (Builtin.Str.partsBetween x (Builtin.Str.occurrences x y 0 x.length (x.length + 1)) y.length))
        rw [numbered_texts] at this
        exact this
      · exact call_meets _root_.PySem.F.slot_str_split (typeIs_str _ _ _) _root_.PySem.F.entry_str_split (_root_.PySem.F.args_str_split_2 _ _) (meets_str_split_not_found x y t u h1 hy0 hf) (single (by unfold Txt.split; rw [h1, hf]; rfl))
    · exact call_meets _root_.PySem.F.slot_str_split (typeIs_str _ _ _) _root_.PySem.F.entry_str_split (_root_.PySem.F.args_str_split_2 _ _) (meets_str_split_cannot_occur x y t u h1) (single (by unfold Txt.split; rw [h1]; rfl))
  · exact q.elim
/- lengths -/
def spLen (ns : List Int) : Spec
  | [.str x], σ, Q => x.length ≤ 16777216 ∧ Q (.int x.length) σ
  | [.ref a], σ, Q => match σ a with
    | some (.list xs) => Q (.int xs.length) σ
    | some (.dict kvs _) => Q (.int kvs.length) σ
    | some (.idict kvs _) => Q (.int kvs.length) σ
    | Option.none => False
  | [.tup vs], σ, Q => vs.length ≤ 16777216 ∧ Q (.int vs.length) σ
  | [.script], σ, Q => Q (.int ns.length) σ
  | _, _, _ => False
theorem ok_len (O : C.Ok) : OpN C k (fun ws => PySem.call (.builtin "len") ws) (spLen C.ns) := by
  intro A s σ vs ws Q P E ao R hv q hP
  unfold spLen at q
  split at q
  · obtain ⟨wa, rfl, h1⟩ := hv.inv1
    cases h1
    exact _root_.PySem.P.len_str (by omega) (hP _ _ σ _ (.int _ _) (R.tok _) Step.refl q.2)
  · obtain ⟨wa, rfl, h1⟩ := hv.inv1
    cases h1
    split at q
    · rename_i hx
      obtain ⟨hz, ws, h1, h2⟩ := R.view _ _ hx
      have e := h2.length
      refine Calls.call_len_list h1.isList (by rw [List.size_toArray, ← e]; omega) ?_
      rw [List.size_toArray, ← e]
      exact hP _ _ σ _ (.int _ _) (R.tok _) Step.refl q
    · rename_i hx
      obtain ⟨hz, ws, h1, h2⟩ := R.view _ _ hx
      have e := h2.length
      refine call_len_dict (O.noMods (R.apart _ (by rw [hx]; simp))) h1.dictOf (by rw [← e]; omega) ?_
      rw [← e]
      exact hP _ _ σ _ (.int _ _) (R.tok _) Step.refl q
    · rename_i hx
      obtain ⟨hz, ws, h1, h2⟩ := R.view _ _ hx
      have e := h2.length
      refine call_len_dict (O.noMods (R.apart _ (by rw [hx]; simp))) h1.dictOf (by rw [← e]; omega) ?_
      rw [← e]
      exact hP _ _ σ _ (.int _ _) (R.tok _) Step.refl q
    · exact q.elim
  · obtain ⟨wa, rfl, h1⟩ := hv.inv1
    cases h1 with
    | @tup _ a ws ht hvs =>
      have e := hvs.length
      refine PyProof.Rows.len_tuple (show PyProof.Rows.IsTup s.heap a ws.toArray from ht) (by rw [List.size_toArray, ← e]; omega) ?_
      rw [List.size_toArray, ← e]
      exact hP _ _ σ _ (.int _ _) (R.tok _) Step.refl q.2
  · obtain ⟨wa, rfl, h1⟩ := hv.inv1
    cases h1
    obtain ⟨ws, h1, h2, h3⟩ := O.script
    have hl : s.heap.IsList C.aS ws := h1.at fun o e => R.base _ _ e
    have e : (ws.size : Int) = C.ns.length := by rw [← h2]; simp
    refine Calls.call_len_list hl (by rw [e]; have := O.few; omega) ?_
    rw [e]
    exact hP _ _ σ _ (.int _ _) (R.tok _) Step.refl q
  · exact q.elim
/- isinstance of a built-in type -/
def isi : V → View → String → Option Bool
  | .bool _, _, T => if T = "bool" then some true else if T = "int" then some true else if T ∈ ["str", "list", "dict", "tuple"] then some false else Option.none
  | .int _, _, T => if T = "int" then some true else if T ∈ ["bool", "str", "list", "dict", "tuple"] then some false else Option.none
  | .str _, _, T => if T = "str" then some true else if T ∈ ["bool", "int", "list", "dict", "tuple"] then some false else Option.none
  | .tup _, _, T => if T = "tuple" then some true else if T ∈ ["bool", "int", "list", "dict", "str"] then some false else Option.none
  | .ref a, σ, T => match σ a with
    | some (.list _) => if T = "list" then some true else if T ∈ ["bool", "int", "tuple", "dict", "str"] then some false else Option.none
    | some (.dict _ _) => if T = "dict" then some true else if T ∈ ["bool", "int", "tuple", "list", "str"] then some false else Option.none
    | _ => Option.none
  | _, _, _ => Option.none
def spIsi : Spec
  | [v, .ty T], σ, Q => ∃ r, isi v σ T = some r ∧ Q (.bool r) σ
  | _, _, _ => False
theorem ok_isi : OpN C k (fun ws => PySem.call (.builtin "isinstance") ws) spIsi := by
  intro A s σ vs ws Q P E ao R hv q hP
  unfold spIsi at q
  split at q
  · rename_i v T
    obtain ⟨wa, wb, rfl, h1, h2⟩ := hv.inv2
    cases h2
    obtain ⟨r, hr, q⟩ := q
    have p0 : r = true → P (.bool true) s := fun e => hP _ _ σ _ (.bool true) R Step.refl (e ▸ q)
    have p1 : r = false → P (.bool false) { s with toks := s.toks + 1 } := fun e => hP _ _ σ _ (.bool false) (R.tok _) Step.refl (e ▸ q)
    unfold isi at hr
    split at hr
    · cases h1
      split at hr
      · rename_i e; subst e; cases hr; exact IsiPair.bool_bool (p0 rfl)
      · split at hr
        · rename_i e; subst e; cases hr; exact IsiPair.bool_int (p0 rfl)
        · split at hr
          · rename_i e; cases hr
            simp only [List.mem_cons, List.not_mem_nil, or_false] at e
            rcases e with rfl | rfl | rfl | rfl
            · exact IsiPair.bool_str (p1 rfl)
            · exact IsiPair.bool_list (p1 rfl)
            · exact IsiPair.bool_dict (p1 rfl)
            · exact IsiPair.bool_tuple (p1 rfl)
          · cases hr
    · cases h1
      split at hr
      · rename_i e; subst e; cases hr; exact IsiPair.int_int (p0 rfl)
      · split at hr
        · rename_i e; cases hr
          simp only [List.mem_cons, List.not_mem_nil, or_false] at e
          rcases e with rfl | rfl | rfl | rfl | rfl
          · exact IsiPair.int_bool (p1 rfl)
          · exact IsiPair.int_str (p1 rfl)
          · exact IsiPair.int_list (p1 rfl)
          · exact IsiPair.int_dict (p1 rfl)
          · exact IsiPair.int_tuple (p1 rfl)
        · cases hr
    · cases h1
      split at hr
      · rename_i e; subst e; cases hr; exact IsiPair.str_str (p0 rfl)
      · split at hr
        · rename_i e; cases hr
          simp only [List.mem_cons, List.not_mem_nil, or_false] at e
          rcases e with rfl | rfl | rfl | rfl | rfl
          · exact IsiPair.str_bool (p1 rfl)
          · exact IsiPair.str_int (p1 rfl)
          · exact IsiPair.str_list (p1 rfl)
          · exact IsiPair.str_dict (p1 rfl)
          · exact IsiPair.str_tuple (p1 rfl)
        · cases hr
    · cases h1 with
      | @tup _ a ws ht hvs =>
      obtain ⟨o, ho, hc, _⟩ := ht
      split at hr
      · rename_i e; subst e; cases hr; exact IsiPair.tuple_tuple ho hc (p0 rfl)
      · split at hr
        · rename_i e; cases hr
          simp only [List.mem_cons, List.not_mem_nil, or_false] at e
          rcases e with rfl | rfl | rfl | rfl | rfl
          · exact IsiPair.tuple_bool ho hc (p1 rfl)
          · exact IsiPair.tuple_int ho hc (p1 rfl)
          · exact IsiPair.tuple_list ho hc (p1 rfl)
          · exact IsiPair.tuple_dict ho hc (p1 rfl)
          · exact IsiPair.tuple_str ho hc (p1 rfl)
        · cases hr
    · cases h1
      split at hr
      · rename_i hx
        obtain ⟨hz, ws, ⟨n, hn⟩, h2⟩ := R.view _ _ hx
        split at hr
        · rename_i e; subst e; cases hr; exact IsiPair.list_list hn rfl (p0 rfl)
        · split at hr
          · rename_i e; cases hr
            simp only [List.mem_cons, List.not_mem_nil, or_false] at e
            rcases e with rfl | rfl | rfl | rfl | rfl
            · exact IsiPair.list_bool hn rfl (p1 rfl)
            · exact IsiPair.list_int hn rfl (p1 rfl)
            · exact IsiPair.list_tuple hn rfl (p1 rfl)
            · exact IsiPair.list_dict hn rfl (p1 rfl)
            · exact IsiPair.list_str hn rfl (p1 rfl)
          · cases hr
      · rename_i hx
        obtain ⟨hz, ws, ⟨o, es, hn, hc, _⟩, h2⟩ := R.view _ _ hx
        split at hr
        · rename_i e; subst e; cases hr; exact IsiPair.dict_dict hn hc.1 (p0 rfl)
        · split at hr
          · rename_i e; cases hr
            simp only [List.mem_cons, List.not_mem_nil, or_false] at e
            rcases e with rfl | rfl | rfl | rfl | rfl
            · exact IsiPair.dict_bool hn hc.1 (p1 rfl)
            · exact IsiPair.dict_int hn hc.1 (p1 rfl)
            · exact IsiPair.dict_tuple hn hc.1 (p1 rfl)
            · exact IsiPair.dict_list hn hc.1 (p1 rfl)
            · exact IsiPair.dict_str hn hc.1 (p1 rfl)
          · cases hr
      · cases hr
    · cases hr
  · exact q.elim
/- min, max of two ints; int of a bool; str of an int -/
def spMin : Spec
  | [.int a, .int b], σ, Q => Q (.int (min a b)) σ
  | _, _, _ => False
def spMax : Spec
  | [.int a, .int b], σ, Q => Q (.int (max a b)) σ
  | _, _, _ => False
theorem ok_min : OpN C k (fun ws => PySem.call (.builtin "min") ws) spMin := by
  intro A s σ vs ws Q P E ao R hv q hP
  unfold spMin at q
  split at q
  · rename_i a b
    obtain ⟨wa, wb, rfl, h1, h2⟩ := hv.inv2
    cases h1; cases h2
    refine with_size (min_two_ints ao.handled fun h' tk hk hz => ?_)
    have R' : RelG C σ { s with heap := h', toks := tk } := R.grow hk
    have S' : Step no σ σ s.heap h' := .grow hk hz
    by_cases c : b < a
    · rw [if_pos c]; exact hP _ _ σ _ (.int _ _) R' S' (by rwa [Int.min_eq_right (by omega)] at q)
    · rw [if_neg c]; exact hP _ _ σ _ (.int _ _) R' S' (by rwa [Int.min_eq_left (by omega)] at q)
  · exact q.elim
theorem ok_max : OpN C k (fun ws => PySem.call (.builtin "max") ws) spMax := by
  intro A s σ vs ws Q P E ao R hv q hP
  unfold spMax at q
  split at q
  · rename_i a b
    obtain ⟨wa, wb, rfl, h1, h2⟩ := hv.inv2
    cases h1; cases h2
    refine with_size (max_two_ints ao.handled fun h' tk hk hz => ?_)
    have R' : RelG C σ { s with heap := h', toks := tk } := R.grow hk
    have S' : Step no σ σ s.heap h' := .grow hk hz
    by_cases c : b > a
    · rw [if_pos c]; exact hP _ _ σ _ (.int _ _) R' S' (by rwa [Int.max_eq_right (by omega)] at q)
    · rw [if_neg c]; exact hP _ _ σ _ (.int _ _) R' S' (by rwa [Int.max_eq_left (by omega)] at q)
  · exact q.elim
def spInt : Spec
  | [.bool b], σ, Q => Q (.int (if b then 1 else 0)) σ
  | _, _, _ => False
theorem ok_int : OpN C k (fun ws => PySem.call (.type "int") ws) spInt := by
  intro A s σ vs ws Q P E ao R hv q hP
  unfold spInt at q
  split at q
  · obtain ⟨wa, rfl, h1⟩ := hv.inv1
    cases h1
    exact call_int_bool (hP _ _ σ _ (.int _ _) (R.tok _) Step.refl q)
  · exact q.elim
def spStr : Spec
  | [.int i], σ, Q => i.natAbs.log2 < 1920 ∧ Q (.str (Str.ofString (toString i))) σ
  | _, _, _ => False
theorem ok_str : OpN C k (fun ws => PySem.call (.type "str") ws) spStr := by
  intro A s σ vs ws Q P E ao R hv q hP
  unfold spStr at q
  split at q
  · obtain ⟨wa, rfl, h1⟩ := hv.inv1
    cases h1
    exact _root_.PySem.P.str_of_int q.1 (hP _ _ σ _ (.str _ _) (R.tok _) Step.refl q.2)
  · exact q.elim
end
end Mine

end
section
set_option autoImplicit false
set_option linter.unusedVariables false
namespace Mine
open PySem

section
variable {C : Cx} {sc : Scope} {k : Nat}
/- + -/
def opAdd : O2
  | .int x, .int y, σ, Q => Q (.int (x + y)) σ
  | .str x, .str y, σ, Q => x.length + y.length ≤ 16777216 ∧ Q (.str (x ++ y)) σ
  | .ref a, .ref b, σ, Q => ∃ xs ys, σ a = some (.list xs) ∧ σ b = some (.list ys) ∧ xs.length + ys.length ≤ 16777216 ∧ newL (xs ++ ys) σ Q
  | _, _, _, _ => False
theorem ok_add : Op2 C k (binaryOp .Add) opAdd := by
  intro A s σ a b wa wb Q P E ao R va vb q hP
  cases a <;> first | exact q.elim | skip
  all_goals (cases b <;> first | exact q.elim | skip)
  · cases va; cases vb
    exact _root_.PySem.P.add_int (hP _ _ σ _ (.int _ _) (R.tok _) Step.refl q)
  · cases va; cases vb
    exact SB.add (fun t' tk => hP _ _ σ _ (.str _ _) (R.tok _) Step.refl q.2) (by rw [sizeLine_eq]; exact q.1)
  · rename_i a b
    cases va; cases vb
    obtain ⟨xs, ys, hx, hy, hz, q⟩ := q
    obtain ⟨_, ws, ⟨n, h1⟩, h2⟩ := R.view _ _ hx
    obtain ⟨_, us, ⟨n', h3⟩, h4⟩ := R.view _ _ hy
    have e1 := h2.length
    have e2 := h4.length
    have e : ws.toArray ++ us.toArray = (ws ++ us).toArray := by simp
    refine concat_meets ⟨_, h1, rfl⟩ ⟨_, h3, rfl⟩ noFill_list_add seq_list_add _root_.PySem.F.slot_list_add _root_.PySem.F.entry_list_add (_root_.PySem.F.args_list_add_2 _ _)
      (PyProof.Rows.list_addW a b ws.toArray us.toArray n n' Option.none Option.none #[] #[] (by rw [List.size_toArray, List.size_toArray, sizeLine_eq]; omega)) ⟨h1, h3, ?_⟩
    rw [e]
    exact push_list (A := A) (tk := s.toks) R (h2.append h4) (by rw [List.length_append]; exact hz) q hP
/- equality, deep -/
def all2 (f : V → V → Option Bool) : List V → List V → Option Bool
  | [], [] => some true
  | a :: as, b :: bs => match f a b, all2 f as bs with
    | some x, some y => some (x && y)
    | _, _ => Option.none
  | _, _ => Option.none
def veqN : Nat → View → V → V → Option Bool
  | 0, _, a, b => veq0 a b
  | n + 1, σ, .tup xs, .tup ys => if xs.length = ys.length then all2 (veqN n σ) xs ys else Option.none
  | n + 1, σ, .ref a, .ref b => match σ a, σ b with
    | some (.list xs), some (.list ys) => if xs.length = ys.length then all2 (veqN n σ) xs ys else some false
    | _, _ => Option.none
  | _ + 1, _, a, b => veq0 a b
theorem eqAt0 {A : Around} {s : Shared} {a b : V} {wa wb : Value} {r : Bool} (h : veq0 a b = some r) (va : VRel C.aS s.heap a wa) (vb : VRel C.aS s.heap b wb) : SeqAt.EqAt A s wa wb r := by
  unfold veq0 at h
  split at h <;> cases h <;> cases va <;> cases vb
  · exact SeqAt.EqAt.same _
  · exact SeqAt.EqAt.none_str _ _
  · exact SeqAt.EqAt.str_none _ _
  · exact SeqAt.EqAt.bool_bool _ _
  · rw [← beq_dec]; exact SeqAt.EqAt.int_int _ _ _ _
  · rw [← beq_dec]; exact SeqAt.EqAt.str_str _ _ _ _
theorem all2_len {f : V → V → Option Bool} : ∀ {as bs : List V} {r : Bool}, all2 f as bs = some r → as.length = bs.length
  | [], [], _, _ => rfl
  | a :: as, b :: bs, r, h => by
    unfold all2 at h
    split at h
    · rename_i h2; simp [all2_len h2]
    · cases h
  | [], _ :: _, _, h => by cases h
  | _ :: _, [], _, h => by cases h
theorem all2_get {f : V → V → Option Bool} : ∀ {as bs : List V} {r : Bool}, all2 f as bs = some r → ∃ e : Nat → Bool, (List.range as.length).all e = r ∧ ∀ (j : Nat) a b, as[j]? = some a → bs[j]? = some b → f a b = some (e j)
  | [], [], r, h => by cases h; exact ⟨fun _ => true, rfl, fun j a b h => by simp at h⟩
  | a :: as, b :: bs, r, h => by
    unfold all2 at h
    split at h
    · rename_i x y h1 h2
      cases h
      obtain ⟨e, he, hg⟩ := all2_get h2
      refine ⟨fun j => match j with | 0 => x | j + 1 => e j, ?_, fun j a' b' ha hb => ?_⟩
      · rw [List.length_cons, List.range_succ_eq_map, List.all_cons, List.all_map]
        simp only [Function.comp_def]
        rw [he]
      · cases j with
        | zero => simp at ha hb; subst ha hb; exact h1
        | succ j => exact hg j a' b' (by simpa using ha) (by simpa using hb)
    · cases h
  | [], _ :: _, _, h => by cases h
  | _ :: _, [], _, h => by cases h
theorem veq0_self {s : Shared} {a b : V} {w : Value} {r : Bool} (h : veq0 a b = some r) (va : VRel C.aS s.heap a w) (vb : VRel C.aS s.heap b w) : r = true := by
  unfold veq0 at h
  split at h <;> cases h <;> cases va <;> cases vb <;> simp
theorem all2_true {f : V → V → Option Bool} {s : Shared} (hf : ∀ a b w r, f a b = some r → VRel C.aS s.heap a w → VRel C.aS s.heap b w → r = true) : ∀ {as bs : List V} {ws : List Value} {r : Bool}, all2 f as bs = some r → VRels C.aS s.heap as ws → VRels C.aS s.heap bs ws → r = true
  | [], [], _, r, h, _, _ => by cases h; rfl
  | a :: as, b :: bs, _ :: _, r, h, .cons va ra, .cons vb rb => by
    unfold all2 at h
    split at h
    · rename_i h1 h2
      cases h
      rw [hf _ _ _ _ h1 va vb, all2_true hf h2 ra rb]; rfl
    · cases h
  | [], _ :: _, _, _, h, _, _ => by cases h
  | _ :: _, [], _, _, h, _, _ => by cases h
theorem veqN_self {σ : View} {s : Shared} (R : RelG C σ s) : ∀ (n : Nat) (a b : V) (w : Value) (r : Bool), veqN n σ a b = some r → VRel C.aS s.heap a w → VRel C.aS s.heap b w → r = true
  | 0, a, b, w, r, h, va, vb => veq0_self h va vb
  | n + 1, a, b, w, r, h, va, vb => by
    cases a <;> cases b <;> simp only [veqN] at h <;> first | exact veq0_self h va vb | skip
    · rename_i p q
      cases va; cases vb
      split at h
      · rename_i xs ys hx hy
        rw [hx] at hy; cases hy
        obtain ⟨_, ws, h1, h2⟩ := R.view _ _ hx
        rw [if_pos rfl] at h
        exact all2_true (veqN_self R n) h h2 h2
      · cases h
    · rename_i xs ys
      split at h
      · cases va with | @tup _ p ws ht hvs => cases vb with | @tup _ _ us ht' hus =>
        obtain ⟨o, ho, _, n1, hd⟩ := ht
        obtain ⟨o', ho', _, n2, hd'⟩ := ht'
        rw [ho] at ho'; cases ho'
        rw [hd] at hd'
        injection hd' with e1 _
        have e2 : ws = us := by simpa using congrArg Array.toList e1
        subst e2
        exact all2_true (veqN_self R n) h hvs hus
      · cases h
theorem rcAt {σ : View} {s : Shared} (R : RelG C σ s) : ∀ (n : Nat) {A : Around} {a b : V} {wa wb : Value} {r : Bool}, veqN n σ a b = some r → VRel C.aS s.heap a wa → VRel C.aS s.heap b wb → A.units + n < cLine →
    (veq0 a b = some r) ∨ ∃ p q, wa = .ref p ∧ wb = .ref q ∧ SeqAt.RcAt A s (.ref p) (.ref q) r
  | 0, A, a, b, wa, wb, r, h, va, vb, hu => .inl h
  | n + 1, A, a, b, wa, wb, r, h, va, vb, hu => by
    have elem : ∀ {xs ys : List V} {ws us : List Value} {r : Bool}, all2 (veqN n σ) xs ys = some r → VRels C.aS s.heap xs ws → VRels C.aS s.heap ys us →
        ∃ e : Nat → Bool, (List.range ws.toArray.size).all e = r ∧ (∀ j (h1 : j < ws.toArray.size) (h2 : j < us.toArray.size), SeqAt.EqAt A.in1 s ws.toArray[j] us.toArray[j] (e j)) := fun {xs ys ws us r} h hx hy => by
      obtain ⟨e, he, hg⟩ := all2_get h
      refine ⟨e, by rw [List.size_toArray, ← hx.length]; exact he, fun j h1 h2 => ?_⟩
      rw [List.size_toArray] at h1 h2
      obtain ⟨x, hx1, hx2⟩ := hx.get' (i := j) (w := ws[j]) (by simp [h1])
      obtain ⟨y, hy1, hy2⟩ := hy.get' (i := j) (w := us[j]) (by simp [h2])
      have hj := hg j x y hx1 hy1
      simp only [List.getElem_toArray]
      rcases rcAt R n (A := A.in1) hj hx2 hy2 (by show A.units + 1 + n < _; omega) with z | ⟨p, q, e1, e2, hr⟩
      · exact eqAt0 z hx2 hy2
      · rw [e1] at hx2 ⊢
        rw [e2] at hy2 ⊢
        by_cases hne : p = q
        · subst hne; rw [veqN_self R n x y _ _ hj hx2 hy2]; exact SeqAt.EqAt.same _
        · exact SeqAt.EqAt.of_refs hne hr
    cases a <;> cases b <;> simp only [veqN] at h <;> first | exact .inl h | skip
    · rename_i p q
      cases va; cases vb
      split at h
      · rename_i xs ys hx hy
        obtain ⟨_, ws, h1, h2⟩ := R.view _ _ hx
        obtain ⟨_, us, h3, h4⟩ := R.view _ _ hy
        split at h
        · rename_i hl
          obtain ⟨e, he, hg⟩ := elem h h2 h4
          refine .inr ⟨p, q, rfl, rfl, ?_⟩
          have := SeqAt.RcAt.lists (e := e) h1.isList h3.isList (by rw [List.size_toArray, List.size_toArray, ← h2.length, ← h4.length]; exact hl) (by omega : A.units < cLine) hg
          rw [he] at this
          exact this
        · rename_i hl
          cases h
          exact .inr ⟨p, q, rfl, rfl, SeqAt.RcAt.lists_lengths h1.isList h3.isList (by rw [List.size_toArray, List.size_toArray, ← h2.length, ← h4.length]; simpa using hl) (by omega)⟩
      · cases h
    · rename_i xs ys
      split at h
      · rename_i hl
        cases va with | @tup _ p ws ht hvs => cases vb with | @tup _ q us ht' hus =>
        obtain ⟨e, he, hg⟩ := elem h hvs hus
        refine .inr ⟨p, q, rfl, rfl, ?_⟩
        have := SeqAt.RcAt.tuples (e := e) ht ht' (by omega : A.units < cLine) hg
        have hlen : ws.length = us.length := by rw [← hvs.length, ← hus.length]; exact hl
        rw [show min ws.toArray.size us.toArray.size = ws.toArray.size by simp [hlen], he, show (ws.toArray.size == us.toArray.size) = true by simp [hlen], Bool.and_true] at this
        exact this
      · cases h
theorem eqAtN {σ : View} {s : Shared} (R : RelG C σ s) {n : Nat} {A : Around} {a b : V} {wa wb : Value} {r : Bool} (h : veqN n σ a b = some r) (va : VRel C.aS s.heap a wa) (vb : VRel C.aS s.heap b wb) (hu : A.units + n < cLine) : SeqAt.EqAt A s wa wb r := by
  rcases rcAt R n h va vb hu with z | ⟨p, q, rfl, rfl, hr⟩
  · exact eqAt0 z va vb
  · by_cases hne : p = q
    · subst hne; rw [veqN_self R n _ _ _ _ h va vb]; exact SeqAt.EqAt.same _
    · exact SeqAt.EqAt.of_refs hne hr
/-- == of anything, to the depth 3 -/
def opEq : O2 := fun a b σ Q => ∃ r, veqN 3 σ a b = some r ∧ Q (.bool r) σ
theorem ok_eq : Op2 C k (compareOp .Eq) opEq := by
  intro A s σ a b wa wb Q P E ao R va vb ⟨r, hr, q⟩ hP
  rcases rcAt R 3 (A := A) hr va vb (by have := ao.units; omega) with z | ⟨p, p', rfl, rfl, h⟩
  · exact ok_eq0 A s σ a b wa wb Q P E ao R va vb ⟨r, z, q⟩ hP
  · exact h _ _ _ _ (hP _ _ σ s (.bool r) R Step.refl q)
/- in a list, in a tuple -/
def anyEq (x : V) : List V → Option Bool
  | [] => some false
  | y :: r => match veq0 y x, anyEq x r with
    | some a, some b => some (a || b)
    | _, _ => Option.none
def eqv : Value → Value → Bool
  | .none, .none => true
  | .bool a, .bool b => a == b
  | .int a _, .int b _ => decide (a = b)
  | .str a _, .str b _ => decide (a = b)
  | _, _ => false
theorem eqv_of {s : Shared} {a b : V} {wa wb : Value} {r : Bool} (h : veq0 a b = some r) (va : VRel C.aS s.heap a wa) (vb : VRel C.aS s.heap b wb) : eqv wa wb = r := by
  unfold veq0 at h
  split at h <;> cases h <;> cases va <;> cases vb <;> rfl
theorem any_rel {s : Shared} {A : Around} {x : V} {wx : Value} (hx : VRel C.aS s.heap x wx) : ∀ {ys : List V} {ws : List Value} {r : Bool}, anyEq x ys = some r → VRels C.aS s.heap ys ws →
    (∀ w ∈ ws, SeqAt.EqAt A s w wx (eqv w wx)) ∧ ws.any (fun w => eqv w wx) = r
  | [], _, r, h, .nil => by cases h; exact ⟨fun _ hw => (nomatch hw), rfl⟩
  | y :: ys, w :: ws, r, h, .cons hy hr => by
    unfold anyEq at h
    split at h
    · rename_i a b h1 h2
      cases h
      obtain ⟨i1, i2⟩ := any_rel (A := A) hx h2 hr
      refine ⟨fun w' hw => ?_, ?_⟩
      · rcases List.mem_cons.mp hw with rfl | hw
        · rw [eqv_of h1 hy hx]; exact eqAt0 h1 hy hx
        · exact i1 w' hw
      · rw [List.any_cons, i2, eqv_of h1 hy hx]
    · cases h
def opInL : O2
  | x, .ref a, σ, Q => ∃ ys r, σ a = some (.list ys) ∧ anyEq x ys = some r ∧ Q (.bool r) σ
  | x, .tup ys, σ, Q => ∃ r, anyEq x ys = some r ∧ Q (.bool r) σ
  | _, _, _, _ => False
def opNotInL : O2
  | x, .ref a, σ, Q => ∃ ys r, σ a = some (.list ys) ∧ anyEq x ys = some r ∧ Q (.bool (!r)) σ
  | x, .tup ys, σ, Q => ∃ r, anyEq x ys = some r ∧ Q (.bool (!r)) σ
  | _, _, _, _ => False
theorem ok_inL : Op2 C k (compareOp .In) opInL := by
  intro A s σ a b wa wb Q P E ao R va vb q hP
  cases b <;> first | exact q.elim | skip
  · cases vb
    obtain ⟨ys, r, hy, hr, q⟩ := q
    obtain ⟨_, ws, h1, h2⟩ := R.view _ _ hy
    obtain ⟨i1, i2⟩ := any_rel (A := A.in1) va hr h2
    refine SeqAt.in_listAt (fun w => eqv w wa) h1.isList (fun y hy => i1 y (by simpa using hy)) ?_
    rw [← Array.any_toList, i2]
    exact hP _ _ σ s (.bool r) R Step.refl q
  · cases vb with | @tup _ p ws ht hvs =>
    obtain ⟨r, hr, q⟩ := q
    obtain ⟨i1, i2⟩ := any_rel (A := A.in1) va hr hvs
    refine SeqAt.in_tupleAt (fun w => eqv w wa) ht (fun y hy => i1 y (by simpa using hy)) ?_
    rw [← Array.any_toList, i2]
    exact hP _ _ σ s (.bool r) R Step.refl q
theorem ok_notInL : Op2 C k (compareOp .NotIn) opNotInL := by
  intro A s σ a b wa wb Q P E ao R va vb q hP
  cases b <;> first | exact q.elim | skip
  · cases vb
    obtain ⟨ys, r, hy, hr, q⟩ := q
    obtain ⟨_, ws, h1, h2⟩ := R.view _ _ hy
    obtain ⟨i1, i2⟩ := any_rel (A := A.in1) va hr h2
    refine SeqAt.notIn_listAt (fun w => eqv w wa) h1.isList (fun y hy => i1 y (by simpa using hy)) ?_
    rw [← Array.any_toList, i2]
    exact hP _ _ σ s (.bool (!r)) R Step.refl q
  · cases vb with | @tup _ p ws ht hvs =>
    obtain ⟨r, hr, q⟩ := q
    obtain ⟨i1, i2⟩ := any_rel (A := A.in1) va hr hvs
    refine SeqAt.notIn_tupleAt (fun w => eqv w wa) ht (fun y hy => i1 y (by simpa using hy)) ?_
    rw [← Array.any_toList, i2]
    exact hP _ _ σ s (.bool (!r)) R Step.refl q
/- append -/
def spAppend : Spec
  | [.ref a, v], σ, Q => ∃ xs, σ a = some (.list xs) ∧ xs.length < 16777216 ∧ Q .none (upd σ a (.list (xs ++ [v])))
  | _, _, _ => False
theorem ok_append : OpN C k (fun ws => PySem.call (.builtin "list.append") ws) spAppend := by
  intro A s σ vs ws Q P E ao R hv q hP
  unfold spAppend at q
  split at q
  · rename_i a v
    obtain ⟨wa, wb, rfl, h1, h2⟩ := hv.inv2
    cases h1
    obtain ⟨xs, hx, hz, q⟩ := q
    obtain ⟨_, ws, h3, h4⟩ := R.view _ _ hx
    have e := h4.length
    refine wpAny_list_append_plain h3 (fun h' hp' hs' => ?_) (by rw [List.size_toArray, ← e, sizeLine_eq]; omega)
    obtain ⟨n, hn⟩ := h3
    have kt : TupKeep s.heap h' := fun b o eb ht => hs'.extBut b o (by rintro rfl; rw [hn] at eb; cases eb; simp [IsT] at ht) eb
    refine hP .none .none (upd σ a (.list (xs ++ [v]))) _ .none (R.change (tk := s.toks) hx hs' ⟨by simp; omega, ws ++ [wb], by simpa using hp', (h4.append (.cons h2 .nil)).keep kt⟩) (.change hx hs') q
  · exact q.elim
/- xs[i] = v -/
def sSetItem (op : V → V → V → View → (View → Prop) → Prop) (T To Ti : ET) : ST := fun m σ Q => T m σ fun v σ₁ => To m σ₁ fun o σ₂ => Ti m σ₂ fun i σ₃ => op o i v σ₃ fun σ₄ => Q .next m σ₄
def OpSet (C : Cx) (k : Nat) (op : V → V → V → View → (View → Prop) → Prop) : Prop :=
  ∀ (A : Around) (s : Shared) (σ : View) (o i v : V) (wo wi w : Value) (Q : View → Prop) (P : Unit → Shared → Prop) (E : Value → Shared → Prop), AOk A k → RelG C σ s → VRel C.aS s.heap o wo → VRel C.aS s.heap i wi → VRel C.aS s.heap v w → op o i v σ Q →
    (∀ σ' s', RelG C σ' s' → Step no σ σ' s.heap s'.heap → Q σ' → P () s') → wpAny (model C.prog C.w) A (setItem wo wi w) P E s
theorem HS1.setItem {o i value : Expr} {p pos : Pos} {op : V → V → V → View → (View → Prop) → Prop} {T To Ti : ET} (hop : OpSet C k op) (hv : HE C sc k value T) (ho : HE C sc k o To) (hi : HE C sc k i Ti)
    (hs : ∀ env, EnvOk env sc → swapsWith value (some (.Subscript o i p)) pos.line env = pure false) : HS1 C sc k (.Assign [.Subscript o i p] value pos) (sSetItem op T To Ti) := by
  refine ⟨?_⟩; intro env A s m σ Q P E en ao R F q hP
  refine wpAny_Assign_Subscript (hv.run env A s m σ _ _ E en ao R F q fun v w σ₁ s₁ v1 R₁ S₁ q₁ => ?_) (hs env en)
  have F₁ := F.step R S₁
  refine ho.run env A s₁ m σ₁ _ _ E en ao R₁ F₁ q₁ fun o wo σ₂ s₂ v2 R₂ S₂ q₂ => ?_
  have F₂ := F₁.step R₁ S₂
  refine hi.run env A s₂ m σ₂ _ _ E en ao R₂ F₂ q₂ fun i wi σ₃ s₃ v3 R₃ S₃ q₃ => ?_
  have F₃ := F₂.step R₂ S₃
  have k₂ := S₂.tupsN R₁
  have k₃ := S₃.tupsN R₂
  refine hop A s₃ σ₃ o i v wo wi w _ _ E ao R₃ (v2.keep k₃) v3 ((v1.keep k₂).keep k₃) q₃ fun σ₄ s₄ R₄ S₄ q₄ => ?_
  have S := ((S₁.trans S₂).trans S₃).trans S₄
  exact hP .next .next m σ₄ s₄ .next R₄ (F.step R S) S.own q₄
def setL : V → V → V → View → (View → Prop) → Prop
  | .ref a, .int i, v, σ, Q => ∃ xs j, σ a = some (.list xs) ∧ idx i xs.length = some j ∧ Q (upd σ a (.list (xs.set j v)))
  | _, _, _, _, _ => False
theorem set_list {A : Around} {s : Shared} {l : Addr} {ws : List Value} {i : Int} {t : Tok} {j : Nat} {v : Value} {P : Unit → Shared → Prop} {E : Value → Shared → Prop} (hl : s.heap.PlainList l ws.toArray) (hi : idx i ws.length = some j) (hz : ws.length ≤ 16777216)
    (hQ : ∀ h', h'.PlainList l (ws.set j v).toArray → Heap.SameBut l s.heap h' → P () { s with heap := h' }) : wpAny (model C.prog C.w) A (setItem (.ref l) (.int i t) v) P E s := by
  obtain ⟨n, ho⟩ := id hl
  have hT := hl.isList.typeIs
  have hlt := idx_lt hi
  have hj : j < ws.length := hlt.1
  unfold setItem
  try with_reducible refine wpAny_holding ?_
  first | refine wpAny_bind (wpAny_pure ?_) | skip
  refine wpAny_bind (wpAny_sequenceKey hT (by decide) ?_)
  refine wpAny_bind (wpAny_callSpecial?_slot (name := Str.ofString "__setitem__") hT slot_list_setitem
    (wpAny_call_entry slot_list_setitem hT entry_list_setitem ?_ (args_list_setitem _ _ _)))
  show wpAny _ _ (Builtin.List.listSubscript? (.int i t) >>= _) _ _ s
  have hfit : Builtin.List.listFitsIndex i = true := by
    by_cases h0 : 0 ≤ i
    · exact fitsIndex_of h0 (by omega)
    · exact fitsIndex_neg (by omega) (by omega)
  refine wpAny_bind (wpAny_listSubscript_int hfit ?_)
  clear hfit
  have hx' : ws.toArray[j]? = some ws[j] := by simp [hj]
  have fin : P () { s with heap := s.heap.update l (Obj.mapSeq (·.setIfInBounds j v)) } := by
    refine hQ _ ⟨n, ?_⟩ (Heap.SameBut.update ..)
    have em : Obj.mapSeq (·.setIfInBounds j v) { cls := .type "list", data := .seq ws.toArray n } = { cls := .type "list", data := .seq (ws.set j v).toArray n } := by simp [Obj.mapSeq]
    rw [Heap.get?_update_self _ ho (by rw [em]; rfl), em]
  by_cases h0 : 0 ≤ i
  · have ej : j = i.toNat := by unfold idx at hi; rw [if_pos h0] at hi; split at hi <;> cases hi; rfl
    obtain ⟨n', rfl⟩ := Int.eq_ofNat_of_zero_le h0
    have ej' : j = n' := by simpa using ej
    subst ej'
    show wpAny _ _ ((seqItemAt l j >>= fun r => pure (r.map (j, ·))) >>= _) _ _ s
    refine wpAny_bind (wpAny_bind (wpAny_seqItemAt ho rfl (wpAny_pure ?_)))
    rw [hx']
    show wpAny _ _ (setSeqItemAt l j v >>= _) _ _ s
    refine wpAny_bind (wpAny_setSeqItemAt ho rfl ?_)
    exact wpAny_pure ⟨.none, rfl, wpAny_pure fin⟩
  · have hidx := idx_seq hi
    obtain ⟨n', rfl⟩ : ∃ j : Nat, i = Int.negSucc j := by
      cases i with
      | ofNat n => exact absurd (Int.natCast_nonneg n) h0
      | negSucc n => exact ⟨n, rfl⟩
    show wpAny _ _ ((Builtin.List.listItems (.ref l) >>= fun xs => pure ((seqIndex? (Int.negSucc n') xs.size).bind fun i => xs[i]?.map (i, ·))) >>= _) _ _ s
    refine wpAny_bind (wpAny_bind ?_)
    show wpAny _ _ (seqItems? (.ref l) >>= _) _ _ s
    refine wpAny_bind (wpAny_seqItems ho rfl (wpAny_pure (wpAny_pure ?_)))
    rw [List.size_toArray, hidx]
    simp only [Option.bind_some, hx', Option.map_some]
    show wpAny _ _ (setSeqItemAt l j v >>= _) _ _ s
    refine wpAny_bind (wpAny_setSeqItemAt ho rfl ?_)
    exact wpAny_pure ⟨.none, rfl, wpAny_pure fin⟩
theorem VRels.set {aS : Addr} {h : Heap} : ∀ {vs : List V} {ws : List Value}, VRels aS h vs ws → ∀ {v : V} {w : Value} (j : Nat), VRel aS h v w → VRels aS h (vs.set j v) (ws.set j w)
  | _, _, .nil, _, _, _, _ => .nil
  | _, _, .cons a r, _, _, 0, hv => .cons hv r
  | _, _, .cons a r, _, _, j + 1, hv => .cons a (VRels.set r j hv)
theorem ok_setL : OpSet C k setL := by
  intro A s σ o i v wo wi w Q P E ao R vo vi vv q hP
  unfold setL at q
  split at q
  · rename_i a i
    cases vo; cases vi
    obtain ⟨xs, j, hx, hj, q⟩ := q
    obtain ⟨hz, ws, h1, h2⟩ := R.view _ _ hx
    refine set_list (j := j) h1 (by rw [← h2.length]; exact hj) (by rw [← h2.length]; exact hz) fun h' hp' hs' => ?_
    obtain ⟨n, hn⟩ := h1
    have kt : TupKeep s.heap h' := fun b o eb ht => hs'.extBut b o (by rintro rfl; rw [hn] at eb; cases eb; simp [IsT] at ht) eb
    exact hP (upd σ a (.list (xs.set j v))) _ (R.change (tk := s.toks) hx hs' ⟨by simpa using hz, ws.set j w, hp', (h2.set j vv).keep kt⟩) (.change hx hs') q
  · exact q.elim
/- a, b = t -/
def namesAt (l : List (String × Pos)) : List Expr := l.map fun p => Expr.Name (Str.ofString p.1) p.2
theorem each_cons (p : String × Pos) (l : List (String × Pos)) (env : Env) : assignEach (namesAt (p :: l)) env = (false, assign (.Name (Str.ofString p.1) p.2) env) :: assignEach (namesAt l) env := rfl
theorem each_len (env : Env) : ∀ (l : List (String × Pos)), (assignEach (namesAt l) env).length = l.length ∧ (assignEach (namesAt l) env).findIdx? (·.1) = Option.none
  | [] => ⟨rfl, rfl⟩
  | p :: r => by
    rw [each_cons]
    refine ⟨by simp [(each_len env r).1], ?_⟩
    rw [List.findIdx?_cons]
    simp [(each_len env r).2]
theorem assignNames {env : Env} {A : Around} {E : Value → Shared → Prop} (en : EnvOk env sc) (l : List (String × Pos)) : ∀ (vs : List V) (ws : List Value) (s : Shared) (m : Loc) (σ : View) (P : Unit → Shared → Prop), l.length = vs.length → (∀ x ∈ l, sc.names.lookup (Str.ofString x.1) = some .local) →
    RelG C σ s → FrameRel C env m σ s.heap → VRels C.aS s.heap vs ws →
    (∀ s', RelG C σ s' → FrameRel C env (bindM (l.map (·.1)) vs m) σ s'.heap → Step (fun b => b = env.locals) σ σ s.heap s'.heap → P () s') →
    wpAny (model C.prog C.w) A (assignInOrder ((assignEach (namesAt l) env).map (·.2)) ws) P E s := by
  induction l with
  | nil =>
    intro vs ws s m σ P h1 h2 R F hv h
    cases vs with
    | nil => cases hv; exact wpAny_pure (h s R F Step.refl)
    | cons => simp at h1
  | cons x l ih =>
    intro vs ws s m σ P h1 h2 R F hv h
    cases vs with
    | nil => simp at h1
    | cons v vs =>
      cases hv with | @cons _ w _ ws hv hvs =>
      rw [each_cons, List.map_cons]
      have e : assignInOrder (assign (.Name (Str.ofString x.1) x.2) env :: (assignEach (namesAt l) env).map (·.2)) (w :: ws) = (do holding ws (assign (.Name (Str.ofString x.1) x.2) env w); assignInOrder ((assignEach (namesAt l) env).map (·.2)) ws) := by rw [assignInOrder]
      show wpAny _ A (assignInOrder (assign (.Name (Str.ofString x.1) x.2) env :: (assignEach (namesAt l) env).map (·.2)) (w :: ws)) P E s
      rw [e]
      refine wpAny_bind (wpAny_holding (wpAny_assign_Name (store_local en R F (h2 x (.head _)) hv fun s₁ R₁ F₁ S₁ => ?_)))
      have kt : TupKeep s.heap s₁.heap := S₁.tups R fun b o z e => by subst z; exact F.ownT _ o (.inl rfl) e
      exact ih vs ws s₁ (put m x.1 v) σ P (by simpa using h1) (fun y hy => h2 y (.tail _ hy)) R₁ F₁ (hvs.keep kt) fun s₂ R₂ F₂ S₂ => h s₂ R₂ F₂ (S₁.trans S₂)
theorem FrameRel.grow {env : Env} {m : Loc} {σ : View} {h h' : Heap} (F : FrameRel C env m σ h) (keep : ∀ b o, h.get? b = some o → h'.get? b = some o) : FrameRel C env m σ h' := by
  have kt : TupKeep h h' := fun b o e _ => keep b o e
  have kc : ∀ c v, h.IsCell c v → h'.IsCell c v := fun c v ⟨o, ho, hd⟩ => ⟨o, keep c o ho, hd⟩
  obtain ⟨mm, hn, hv⟩ := F.ns
  refine ⟨⟨mm, hn.keeps keep, fun x v e k => ?_⟩, fun x v e => ?_, fun n c e => ?_, F.sepL, F.baseL, F.baseC, F.dist, F.has⟩
  · obtain ⟨w, h1, h2⟩ := hv x v e k; exact ⟨w, h1, h2.keep kt⟩
  · rcases F.cel x v e with q | ⟨q, c, w, h1, h2, h3⟩
    · exact .inl q
    · exact .inr ⟨q, c, w, h1, kc _ _ h2, h3.keep kt⟩
  · obtain ⟨v, hv⟩ := F.cells n c e; exact ⟨v, kc _ _ hv⟩
theorem HT.tup {l : List (String × Pos)} {n : Nat} {pos : Pos} (hx : ∀ x ∈ l, sc.names.lookup (Str.ofString x.1) = some .local) : HT C sc k true (.Tuple (namesAt l) n pos) (.tup (l.map (·.1))) := by
  refine ⟨?_⟩; intro env A s m m' σ v w P E en ao R F hv hb hP
  cases v <;> simp only [bindT] at hb <;> first | cases hb | skip
  split at hb
  · rename_i vs hlen
    cases hb
    cases hv with | @tup _ t ws ht hvs =>
    have hlen' : l.length = vs.length := by simpa using hlen
    refine with_size (wpAny_assign_Tuple ao.handled ht (by rw [(each_len env _).1, List.size_toArray, ← hvs.length, hlen']) (each_len env _).2 fun h' hx' => ?_)
    have keep : ∀ b o, s.heap.get? b = some o → h'.get? b = some o := fun b o e => hx' b o (Nat.ne_of_lt (Heap.lt_size e)) e
    have e : ws.toArray.toList = ws := by simp
    rw [e]
    refine assignNames en l vs ws _ m σ _ hlen' hx (R.grow (tk := s.toks) keep) (F.grow keep) (hvs.keep fun b o e _ => keep b o e) fun s₂ R₂ F₂ S₂ hsz => ?_
    exact hP s₂ R₂ F₂ ⟨fun b o e n q => S₂.keep b o (keep b o e) n fun z => q (.inl z), hsz, fun _ a b => absurd a b⟩
  · cases hb
end
end Mine

end
section
set_option autoImplicit false
namespace Mine
open PySem PySem.W PyProof.Rows PySem.Calls

/- the text's defs as they stand in the program -/
def bodyAt (p : Program) (n : Nat) : List Stmt := match p.main.body[n]? with | some (.FunctionDef _ _ b _ _ _ _ _ _ _) => b | _ => []
def scopeAt (p : Program) (n : Nat) : Scope := match p.main.body[n]? with | some (.FunctionDef _ _ _ _ _ _ s _ _ _) => s | _ => default
def parsAt (p : Program) (n : Nat) : Arguments := match p.main.body[n]? with | some (.FunctionDef _ a _ _ _ _ _ _ _ _) => a | _ => default
def posAt (p : Program) (n : Nat) : Pos := match p.main.body[n]? with | some (.FunctionDef _ _ _ _ _ _ _ _ _ q) => q | _ => default

/-- the def f of the text is at its place and keeps its contract -/
def FnAt (C : Cx) (j : Nat) (f : String) (spec : Spec) : Prop :=
  ∃ a o fd, C.mg (Str.ofString f) = some (.ref a) ∧ C.hB.get? a = some o ∧ o.data = .func fd ∧ FnSound C j a spec

/-- what the walk knows of the globals -/
structure Gl (C : Cx) (p : Program) : Prop where
  ok : C.Ok
  mb : ∀ x : Str, x ≠ "__name__" → C.mb x = bootBuiltins x
  free : ∀ x ∈ ["len", "range", "min", "max", "isinstance", "bool", "str", "int", "list", "dict", "set", "sorted", "tuple", "sum", "type"], C.mg (Str.ofString x) = Option.none
  fn : ∀ d ∈ recsOf p, ∃ a o pm code doc, C.mg d.name = some (.ref a) ∧ C.hB.get? a = some o ∧ o.data = .func (docDef d.name d.params d.body d.scope pm code doc) ∧ C.hB.CodeRec code d.name

variable {C : Cx} {p : Program}
theorem Gl.blt (G : Gl C p) {x : String} {v : Value} (h : bootBuiltins (Str.ofString x) = some v) (hx : x ≠ "__name__") : C.mb (Str.ofString x) = some v := by
  rw [G.mb _ (fun e => hx (ofString_inj e)), h]

theorem HE.callAt (G : Gl C p) {sc : Scope} {k : Nat} {f : String} {np pos : Pos} {es : List Expr} {L : LT} {spec : Spec} {j : Nat} (hf : FnAt C j f spec) (hj : j < k)
    (hn : sc.names.lookup (Str.ofString f) = some .globalImplicit) (hdb : (Str.ofString f == ("__debug__" : Str)) = false)
    (hl : HL C sc k es L) (hp : plainArgs es = true) : HE C sc k (.Call (.Name (Str.ofString f) np) es [] pos) (eCall spec L) := by
  obtain ⟨a, o, fd, h1, h2, h3, h4⟩ := hf
  exact HE.call G.ok h4 hj hn h1 h2 h3 hdb hl hp

theorem FnAt.mk (G : Gl C p) (i n : Nat) {f : String} {xs : List String} {j : Nat} {spec : Spec} {T : ST}
    (hm : (recsOf p)[i]? = some ⟨Str.ofString f, parsAt p n, bodyAt p n, scopeAt p n, posAt p n⟩)
    (hk : (scopeAt p n).kind = .function) (hfr : ((scopeAt p n).names.all fun q => q.2 != .free) = true) (hco : (scopeAt p n).isCoroutine = false) (hgen : (scopeAt p n).isGenerator = false)
    (hbind : ∀ (ws : List Value) (pm code doc : Value), ws.length = xs.length → bindArgs (docDef (Str.ofString f) (parsAt p n) (bodyAt p n) (scopeAt p n) pm code doc) ⟨ws, []⟩ = pure ((xs.map Str.ofString).zip ws))
    (hloc : (xs.all fun x => (scopeAt p n).names.lookup (Str.ofString x) == some .local || (scopeAt p n).names.lookup (Str.ofString x) == some .cell) = true)
    (hT : HS C (scopeAt p n) j (bodyAt p n) T)
    (hspec : ∀ vs σ Q, spec vs σ Q → vs.length = xs.length ∧ T (bindM xs vs none') σ fun f _ σ' => match f with | .ret v => Q v σ' | .next => Q .none σ' | _ => False) : FnAt C j f spec := by
  obtain ⟨a, o, pm, code, doc, h1, h2, h3, h4⟩ := G.fn _ (List.mem_of_getElem? hm)
  refine ⟨a, o, _, h1, h2, h3, FnSound.mk G.ok (xs := xs) h2 h3 h4 rfl rfl rfl rfl rfl hk ?_ hco hgen (fun ws hw => hbind ws pm code doc hw) ?_ hT hspec⟩
  · intro q hq
    have := List.all_eq_true.mp hfr q hq
    simpa using this
  · intro x hx
    have := List.all_eq_true.mp hloc x hx
    simp only [Bool.or_eq_true, beq_iff_eq] at this
    exact this

/-- the end: the law answers True -/
def spLaw : Spec := fun vs σ Q => vs = [.script] ∧ (∀ a, σ a = Option.none) ∧ ∀ σ', Q (.bool true) σ'
theorem ints_get {vs : List Value} {ns : List Int} (h : IntsAre vs ns) : vs.length = ns.length ∧ ∀ (i : Nat) n, ns[i]? = some n → ∃ t, vs[i]? = some (Value.int n t) := by
  induction h with
  | nil => exact ⟨rfl, fun i n e => by simp at e⟩
  | cons a t h ih =>
    refine ⟨by simp [ih.1], fun i n e => ?_⟩
    cases i with
    | zero => simp at e; subst e; exact ⟨_, rfl⟩
    | succ i => simpa using ih.2 i n (by simpa using e)
theorem Cx.ok_of {C : Cx} {vs : List Value} {loose : List Str} {mean : ExcName → Option Value} (T : Top p loose mean C.mg C.mb C.hB) (hi : importsNone p = true) (hL : C.hB.IsList C.aS vs.toArray) (hI : IntsAre vs C.ns) (hn : ¬ (63 : Int) < (C.ns.length : Int)) : C.Ok where
  g := T.g
  b := T.b
  nolimit := T.nolimit
  mods := by obtain ⟨mm, ⟨o, _, _, ho, _⟩, _⟩ := (T.seer hi).mods; exact ⟨o, ho⟩
  few := by omega
  script := ⟨_, hL, by simpa using (ints_get hI).1, by simpa using (ints_get hI).2⟩
theorem Gl.of {C : Cx} {loose : List Str} {mean : ExcName → Option Value} (T : Top p loose mean C.mg C.mb C.hB) (ok : C.Ok)
    (hf : (["len", "range", "min", "max", "isinstance", "bool", "str", "int", "list", "dict", "set", "sorted", "tuple", "sum", "type"].all fun x : String => !(startupNames ++ loose ++ (recsOf p).map (·.name) ++ (litsOf p).map (·.1) ++ (clssOf p loose).map (·.name)).contains (Str.ofString x)) = true) : Gl C p where
  ok := ok
  mb := T.builtins
  fn := T.fn
  free := fun x hx => by
    have := List.all_eq_true.mp hf x hx
    simp only [Bool.not_eq_true', List.contains_eq_mem, decide_eq_false_iff_not, List.mem_append, not_or] at this
    obtain ⟨⟨⟨⟨h1, h2⟩, h3⟩, h4⟩, h5⟩ := this
    exact T.free _ h1 h2 h3 h4 h5
/-- the walk's end meets the claim's -/
theorem law_ends {C : Cx} {f : Addr} {j : Nat} {r : OpenLaw} {args : List WData} {cl : Str → Option Addr} {mean : ExcName → Option Value} (hf : FnSound C j f spLaw) (hj : j ≤ 100) (hg : C.s₁.gens = #[])
    (hn : ∀ cls, r.row.claim.raises args cls = false) (hp : r.row.claim.post args (.bool true) args = true) :
    codeAny (model C.prog C.w) callerA (.call (.ref f) ⟨[.ref C.aS], []⟩) (GoodWG r.row.claim cl mean args C.s₁) C.s₁ := by
  refine codeAny_mono (hf callerA C.s₁ (fun _ => Option.none) [.script] [.ref C.aS] (fun v σ => v = .bool true) (fun w s' => w = .bool true ∧ ∃ σ', RelG C σ' s') (fun _ _ => False) ⟨rfl, ?_, ?_⟩ ⟨⟨_, _, rfl⟩, fun _ _ e => e, fun _ _ e => by (cases e), fun _ e => absurd rfl e⟩ (.cons .script .nil) ⟨rfl, fun _ => rfl, fun _ => rfl⟩ ?_) ?_
  · show 1 + claimMargin + 3 * (j + 1) + 3 < recursionLimit
    have : claimMargin = 300 := rfl
    have : recursionLimit = 1000 := rfl
    omega
  · show 4 + 10 * (j + 1) + 20 < cLine
    unfold cLine
    omega
  · intro v w σ' s' hv R' S' q
    subst q
    cases hv with | bool b => exact ⟨rfl, σ', R'⟩
  · intro res s' h
    cases res with
    | error e => exact h.elim
    | ok fl =>
      cases fl with
      | ret v =>
        obtain ⟨rfl, σ', R'⟩ := h
        obtain ⟨h₁, tk, e⟩ := R'.rest
        refine GoodW.toG ⟨.inl ⟨_, .bool true, [], rfl, hn, .bool true, hp, fun _ => ⟨List.nodup_nil, fun a h => by cases h⟩⟩, R'.base, ?_, ?_⟩
        · rw [e]
        · rw [e]; exact hg
      | _ => exact h.elim
end Mine

end
section
set_option autoImplicit false
namespace Mine
open PySem PySem.W PyProof.Rows PySem.Calls

section
variable {C : Cx} {p : Program} {sc : Scope} {k : Nat}
theorem bb_len : bootBuiltins (Str.ofString "len") = some (.builtin "len") := by decide +kernel
theorem bb_min : bootBuiltins (Str.ofString "min") = some (.builtin "min") := by decide +kernel
theorem bb_max : bootBuiltins (Str.ofString "max") = some (.builtin "max") := by decide +kernel
theorem bb_isi : bootBuiltins (Str.ofString "isinstance") = some (.builtin "isinstance") := by decide +kernel
theorem bb_range : bootBuiltins (Str.ofString "range") = some (.type "range") := by decide +kernel
theorem bb_bool : bootBuiltins (Str.ofString "bool") = some (.type "bool") := by decide +kernel
theorem bb_str : bootBuiltins (Str.ofString "str") = some (.type "str") := by decide +kernel
theorem bb_int : bootBuiltins (Str.ofString "int") = some (.type "int") := by decide +kernel
theorem bb_list : bootBuiltins (Str.ofString "list") = some (.type "list") := by decide +kernel
theorem bb_dict : bootBuiltins (Str.ofString "dict") = some (.type "dict") := by decide +kernel
theorem bb_tuple : bootBuiltins (Str.ofString "tuple") = some (.type "tuple") := by decide +kernel

theorem HE.len (G : Gl C p) {np pos : Pos} {es : List Expr} {L : LT} (hn : sc.names.lookup (Str.ofString "len") = some .globalImplicit) (hl : HL C sc k es L) (hp : plainArgs es = true) : HE C sc k (.Call (.Name (Str.ofString "len") np) es [] pos) (eCall (spLen C.ns) L) :=
  HE.builtin G.ok (ok_len G.ok) hn (G.free _ (by decide)) (G.blt bb_len (by decide)) rfl hl hp
theorem HE.minC (G : Gl C p) {np pos : Pos} {es : List Expr} {L : LT} (hn : sc.names.lookup (Str.ofString "min") = some .globalImplicit) (hl : HL C sc k es L) (hp : plainArgs es = true) : HE C sc k (.Call (.Name (Str.ofString "min") np) es [] pos) (eCall spMin L) :=
  HE.builtin G.ok ok_min hn (G.free _ (by decide)) (G.blt bb_min (by decide)) rfl hl hp
theorem HE.maxC (G : Gl C p) {np pos : Pos} {es : List Expr} {L : LT} (hn : sc.names.lookup (Str.ofString "max") = some .globalImplicit) (hl : HL C sc k es L) (hp : plainArgs es = true) : HE C sc k (.Call (.Name (Str.ofString "max") np) es [] pos) (eCall spMax L) :=
  HE.builtin G.ok ok_max hn (G.free _ (by decide)) (G.blt bb_max (by decide)) rfl hl hp
theorem HE.isi (G : Gl C p) {np pos : Pos} {es : List Expr} {L : LT} (hn : sc.names.lookup (Str.ofString "isinstance") = some .globalImplicit) (hl : HL C sc k es L) (hp : plainArgs es = true) : HE C sc k (.Call (.Name (Str.ofString "isinstance") np) es [] pos) (eCall spIsi L) :=
  HE.builtin G.ok ok_isi hn (G.free _ (by decide)) (G.blt bb_isi (by decide)) rfl hl hp
theorem HE.intC (G : Gl C p) {np pos : Pos} {es : List Expr} {L : LT} (hn : sc.names.lookup (Str.ofString "int") = some .globalImplicit) (hl : HL C sc k es L) (hp : plainArgs es = true) : HE C sc k (.Call (.Name (Str.ofString "int") np) es [] pos) (eCall spInt L) :=
  HE.btype G.ok ok_int hn (G.free _ (by decide)) (G.blt bb_int (by decide)) rfl hl hp
theorem HE.strC (G : Gl C p) {np pos : Pos} {es : List Expr} {L : LT} (hn : sc.names.lookup (Str.ofString "str") = some .globalImplicit) (hl : HL C sc k es L) (hp : plainArgs es = true) : HE C sc k (.Call (.Name (Str.ofString "str") np) es [] pos) (eCall spStr L) :=
  HE.btype G.ok ok_str hn (G.free _ (by decide)) (G.blt bb_str (by decide)) rfl hl hp
theorem HI.rng (G : Gl C p) {np pos : Pos} {es : List Expr} {L : LT} (hn : sc.names.lookup (Str.ofString "range") = some .globalImplicit) (hl : HL C sc k es L) (hp : plainArgs es = true) : HI C sc k (.Call (.Name (Str.ofString "range") np) es [] pos) (iRange L) :=
  HI.range G.ok hl hp hn (G.free _ (by decide)) (G.blt bb_range (by decide))
/- types by name -/
theorem HE.gBool (G : Gl C p) {pos : Pos} (h : sc.names.lookup (Str.ofString "bool") = some .globalImplicit) : HE C sc k (.Name (Str.ofString "bool") pos) (eVal (.ty "bool")) := HE.gty G.ok h (G.free _ (by decide)) (G.blt bb_bool (by decide)) rfl
theorem HE.gStr (G : Gl C p) {pos : Pos} (h : sc.names.lookup (Str.ofString "str") = some .globalImplicit) : HE C sc k (.Name (Str.ofString "str") pos) (eVal (.ty "str")) := HE.gty G.ok h (G.free _ (by decide)) (G.blt bb_str (by decide)) rfl
theorem HE.gInt (G : Gl C p) {pos : Pos} (h : sc.names.lookup (Str.ofString "int") = some .globalImplicit) : HE C sc k (.Name (Str.ofString "int") pos) (eVal (.ty "int")) := HE.gty G.ok h (G.free _ (by decide)) (G.blt bb_int (by decide)) rfl
theorem HE.gList (G : Gl C p) {pos : Pos} (h : sc.names.lookup (Str.ofString "list") = some .globalImplicit) : HE C sc k (.Name (Str.ofString "list") pos) (eVal (.ty "list")) := HE.gty G.ok h (G.free _ (by decide)) (G.blt bb_list (by decide)) rfl
theorem HE.gDict (G : Gl C p) {pos : Pos} (h : sc.names.lookup (Str.ofString "dict") = some .globalImplicit) : HE C sc k (.Name (Str.ofString "dict") pos) (eVal (.ty "dict")) := HE.gty G.ok h (G.free _ (by decide)) (G.blt bb_dict (by decide)) rfl
theorem HE.gTuple (G : Gl C p) {pos : Pos} (h : sc.names.lookup (Str.ofString "tuple") = some .globalImplicit) : HE C sc k (.Name (Str.ofString "tuple") pos) (eVal (.ty "tuple")) := HE.gty G.ok h (G.free _ (by decide)) (G.blt bb_tuple (by decide)) rfl
/- methods -/
theorem HE.split {o : Expr} {apos pos : Pos} {es : List Expr} {To : ET} {L : LT} (ho : HE C sc k o To) (hl : HL C sc k es L) (hp : plainArgs es = true)
    (hbase : ∀ env, attributeBase o (Str.ofString "split") env (eval o env) = eval o env) (hline : (apos.endLine == pos.line) = true) (hfew : es.length < 30) : HE C sc k (.Call (.Attribute o (Str.ofString "split") apos) es [] pos) (eMeth tyStr spSplit To L) :=
  HE.meth tyStr_ok F.plainAttrs_str F.slot_str_split F.type_str_split ok_split ho hl hp hbase hline hfew
theorem HE.join {o : Expr} {apos pos : Pos} {es : List Expr} {To : ET} {L : LT} (ho : HE C sc k o To) (hl : HL C sc k es L) (hp : plainArgs es = true)
    (hbase : ∀ env, attributeBase o (Str.ofString "join") env (eval o env) = eval o env) (hline : (apos.endLine == pos.line) = true) (hfew : es.length < 30) : HE C sc k (.Call (.Attribute o (Str.ofString "join") apos) es [] pos) (eMeth tyStr spJoin To L) :=
  HE.meth tyStr_ok F.plainAttrs_str F.slot_str_join F.type_str_join ok_join ho hl hp hbase hline hfew
theorem HE.starts {o : Expr} {apos pos : Pos} {es : List Expr} {To : ET} {L : LT} (ho : HE C sc k o To) (hl : HL C sc k es L) (hp : plainArgs es = true)
    (hbase : ∀ env, attributeBase o (Str.ofString "startswith") env (eval o env) = eval o env) (hline : (apos.endLine == pos.line) = true) (hfew : es.length < 30) : HE C sc k (.Call (.Attribute o (Str.ofString "startswith") apos) es [] pos) (eMeth tyStr spStarts To L) :=
  HE.meth tyStr_ok F.plainAttrs_str F.slot_str_startswith F.type_str_startswith ok_starts ho hl hp hbase hline hfew
theorem HE.append {o : Expr} {apos pos : Pos} {es : List Expr} {To : ET} {L : LT} (ho : HE C sc k o To) (hl : HL C sc k es L) (hp : plainArgs es = true)
    (hbase : ∀ env, attributeBase o (Str.ofString "append") env (eval o env) = eval o env) (hline : (apos.endLine == pos.line) = true) (hfew : es.length < 30) : HE C sc k (.Call (.Attribute o (Str.ofString "append") apos) es [] pos) (eMeth tyList spAppend To L) :=
  HE.meth tyList_ok F.plainAttrs_list F.slot_list_append F.type_list_append ok_append ho hl hp hbase hline hfew
theorem HE.item (G : Gl C p) {value slice : Expr} {pos : Pos} {T U : ET} (hv : HE C sc k value T) (hi : HE C sc k slice U) (hs : isSlice slice = false) : HE C sc k (.Subscript value slice pos) (eBin (opItem C.ns) T U) :=
  HE.sub hv hi (ok_item G.ok hs)

/- the tables of a comprehension -/
def compOk (sc cs : Scope) (fv gs : List String) : Bool :=
  cs.kind == .function && cs.names.all (fun y => y.2 != .cell) && cs.names.all (fun y => y.2 != .local || cs.names.lookup y.1 == some .local) && decide (cs.names.map (·.1)).Nodup &&
  cs.names.all (fun q => q.2 != .free || fv.any fun x => Str.ofString x == q.1) && fv.all (fun x => cs.names.contains (Str.ofString x, NameKind.free) && (sc.names.lookup (Str.ofString x) == some .cell || sc.names.lookup (Str.ofString x) == some .free)) && gs.all fun x => !fv.contains x
theorem CompOk.of {sc cs : Scope} {fv : List String} {g : Tgt} (h : compOk sc cs fv g.names = true) : CompOk sc cs fv g := by
  unfold compOk at h
  simp only [Bool.and_eq_true, List.all_eq_true, Bool.or_eq_true, bne_iff_ne, beq_iff_eq, decide_eq_true_eq, List.any_eq_true, Bool.not_eq_true', List.contains_eq_mem, decide_eq_false_iff_not] at h
  obtain ⟨⟨⟨⟨⟨⟨h1, h2⟩, h3⟩, h4⟩, h5⟩, h6⟩, h7⟩ := h
  refine ⟨h1, h2, fun y hy e => (h3 y hy).elim (fun n => absurd e n) id, h4, fun q hq e => (h5 q hq).elim (fun n => absurd e n) id, fun x hx => ⟨(h6 x hx).1, (h6 x hx).2⟩, h7⟩
theorem swaps_cell {value : Expr} {t : Str} {q : Pos} {line : Nat} (h : sc.names.lookup t = some .cell) : ∀ env, EnvOk env sc → swapsWith value (some (.Name t q)) line env = pure false := by
  intro env en
  unfold swapsWith
  have e : env.kindOf t = some .cell := en.of h
  cases value <;> first | rfl | (simp only [e]; rw [show (some NameKind.cell == some NameKind.local) = false from rfl, Bool.and_false, Bool.false_and, Bool.false_and]; rfl) | (simp only [e, Option.some_beq_some]; rw [show (NameKind.cell == NameKind.local) = false from rfl, Bool.and_false, Bool.false_and, Bool.false_and])
theorem swaps_local {elt : Expr} {gens : List Comprehension} {cs : Scope} {pos : Pos} {t : Str} {q : Pos} {line : Nat} (h : sc.names.lookup t = some .local) (hl : (q.line == pos.line) = true) (hn : (cs.names.any fun y => y.1 == t && (y.2 == .local || y.2 == .cell)) = false) :
    ∀ env, EnvOk env sc → swapsWith (.ListComp elt gens cs pos) (some (.Name t q)) line env = pure true := by
  intro env en
  unfold swapsWith
  have e : env.kindOf t = some .local := en.of h
  have e2 : env.blockKind = .function := by unfold Env.blockKind; rw [en.k]; rfl
  have e3 : (Expr.ListComp elt gens cs pos).pos.line = pos.line := rfl
  simp only [e, e2, e3, hl, hn]
  rfl
end
end Mine

end
section
set_option autoImplicit false
namespace Mine
open PySem PySem.W PyProof.Rows PySem.Calls

def Grow (σ σ' : View) : Prop := ∀ b o, σ b = some o → σ' b = some o
theorem Grow.refl {σ : View} : Grow σ σ := fun _ _ e => e
theorem Grow.trans {σ₁ σ₂ σ₃ : View} (h : Grow σ₁ σ₂) (h' : Grow σ₂ σ₃) : Grow σ₁ σ₃ := fun b o e => h' b o (h b o e)
theorem Grow.upd {σ σ' : View} {a : Addr} {o : AObj} (h : Grow σ σ') (ha : σ' a = Option.none) : Grow σ (upd σ' a o) := fun b o' e => by
  rw [upd_old ha (h b o' e)]
/-- a new list in a view that has grown -/
def newG (xs : List V) (σ : View) (Q : V → View → Prop) : Prop := ∀ a σ', Grow σ σ' → σ a = Option.none → σ' a = some (.list xs) → Q (.ref a) σ'
theorem Grow.none {σ σ' : View} (h : Grow σ σ') {a : Addr} (ha : σ' a = Option.none) : σ a = Option.none := by
  cases e : σ a with
  | none => rfl
  | some o => rw [h a o e] at ha; cases ha

theorem compL_map {g : Tgt} {inv : View → Prop} {T : ET} {m : Loc} (P : View → Prop) (hinv : ∀ σ, P σ → inv σ) :
    ∀ (items ys acc : List V) (σ : View) (Q : List V → View → Prop), ys.length = items.length → acc.length + items.length ≤ 1048576 →
    (∀ (i : Nat) v y, items[i]? = some v → ys[i]? = some y → ∀ σ (Q' : V → View → Prop), P σ → (∀ σ', P σ' → Q' y σ') → ∃ m', bindT g v m = some m' ∧ T m' σ Q') →
    P σ → (∀ σ', P σ' → Q (acc ++ ys) σ') → compL g inv tT T m items acc σ Q
  | [], ys, acc, σ, Q, hl, hz, step, p, q => by
    have : ys = [] := List.length_eq_zero_iff.mp hl
    subst this
    simp only [compL]
    exact ⟨hinv σ p, by simpa using q σ p⟩
  | v :: r, [], acc, σ, Q, hl, hz, step, p, q => by simp at hl
  | v :: r, y :: ys, acc, σ, Q, hl, hz, step, p, q => by
    simp only [compL]
    obtain ⟨m', h1, h2⟩ := step 0 v y rfl rfl σ (fun y σ₂ => acc.length < 1048576 ∧ compL g inv tT T m r (acc ++ [y]) σ₂ Q) p (fun σ' p' => by
      simp at hz hl
      refine ⟨by omega, compL_map P hinv r ys (acc ++ [y]) σ' Q hl (by simp; omega) (fun i v y e1 e2 => step (i + 1) v y (by simpa using e1) (by simpa using e2)) p' fun σ'' p'' => ?_⟩
      simpa using q σ'' p'')
    exact ⟨hinv σ p, m', h1, by simpa [tT] using h2⟩
theorem compL_filter {g : Tgt} {inv : View → Prop} {B : BT} {T : ET} {m : Loc} (P : View → Prop) (hinv : ∀ σ, P σ → inv σ) (f : V → Option V) :
    ∀ (items acc : List V) (σ : View) (Q : List V → View → Prop), acc.length + items.length ≤ 1048576 →
    (∀ v ∈ items, ∀ σ (Q₁ : V → View → Prop) (Q₂ : View → Prop), P σ → (∀ σ' y, P σ' → f v = some y → Q₁ y σ') → (∀ σ', P σ' → f v = Option.none → Q₂ σ') → ∃ m', bindT g v m = some m' ∧ B m' σ fun b σ₁ => if b then T m' σ₁ Q₁ else Q₂ σ₁) →
    P σ → (∀ σ', P σ' → Q (acc ++ items.filterMap f) σ') → compL g inv B T m items acc σ Q
  | [], acc, σ, Q, hz, step, p, q => by
    simp only [compL]
    exact ⟨hinv σ p, by simpa using q σ p⟩
  | v :: r, acc, σ, Q, hz, step, p, q => by
    simp only [compL]
    simp at hz
    obtain ⟨m', h1, h2⟩ := step v (.head _) σ (fun y σ₂ => acc.length < 1048576 ∧ compL g inv B T m r (acc ++ [y]) σ₂ Q) (fun σ₁ => compL g inv B T m r acc σ₁ Q) p
      (fun σ' y p' e => ⟨by omega, compL_filter P hinv f r (acc ++ [y]) σ' Q (by simp; omega) (fun v hv => step v (.tail _ hv)) p' fun σ'' p'' => by simpa [e] using q σ'' p''⟩)
      (fun σ' p' e => compL_filter P hinv f r acc σ' Q (by omega) (fun v hv => step v (.tail _ hv)) p' fun σ'' p'' => by simpa [e] using q σ'' p'')
    exact ⟨hinv σ p, m', h1, h2⟩
theorem forL_inv {g : Tgt} {inv : View → Prop} {T : ST} (I : Nat → Loc → View → Prop) (R : V → Loc → View → Prop) (hinv : ∀ i m σ, I i m σ → inv σ) (items : List V) {Q : Fl → Loc → View → Prop}
    (step : ∀ i v m σ Q', items[i]? = some v → I i m σ → (∀ m' σ', I (i + 1) m' σ' → Q' .next m' σ') → (∀ m' σ', I (i + 1) m' σ' → Q' .cont m' σ') → (∀ u m' σ', R u m' σ' → Q' (.ret u) m' σ') → ∃ m', bindT g v m = some m' ∧ T m' σ Q')
    (done : ∀ m σ, I items.length m σ → Q .next m σ) (ret : ∀ u m σ, R u m σ → Q (.ret u) m σ) : ∀ (m : Loc) (σ : View), I 0 m σ → forL g inv T items m σ Q := by
  have key : ∀ (n : Nat) (i : Nat) (m : Loc) (σ : View), n = items.length - i → i ≤ items.length → I i m σ → forL g inv T (items.drop i) m σ Q := by
    intro n
    induction n with
    | zero =>
      intro i m σ hn hi h
      have : i = items.length := by omega
      subst this
      rw [List.drop_length]
      exact ⟨hinv _ _ _ h, done m σ h⟩
    | succ n ih =>
      intro i m σ hn hi h
      have hlt : i < items.length := by omega
      rw [List.drop_eq_getElem_cons hlt]
      simp only [forL]
      refine ⟨hinv _ _ _ h, step i _ m σ _ (List.getElem?_eq_getElem hlt) h (fun m' σ' h' => ih (i + 1) m' σ' (by omega) (by omega) h') (fun m' σ' h' => ih (i + 1) m' σ' (by omega) (by omega) h') fun u m' σ' h' => ret u m' σ' h'⟩
  intro m σ h
  have := key items.length 0 m σ (by omega) (by omega) h
  simpa using this

@[simp] theorem put_at (m : Loc) (x y : String) (v : V) : put m x v y = if y = x then some v else m y := rfl
@[simp] theorem only_at (fv : List String) (m : Loc) (x : String) : only fv m x = if x ∈ fv then m x else Option.none := rfl
theorem len1 {ws : List Value} (h : ws.length = 1) : ∃ a, ws = [a] := by
  match ws, h with
  | [a], _ => exact ⟨a, rfl⟩
theorem len2 {ws : List Value} (h : ws.length = 2) : ∃ a b, ws = [a, b] := by
  match ws, h with
  | [a, b], _ => exact ⟨a, b, rfl⟩
theorem len3 {ws : List Value} (h : ws.length = 3) : ∃ a b c, ws = [a, b, c] := by
  match ws, h with
  | [a, b, c], _ => exact ⟨a, b, c, rfl⟩
theorem len4 {ws : List Value} (h : ws.length = 4) : ∃ a b c d, ws = [a, b, c, d] := by
  match ws, h with
  | [a, b, c, d], _ => exact ⟨a, b, c, d, rfl⟩
theorem len5 {ws : List Value} (h : ws.length = 5) : ∃ a b c d e, ws = [a, b, c, d, e] := by
  match ws, h with
  | [a, b, c, d, e], _ => exact ⟨a, b, c, d, e, rfl⟩
theorem len6 {ws : List Value} (h : ws.length = 6) : ∃ a b c d e f, ws = [a, b, c, d, e, f] := by
  match ws, h with
  | [a, b, c, d, e, f], _ => exact ⟨a, b, c, d, e, f, rfl⟩
theorem range_get {a : Int} {n i : Nat} {v : V} (h : (rangeL a n)[i]? = some v) : i < n ∧ v = .int (a + i) := by
  unfold rangeL at h
  rw [List.getElem?_map] at h
  obtain ⟨j, hj, rfl⟩ := Option.map_eq_some_iff.mp h
  obtain ⟨hlt, hji⟩ := List.getElem?_eq_some_iff.mp hj
  simp at hji hlt
  subst hji
  exact ⟨hlt, rfl⟩
theorem range_len (a : Int) (n : Nat) : (rangeL a n).length = n := by simp [rangeL]
/-- the cell of the script -/
def cell (ns : List Int) (k : Int) : Int := ns.getD k.toNat 0
/-- the rest of a block -/
def kont (U : ST) (Q : Fl → Loc → View → Prop) : Fl → Loc → View → Prop := fun f m σ => match f with
  | .next => U m σ Q
  | f => Q f m σ
theorem seq_eq (T U : ST) (m : Loc) (σ : View) (Q : Fl → Loc → View → Prop) : sSeq T U m σ Q = T m σ (kont U Q) := by
  unfold sSeq kont; rfl
@[simp] theorem kont_next (U : ST) (Q : Fl → Loc → View → Prop) (m : Loc) (σ : View) : kont U Q .next m σ = U m σ Q := rfl
@[simp] theorem kont_cont (U : ST) (Q : Fl → Loc → View → Prop) (m : Loc) (σ : View) : kont U Q .cont m σ = Q .cont m σ := rfl
@[simp] theorem kont_brk (U : ST) (Q : Fl → Loc → View → Prop) (m : Loc) (σ : View) : kont U Q .brk m σ = Q .brk m σ := rfl
@[simp] theorem kont_ret (U : ST) (Q : Fl → Loc → View → Prop) (v : V) (m : Loc) (σ : View) : kont U Q (.ret v) m σ = Q (.ret v) m σ := rfl
/-- what the end of a def hands on -/
def fin (Q : V → View → Prop) : Fl → Loc → View → Prop := fun f _ σ' => match f with | .ret v => Q v σ' | .next => Q .none σ' | _ => False
@[simp] theorem fin_ret (Q : V → View → Prop) (v : V) (m : Loc) (σ : View) : fin Q (.ret v) m σ = Q v σ := rfl
@[simp] theorem fin_next (Q : V → View → Prop) (m : Loc) (σ : View) : fin Q .next m σ = Q .none σ := rfl
section
variable {m : Loc} {σ : View} {Q : V → View → Prop} {R : Fl → Loc → View → Prop} {B : Bool → View → Prop} {K : List V → View → Prop} {J : List V → (View → Prop) → View → Prop} {O : Option Int → View → Prop} {ns : List Int}
@[simp] theorem sSet_eq {x : String} {T : ET} : sSet x T m σ R = T m σ fun v σ' => R .next (put m x v) σ' := rfl
@[simp] theorem sRet_eq {T : ET} : sRet T m σ R = T m σ fun v σ' => R (.ret v) m σ' := rfl
@[simp] theorem sIf_eq {b : BT} {T U : ST} : sIf b T U m σ R = b m σ fun b σ' => if b then T m σ' R else U m σ' R := rfl
@[simp] theorem sNil_eq : sNil m σ R = R .next m σ := rfl
@[simp] theorem sExpr_eq {T : ET} : sExpr T m σ R = T m σ fun _ σ' => R .next m σ' := rfl
@[simp] theorem sCont_eq : sCont m σ R = R .cont m σ := rfl
@[simp] theorem sFor_eq {g : Tgt} {I : IT} {T : ST} : sFor g I T m σ R = I m σ fun items inv σ' => forL g inv T items m σ' R := rfl
@[simp] theorem sSetItem_eq {op : V → V → V → View → (View → Prop) → Prop} {T To Ti : ET} : sSetItem op T To Ti m σ R = T m σ fun v σ₁ => To m σ₁ fun o σ₂ => Ti m σ₂ fun i σ₃ => op o i v σ₃ fun σ₄ => R .next m σ₄ := rfl
@[simp] theorem eName_eq {x : String} : eName x m σ Q = ∃ v, m x = some v ∧ Q v σ := rfl
@[simp] theorem eVal_eq {v : V} : eVal v m σ Q = Q v σ := rfl
@[simp] theorem eBin_eq {op : O2} {T U : ET} : eBin op T U m σ Q = T m σ fun a σ₁ => U m σ₁ fun b σ₂ => op a b σ₂ Q := rfl
@[simp] theorem eUn_eq {op : O1} {T : ET} : eUn op T m σ Q = T m σ fun a σ₁ => op a σ₁ Q := rfl
@[simp] theorem eCall_eq {spec : Spec} {L : LT} : eCall spec L m σ Q = L m σ fun vs σ' => spec vs σ' Q := rfl
@[simp] theorem eMeth_eq {ty : V → View → Prop} {op : Spec} {T : ET} {L : LT} : eMeth ty op T L m σ Q = T m σ fun o σ₁ => ty o σ₁ ∧ L m σ₁ fun vs σ₂ => op (o :: vs) σ₂ Q := rfl
@[simp] theorem lNil_eq : lNil m σ K = K [] σ := rfl
@[simp] theorem lCons_eq {T : ET} {L : LT} : lCons T L m σ K = T m σ fun v σ₁ => L m σ₁ fun vs σ₂ => K (v :: vs) σ₂ := rfl
@[simp] theorem eTup_eq {L : LT} : eTup L m σ Q = L m σ fun vs σ₁ => vs.length ≤ 1000 ∧ Q (.tup vs) σ₁ := rfl
@[simp] theorem eList_eq {L : LT} : eList L m σ Q = L m σ fun vs σ₁ => vs.length ≤ 1000 ∧ newL vs σ₁ Q := rfl
@[simp] theorem tNot_eq {T : BT} : tNot T m σ B = T m σ fun b σ' => B (!b) σ' := rfl
@[simp] theorem tAnd_eq {T U : BT} : tAnd T U m σ B = T m σ fun b σ' => if b then U m σ' B else B false σ' := rfl
@[simp] theorem tOr_eq {T U : BT} : tOr T U m σ B = T m σ fun b σ' => if b then B true σ' else U m σ' B := rfl
@[simp] theorem tT_eq : tT m σ B = B true σ := rfl
@[simp] theorem tF_eq : tF m σ B = B false σ := rfl
@[simp] theorem eComp_eq {fv : List String} {g : Tgt} {I : IT} {b : BT} {T : ET} : eComp fv g I b T m σ Q = I m σ fun items inv σ' => compL g inv b T (only fv m) items [] σ' fun ys σ'' => newL ys σ'' Q := rfl
@[simp] theorem iOf_eq {T : ET} : iOf ns T m σ J = T m σ fun v σ' => iterOf ns v σ' J := rfl
@[simp] theorem iRange_eq {L : LT} : iRange L m σ J = L m σ fun vs σ' => rangeOf vs σ' J := rfl
@[simp] theorem eCut_eq {T : ET} {L U : Loc → View → (Option Int → View → Prop) → Prop} : eCut ns T L U m σ Q = T m σ fun v σ₁ => L m σ₁ fun lo σ₂ => U m σ₂ fun hi σ₃ => opCut ns lo hi v σ₃ Q := rfl
@[simp] theorem pNone_eq : pNone m σ O = O Option.none σ := rfl
@[simp] theorem pSome_eq {T : ET} : pSome T m σ O = T m σ fun v σ' => ∃ i, v = .int i ∧ O (some i) σ' := rfl
@[simp] theorem bindT_name {x : String} {v : V} : bindT (.name x) v m = some (put m x v) := rfl
@[simp] theorem bindM_cons {x : String} {xs : List String} {v : V} {vs : List V} : bindM (x :: xs) (v :: vs) m = bindM xs vs (put m x v) := rfl
@[simp] theorem bindM_nil {vs : List V} : bindM [] vs m = m := by cases vs <;> rfl
@[simp] theorem none_at {x : String} : none' x = Option.none := rfl
end
def isB (v : V) (F : Bool → Prop) : Prop := ∃ b, v = .bool b ∧ F b
@[simp] theorem isB_bool (c : Bool) (F : Bool → Prop) : isB (.bool c) F = F c := propext ⟨fun ⟨_, e, h⟩ => by cases e; exact h, fun h => ⟨c, rfl, h⟩⟩
@[simp] theorem tBool_eq (T : ET) (m : Loc) (σ : View) (Q : Bool → View → Prop) : tBool T m σ Q = T m σ (fun v σ' => isB v fun b => Q b σ') := rfl
@[simp] theorem eAnd_eq (T U : ET) (m : Loc) (σ : View) (Q : V → View → Prop) : eAnd T U m σ Q = T m σ (fun v σ' => isB v fun b => if b then U m σ' Q else Q (.bool false) σ') := rfl
@[simp] theorem eOr_eq (T U : ET) (m : Loc) (σ : View) (Q : V → View → Prop) : eOr T U m σ Q = T m σ (fun v σ' => isB v fun b => if b then Q (.bool true) σ' else U m σ' Q) := rfl
@[simp] theorem tCmp2_eq (o1 o2 : O2) (T U W : ET) (m : Loc) (σ : View) (Q : Bool → View → Prop) : tCmp2 o1 o2 T U W m σ Q = T m σ (fun a σ₁ => U m σ₁ fun b σ₂ => o1 a b σ₂ fun v σ₃ => isB v fun x => if x then W m σ₃ fun c σ₄ => o2 b c σ₄ fun u σ₅ => isB u fun y => Q y σ₅ else Q false σ₃) := rfl
section
variable {σ : View} {Q : V → View → Prop} {ns : List Int}
@[simp] theorem add_int {x y : Int} : opAdd (.int x) (.int y) σ Q = Q (.int (x + y)) σ := rfl
@[simp] theorem add_str {x y : Str} : opAdd (.str x) (.str y) σ Q = (x.length + y.length ≤ 16777216 ∧ Q (.str (x ++ y)) σ) := rfl
@[simp] theorem sub_int {x y : Int} : opSub (.int x) (.int y) σ Q = Q (.int (x - y)) σ := rfl
@[simp] theorem mul_int {x y : Int} : opMul (.int x) (.int y) σ Q = ((Short x ∨ Short y) ∧ Q (.int (x * y)) σ) := rfl
@[simp] theorem mod_int {x y : Int} : opMod (.int x) (.int y) σ Q = (0 < y ∧ Q (.int (x % y)) σ) := rfl
@[simp] theorem div_int {x y : Int} : opDiv (.int x) (.int y) σ Q = ((0 < y ∧ y < 1073741824) ∧ Q (.int (x / y)) σ) := rfl
@[simp] theorem lt_int {x y : Int} : opLt (.int x) (.int y) σ Q = Q (.bool (decide (x < y))) σ := rfl
@[simp] theorem le_int {x y : Int} : opLe (.int x) (.int y) σ Q = Q (.bool (decide (x ≤ y))) σ := rfl
@[simp] theorem gt_int {x y : Int} : opGt (.int x) (.int y) σ Q = Q (.bool (decide (y < x))) σ := rfl
@[simp] theorem ge_int {x y : Int} : opGe (.int x) (.int y) σ Q = Q (.bool (decide (y ≤ x))) σ := rfl
@[simp] theorem neg_int {x : Int} : opNeg (.int x) σ Q = Q (.int (-x)) σ := rfl
theorem eq_one {α : Type} {a : α} {F : α → Prop} : (∃ r, some a = some r ∧ F r) = F a := by simp
@[simp] theorem eq_int {x y : Int} : opEq0 (.int x) (.int y) σ Q = Q (.bool (decide (x = y))) σ := eq_one
@[simp] theorem eq_str {x y : Str} : opEq0 (.str x) (.str y) σ Q = Q (.bool (decide (x = y))) σ := eq_one
@[simp] theorem eq_bool {x y : Bool} : opEq0 (.bool x) (.bool y) σ Q = Q (.bool (x == y)) σ := eq_one
@[simp] theorem eq_nn : opEq0 .none .none σ Q = Q (.bool true) σ := eq_one
@[simp] theorem eq_ns {y : Str} : opEq0 .none (.str y) σ Q = Q (.bool false) σ := eq_one
@[simp] theorem eq_sn {y : Str} : opEq0 (.str y) .none σ Q = Q (.bool false) σ := eq_one
@[simp] theorem ne_int {x y : Int} : opNe0 (.int x) (.int y) σ Q = Q (.bool (!decide (x = y))) σ := eq_one
@[simp] theorem ne_str {x y : Str} : opNe0 (.str x) (.str y) σ Q = Q (.bool (!decide (x = y))) σ := eq_one
@[simp] theorem ne_bool {x y : Bool} : opNe0 (.bool x) (.bool y) σ Q = Q (.bool (!(x == y))) σ := eq_one
@[simp] theorem ne_nn : opNe0 .none .none σ Q = Q (.bool false) σ := eq_one
@[simp] theorem ne_ns {y : Str} : opNe0 .none (.str y) σ Q = Q (.bool true) σ := eq_one
@[simp] theorem ne_sn {y : Str} : opNe0 (.str y) .none σ Q = Q (.bool true) σ := eq_one
@[simp] theorem in_str {x y : Str} : opInS (.str y) (.str x) σ Q = Q (.bool (Txt.contains x y)) σ := rfl
@[simp] theorem notin_str {x y : Str} : opNotInS (.str y) (.str x) σ Q = Q (.bool (!Txt.contains x y)) σ := rfl
@[simp] theorem len_str {x : Str} : spLen ns [.str x] σ Q = (x.length ≤ 16777216 ∧ Q (.int x.length) σ) := rfl
@[simp] theorem len_script : spLen ns [.script] σ Q = Q (.int ns.length) σ := rfl
@[simp] theorem len_tup {vs : List V} : spLen ns [.tup vs] σ Q = (vs.length ≤ 16777216 ∧ Q (.int vs.length) σ) := rfl
theorem len_list {a : Addr} {xs : List V} (h : σ a = some (.list xs)) : spLen ns [.ref a] σ Q = Q (.int xs.length) σ := by unfold spLen; simp [h]
theorem len_dict {a : Addr} {kvs : List (Str × V)} {ep : Nat} (h : σ a = some (.dict kvs ep)) : spLen ns [.ref a] σ Q = Q (.int kvs.length) σ := by unfold spLen; simp [h]
@[simp] theorem min_int {x y : Int} : spMin [.int x, .int y] σ Q = Q (.int (min x y)) σ := rfl
@[simp] theorem max_int {x y : Int} : spMax [.int x, .int y] σ Q = Q (.int (max x y)) σ := rfl
@[simp] theorem int_bool {b : Bool} : spInt [.bool b] σ Q = Q (.int (if b then 1 else 0)) σ := rfl
@[simp] theorem str_int {i : Int} : spStr [.int i] σ Q = (i.natAbs.log2 < 1920 ∧ Q (.str (Str.ofString (toString i))) σ) := rfl
@[simp] theorem starts_str {x y : Str} : spStarts [.str x, .str y] σ Q = Q (.bool (Txt.startswith x y)) σ := rfl
@[simp] theorem split_str {x y : Str} : spSplit [.str x, .str y] σ Q = ((y.length = 1 ∧ x.length ≤ 1048576) ∧ newL ((Txt.split x y).map .str) σ Q) := rfl
theorem join_list {x : Str} {a : Addr} {ys : List Str} (h : σ a = some (.list (ys.map .str))) (hl : (ys.map (·.length)).sum + ys.length * x.length ≤ 16777216) (q : Q (.str (Str.join x ys)) σ) : spJoin [.str x, .ref a] σ Q := ⟨ys, h, hl, q⟩
theorem isi_list {a : Addr} {xs : List V} (h : σ a = some (.list xs)) : spIsi [.ref a, .ty "list"] σ Q = Q (.bool true) σ := by
  simp [spIsi, Mine.isi, h]
@[simp] theorem isi_bool {b : Bool} : spIsi [.bool b, .ty "bool"] σ Q = Q (.bool true) σ := by simp [spIsi, Mine.isi]
@[simp] theorem isi_str {b : Str} : spIsi [.str b, .ty "str"] σ Q = Q (.bool true) σ := by simp [spIsi, Mine.isi]
@[simp] theorem isi_int {b : Int} : spIsi [.int b, .ty "int"] σ Q = Q (.bool true) σ := by simp [spIsi, Mine.isi]
@[simp] theorem isi_tup {vs : List V} : spIsi [.tup vs, .ty "tuple"] σ Q = Q (.bool true) σ := by simp [spIsi, Mine.isi]
theorem isi_dict {a : Addr} {kvs : List (Str × V)} {ep : Nat} (h : σ a = some (.dict kvs ep)) : spIsi [.ref a, .ty "dict"] σ Q = Q (.bool true) σ := by
  simp [spIsi, Mine.isi, h]
@[simp] theorem tyStr_str {x : Str} : tyStr (.str x) σ = True := rfl
theorem tyList_ref {a : Addr} {xs : List V} (h : σ a = some (.list xs)) : tyList (.ref a) σ = True := by simp [tyList, h]
@[simp] theorem range_1 {n : Int} {R : List V → (View → Prop) → View → Prop} : rangeOf [.int n] σ R = ((-(2 ^ 62) ≤ n ∧ n < 2 ^ 62) ∧ R (rangeL 0 n.toNat) (fun _ => True) σ) := rfl
@[simp] theorem range_2 {a b : Int} {R : List V → (View → Prop) → View → Prop} : rangeOf [.int a, .int b] σ R = ((-(2 ^ 62) ≤ a ∧ a < 2 ^ 62 ∧ -(2 ^ 62) ≤ b ∧ b < 2 ^ 62) ∧ R (rangeL a (b - a).toNat) (fun _ => True) σ) := rfl
@[simp] theorem iter_str {x : Str} {R : List V → (View → Prop) → View → Prop} : iterOf ns (.str x) σ R = R (signs x) (fun _ => True) σ := rfl
theorem iter_list {a : Addr} {xs : List V} (h : σ a = some (.list xs)) {R : List V → (View → Prop) → View → Prop} : iterOf ns (.ref a) σ R = R xs (fun σ => σ a = some (.list xs)) σ := by unfold iterOf; simp [h]
theorem item_list {a : Addr} {xs : List V} {i : Int} {v : V} (h : σ a = some (.list xs)) (h0 : 0 ≤ i) (hv : xs[i.toNat]? = some v) (q : Q v σ) : opItem ns (.ref a) (.int i) σ Q := by
  refine ⟨xs, i.toNat, v, h, ?_, hv, q⟩
  have hlt := (List.getElem?_eq_some_iff.mp hv).1
  unfold idx
  rw [if_pos h0, if_pos (by omega)]
theorem item_last {a : Addr} {xs : List V} {v : V} (h : σ a = some (.list (xs ++ [v]))) (q : Q v σ) : opItem ns (.ref a) (.int (-1)) σ Q := by
  refine ⟨xs ++ [v], xs.length, v, h, ?_, by simp, q⟩
  unfold idx
  rw [if_neg (by decide), if_pos (by simp; omega)]
  simp
  omega
theorem item_str {x : Str} {i : Int} {c : Nat} (hz : x.length < 16777217) (h0 : 0 ≤ i) (hv : x.cps.toList[i.toNat]? = some c) (q : Q (.str ⟨#[c]⟩) σ) : opItem ns (.str x) (.int i) σ Q := by
  refine ⟨hz, i.toNat, c, ?_, hv, q⟩
  have hlt := (List.getElem?_eq_some_iff.mp hv).1
  have : x.length = x.cps.toList.length := by simp [Str.length]
  unfold idx
  rw [if_pos h0, if_pos (by rw [this]; omega)]
theorem set_listI {a : Addr} {xs : List V} {i : Int} {v : V} {R : View → Prop} (h : σ a = some (.list xs)) (h0 : 0 ≤ i) (hi : i.toNat < xs.length) (q : R (upd σ a (.list (xs.set i.toNat v)))) : setL (.ref a) (.int i) v σ R := by
  refine ⟨xs, i.toNat, h, ?_, q⟩
  unfold idx
  rw [if_pos h0, if_pos (by omega)]
theorem cut_list {a : Addr} {xs : List V} {lo hi : Option Int} (h : σ a = some (.list xs)) (q : newL (pyCut xs lo hi) σ Q) : opCut ns lo hi (.ref a) σ Q := ⟨xs, h, q⟩
theorem append_list {a : Addr} {xs : List V} {v : V} (h : σ a = some (.list xs)) (hz : xs.length < 16777216) (q : Q .none (upd σ a (.list (xs ++ [v])))) : spAppend [.ref a, v] σ Q := ⟨xs, h, hz, q⟩
/-- the script's cell -/
theorem cell_item {k : Int} (h0 : 0 ≤ k) (h : k < ns.length) (q : Q (.int (cell ns k)) σ) : opItem ns .script (.int k) σ Q := by
  refine ⟨k.toNat, ns.getD k.toNat 0, h0, ?_, ?_, q⟩
  · unfold idx; rw [if_pos h0, if_pos h]
  · rw [List.getD_eq_getElem?_getD]
    cases e : ns[k.toNat]? with
    | none => rw [List.getElem?_eq_none_iff] at e; omega
    | some n => rfl
theorem cell_out {k : Int} (h0 : 0 ≤ k) (h : ¬ k < ns.length) : cell ns k = 0 := by
  unfold cell
  rw [List.getD_eq_getElem?_getD, List.getElem?_eq_none (by omega)]; rfl
theorem cut_take {α : Type} (l : List α) {n : Int} (h0 : 0 ≤ n) : pyCut l Option.none (some n) = l.take n.toNat := by
  unfold pyCut clip clipAt
  simp
  rw [if_neg (by omega)]; omega
theorem cut_drop {α : Type} (l : List α) {n : Int} (h0 : 0 ≤ n) : pyCut l (some n) Option.none = l.drop n.toNat := by
  unfold pyCut clip clipAt
  simp only [Option.elim]
  rw [if_neg (by omega)]
  have e : (max 0 (min n (l.length : Int))).toNat = min n.toNat l.length := by omega
  rw [e]
  by_cases h : n.toNat ≤ l.length
  · rw [Nat.min_eq_left h, List.take_of_length_le (by simp)]
  · rw [Nat.min_eq_right (by omega), List.drop_length, List.drop_of_length_le (by omega)]; simp
theorem cut_init {α : Type} (l : List α) : pyCut l Option.none (some (-1)) = l.dropLast := by
  unfold pyCut clip clipAt
  simp only [Option.elim]
  rw [if_pos (by decide), List.dropLast_eq_take]
  have e : (max 0 (min (-1 + (l.length : Int)) (l.length : Int))).toNat - 0 = l.length - 1 := by omega
  rw [e]; simp
end
end Mine

end
section
set_option autoImplicit false
namespace Mine
open PySem PySem.W PyProof.Rows PySem.Calls

/- texts as lists of signs -/
abbrev cl (x : Str) : List Nat := x.cps.toList
theorem cl_inj {x y : Str} (h : cl x = cl y) : x = y := by
  cases x; cases y; simp [cl] at h; rw [h]
theorem cl_append (x y : Str) : cl (x ++ y) = cl x ++ cl y := by
  show (x.cps ++ y.cps).toList = _; simp
theorem cl_len (x : Str) : x.length = (cl x).length := by simp [Str.length]
def jn (c : Nat) : List (List Nat) → List Nat
  | [] => []
  | [x] => x
  | x :: y :: r => x ++ c :: jn c (y :: r)
theorem cl_join (c : Nat) : ∀ xs : List Str, cl (Str.join ⟨#[c]⟩ xs) = jn c (xs.map cl)
  | [] => rfl
  | [x] => rfl
  | x :: y :: r => by
    have ih := cl_join c (y :: r)
    simp only [List.map_cons] at ih
    simp only [List.map_cons, jn, Str.join, cl_append, ih]
    rw [List.append_assoc]; rfl
def Free (c : Nat) (xs : List (List Nat)) : Prop := ∀ x ∈ xs, c ∉ x
theorem cut_eq {c : Nat} : ∀ {x y a b : List Nat}, c ∉ x → c ∉ y → x ++ c :: a = y ++ c :: b → x = y ∧ a = b
  | [], [], a, b, _, _, h => by simp at h; exact ⟨rfl, h⟩
  | [], d :: y, a, b, _, hy, h => by simp at h; exact absurd (h.1 ▸ List.mem_cons_self ..) hy
  | d :: x, [], a, b, hx, _, h => by simp at h; exact absurd (h.1 ▸ List.mem_cons_self ..) hx
  | d :: x, e :: y, a, b, hx, hy, h => by
    simp at h hx hy
    obtain ⟨rfl, h⟩ := h
    obtain ⟨rfl, rfl⟩ := cut_eq hx.2 hy.2 h
    exact ⟨rfl, rfl⟩
theorem jn_inj {c : Nat} : ∀ {xs ys : List (List Nat)}, Free c xs → Free c ys → xs ≠ [] → ys ≠ [] → jn c xs = jn c ys → xs = ys
  | [], _, _, _, h, _, _ => absurd rfl h
  | _, [], _, _, _, h, _ => absurd rfl h
  | [x], [y], _, _, _, _, e => by simp [jn] at e; rw [e]
  | [x], y :: z :: r, fx, _, _, _, e => by
    simp only [jn] at e
    exact absurd (by rw [e]; simp) (fx x (.head _))
  | x :: z :: r, [y], _, fy, _, _, e => by
    simp only [jn] at e
    exact absurd (by rw [← e]; simp) (fy y (.head _))
  | x :: z :: r, y :: u :: q, fx, fy, _, _, e => by
    simp only [jn] at e
    obtain ⟨rfl, e'⟩ := cut_eq (fx x (.head _)) (fy y (.head _)) e
    rw [jn_inj (fun a h => fx a (.tail _ h)) (fun a h => fy a (.tail _ h)) (by simp) (by simp) e']
theorem jn_prefix {c : Nat} : ∀ {xs ys : List (List Nat)}, Free c xs → Free c ys → xs ≠ [] → ys ≠ [] → (jn c xs ++ [c] <+: jn c ys ↔ xs.length < ys.length ∧ ys.take xs.length = xs)
  | [], _, _, _, h, _ => absurd rfl h
  | _, [], _, _, _, h => absurd rfl h
  | [x], [y], _, fy, _, _ => by
    simp only [jn]
    constructor
    · rintro ⟨t, e⟩; exact absurd (by rw [← e]; simp) (fy y (.head _))
    · rintro ⟨h, _⟩; simp at h
  | x :: z :: r, [y], _, fy, _, _ => by
    simp only [jn]
    constructor
    · rintro ⟨t, e⟩; exact absurd (by rw [← e]; simp) (fy y (.head _))
    · rintro ⟨h, _⟩; simp at h
  | [x], y :: u :: q, fx, fy, _, _ => by
    simp only [jn]
    constructor
    · rintro ⟨t, e⟩
      obtain ⟨rfl, _⟩ := cut_eq (a := t) (fx x (.head _)) (fy y (.head _)) (by simpa using e)
      simp
    · rintro ⟨_, h⟩
      simp at h
      subst h
      exact ⟨jn c (u :: q), by simp⟩
  | x :: z :: r, y :: u :: q, fx, fy, _, _ => by
    have ih := jn_prefix (c := c) (xs := z :: r) (ys := u :: q) (fun a h => fx a (.tail _ h)) (fun a h => fy a (.tail _ h)) (by simp) (by simp)
    simp only [jn]
    constructor
    · rintro ⟨t, e⟩
      obtain ⟨rfl, e'⟩ := cut_eq (a := jn c (z :: r) ++ [c] ++ t) (fx x (.head _)) (fy y (.head _)) (by simpa using e)
      obtain ⟨h1, h2⟩ := ih.mp ⟨t, e'⟩
      exact ⟨by simpa using h1, by simpa using h2⟩
    · rintro ⟨h1, h2⟩
      simp only [List.length_cons, List.take_succ_cons, List.cons.injEq] at h1 h2
      obtain ⟨rfl, h2⟩ := h2
      obtain ⟨t, e⟩ := ih.mpr ⟨by simpa using h1, by simpa using h2⟩
      exact ⟨t, by rw [← e]; simp⟩
/- the slash -/
def Fr (x : Str) : Prop := 47 ∉ cl x
theorem sl_eq : Str.ofString "/" = ⟨#[47]⟩ := by decide +kernel
theorem free_map {xs : List Str} (h : ∀ x ∈ xs, Fr x) : Free 47 (xs.map cl) := fun a ha => by
  obtain ⟨x, hx, rfl⟩ := List.mem_map.mp ha; exact h x hx
theorem map_cl_inj : ∀ {xs ys : List Str}, xs.map cl = ys.map cl → xs = ys
  | [], [], _ => rfl
  | [], _ :: _, h => by simp at h
  | _ :: _, [], h => by simp at h
  | x :: xs, y :: ys, h => by simp only [List.map_cons, List.cons.injEq] at h; rw [cl_inj h.1, map_cl_inj h.2]
theorem join_inj {xs ys : List Str} (fx : ∀ x ∈ xs, Fr x) (fy : ∀ y ∈ ys, Fr y) (nx : xs ≠ []) (ny : ys ≠ []) (h : Str.join (Str.ofString "/") xs = Str.join (Str.ofString "/") ys) : xs = ys := by
  refine map_cl_inj (jn_inj (free_map fx) (free_map fy) (by simpa using nx) (by simpa using ny) ?_)
  rw [← cl_join, ← cl_join, ← sl_eq, h]
theorem split_join {xs : List Str} (fx : ∀ x ∈ xs, Fr x) (nx : xs ≠ []) : Txt.split (Str.join (Str.ofString "/") xs) (Str.ofString "/") = xs := by
  refine join_inj ?_ fx ?_ nx (StrLaws.join_split _ _)
  · intro y hy
    rw [sl_eq] at hy
    exact StrLaws.split_free _ 47 y hy
  · intro e
    have := PyProof.Rows.split_pos (Str.join (Str.ofString "/") xs) (Str.ofString "/")
    rw [e] at this; simp at this
theorem starts_iff (x y : Str) : Txt.startswith x y = true ↔ cl y <+: cl x := by
  unfold Txt.startswith
  rw [StrLaws.subAt_eq, cl_len, cl_len, List.prefix_iff_eq_take]
  simp
  constructor
  · rintro ⟨_, h⟩; exact h.symm
  · intro h; refine ⟨?_, h.symm⟩
    have := congrArg List.length h
    simp at this
    omega
theorem starts_join {xs ys : List Str} (fx : ∀ x ∈ xs, Fr x) (fy : ∀ y ∈ ys, Fr y) (nx : xs ≠ []) (ny : ys ≠ []) :
    Txt.startswith (Str.join (Str.ofString "/") ys) (Str.join (Str.ofString "/") xs ++ Str.ofString "/") = decide (xs.length < ys.length ∧ ys.take xs.length = xs) := by
  rw [Bool.eq_iff_iff, starts_iff, decide_eq_true_eq, cl_append, sl_eq, cl_join, cl_join]
  have := jn_prefix (free_map fx) (free_map fy) (by simpa using nx) (by simpa using ny)
  rw [show cl ⟨#[47]⟩ = [47] from rfl, this]
  simp only [List.length_map, ← List.map_take]
  constructor
  · rintro ⟨h, e⟩; exact ⟨h, map_cl_inj e⟩
  · rintro ⟨h, e⟩; exact ⟨h, by rw [e]⟩
def joinLen (xs : List Str) : Nat := (xs.map (·.length)).sum + xs.length
theorem join_len_le : ∀ (xs : List Str), (Str.join (Str.ofString "/") xs).length ≤ joinLen xs
  | [] => by simp [Str.join, joinLen, Str.length, Str.empty]
  | [x] => by simp [Str.join, joinLen]
  | x :: y :: r => by
    have ih := join_len_le (y :: r)
    have e : (Str.join (Str.ofString "/") (x :: y :: r)).length = x.length + 1 + (Str.join (Str.ofString "/") (y :: r)).length := by
      have : Str.join (Str.ofString "/") (x :: y :: r) = x ++ Str.ofString "/" ++ Str.join (Str.ofString "/") (y :: r) := rfl
      rw [this, cl_len, cl_append, cl_append, List.length_append, List.length_append, ← cl_len, ← cl_len, ← cl_len, sl_eq]
      rfl
    rw [e]
    simp [joinLen] at ih ⊢
    omega
theorem sl_len : (Str.ofString "/").length = 1 := by rw [sl_eq]; rfl
end Mine

end
section
set_option autoImplicit false
namespace Mine
open PySem PySem.W PyProof.Rows PySem.Calls

/- constants of the text -/
def GStr (C : Cx) (x : String) (v : Str) : Prop := ∃ t, C.mg (Str.ofString x) = some (.str v t)
def GInt (C : Cx) (x : String) (v : Int) : Prop := ∃ t, C.mg (Str.ofString x) = some (.int v t)
section
variable {C : Cx} {p : Program} {sc : Scope} {k : Nat}
theorem HE.gstr (O : C.Ok) {x : String} {pos : Pos} {v : Str} (h : sc.names.lookup (Str.ofString x) = some .globalImplicit) (hg : GStr C x v) (hd : (Str.ofString x == ("__debug__" : Str)) = false) : HE C sc k (.Name (Str.ofString x) pos) (eVal (.str v)) := by
  obtain ⟨t, e⟩ := hg
  exact HE.glob O h e (fun _ => .str v t) hd
theorem HE.gint (O : C.Ok) {x : String} {pos : Pos} {v : Int} (h : sc.names.lookup (Str.ofString x) = some .globalImplicit) (hg : GInt C x v) (hd : (Str.ofString x == ("__debug__" : Str)) = false) : HE C sc k (.Name (Str.ofString x) pos) (eVal (.int v)) := by
  obtain ⟨t, e⟩ := hg
  exact HE.glob O h e (fun _ => .int v t) hd
theorem GStr.of {loose : List Str} {mean : ExcName → Option Value} (T : Top p loose mean C.mg C.mb C.hB) {x : String} {v : Str} (h : valOf p (Str.ofString x) = some (.str v)) : GStr C x v := by
  obtain ⟨w, h1, h2⟩ := T.const _ _ h
  cases h2 C.hB with
  | str _ t => exact ⟨t, h1⟩
theorem GInt.of {loose : List Str} {mean : ExcName → Option Value} (T : Top p loose mean C.mg C.mb C.hB) {x : String} {v : Int} (h : valOf p (Str.ofString x) = some (.int v)) : GInt C x v := by
  obtain ⟨w, h1, h2⟩ := T.const _ _ h
  cases h2 C.hB with
  | int _ t => exact ⟨t, h1⟩
/- text times int -/
def opMulS : O2
  | .str x, .int n, σ, Q => MulOk x n ∧ Q (.str (Txt.mul x n)) σ
  | _, _, _, _ => False
theorem ok_mulS : Op2 C k (binaryOp .Mult) opMulS := by
  intro A s σ a b wa wb Q P E ao R va vb q hP
  cases a <;> first | exact q.elim | skip
  cases b <;> first | exact q.elim | skip
  cases va; cases vb
  exact SB.mul q.1 fun t' k => hP _ _ σ _ (.str _ _) (R.tok _) Step.refl q.2
end
@[simp] theorem mulS_eq {σ : View} {Q : V → View → Prop} {x : Str} {n : Int} : opMulS (.str x) (.int n) σ Q = (MulOk x n ∧ Q (.str (Txt.mul x n)) σ) := rfl
/- lists of texts compared -/
theorem all2_str {n : Nat} {σ : View} : ∀ {xs ys : List Str}, xs.length = ys.length → all2 (veqN n σ) (xs.map .str) (ys.map .str) = some (decide (xs = ys))
  | [], [], _ => rfl
  | [], _ :: _, h => by simp at h
  | _ :: _, [], h => by simp at h
  | x :: xs, y :: ys, h => by
    have ih := all2_str (n := n) (σ := σ) (xs := xs) (ys := ys) (by simpa using h)
    have e : veqN n σ (.str x) (.str y) = some (decide (x = y)) := by cases n <;> rfl
    simp only [List.map_cons, all2, ih, e]
    simp
theorem eq_strs {σ : View} {a b : Addr} {xs ys : List Str} {Q : V → View → Prop} (ha : σ a = some (.list (xs.map .str))) (hb : σ b = some (.list (ys.map .str))) (q : Q (.bool (decide (xs = ys))) σ) : opEq (.ref a) (.ref b) σ Q := by
  refine ⟨decide (xs = ys), ?_, q⟩
  simp only [veqN, ha, hb, List.length_map]
  split
  · rename_i h; exact all2_str h
  · rename_i h
    have : xs ≠ ys := by rintro rfl; exact h rfl
    simp [this]
end Mine

end
section
set_option autoImplicit false
namespace Mine
open PySem PySem.W PyProof.Rows PySem.Calls

/- dicts with texts as keys -/
def vstored (kvs : List (Str × V)) (k : Str) (v : V) : List (Str × V) :=
  if kvs.any (fun kv => kv.1 = k) then kvs.map (fun kv => if kv.1 = k then (kv.1, v) else kv) else kvs ++ [(k, v)]
def vget (kvs : List (Str × V)) (k : Str) : Option V := (kvs.find? fun kv => kv.1 = k).map (·.2)
def vout (kvs : List (Str × V)) (k : Str) : List (Str × V) := kvs.filter fun kv => decide (kv.1 ≠ k)
section
variable {aS : Addr} {h : Heap}
theorem PRel.any : ∀ {a : List (Str × V)} {b : List (Str × Value)} (k : Str), PRel aS h a b → (a.any fun kv => kv.1 = k) = (b.any fun kv => kv.1 = k)
  | [], [], _, _ => rfl
  | (_, _) :: _, (_, _) :: _, k, ⟨e, _, r⟩ => by simp only [List.any_cons, e, PRel.any k r]
theorem PRel.append : ∀ {a a' : List (Str × V)} {b b' : List (Str × Value)}, PRel aS h a b → PRel aS h a' b' → PRel aS h (a ++ a') (b ++ b')
  | [], _, [], _, _, x => x
  | (_, _) :: _, _, (_, _) :: _, _, ⟨e, v, r⟩, x => ⟨e, v, PRel.append r x⟩
theorem PRel.mapSet {k : Str} {v : V} {w : Value} (hv : VRel aS h v w) : ∀ {a : List (Str × V)} {b : List (Str × Value)}, PRel aS h a b → PRel aS h (a.map fun kv => if kv.1 = k then (kv.1, v) else kv) (b.map fun kv => if kv.1 = k then (kv.1, w) else kv)
  | [], [], _ => trivial
  | (x, u) :: _, (y, z) :: _, ⟨e, q, r⟩ => by
    simp only [List.map_cons]
    by_cases c : x = k
    · rw [if_pos c, if_pos (e ▸ c)]; exact ⟨e, hv, PRel.mapSet hv r⟩
    · rw [if_neg c, if_neg (e ▸ c)]; exact ⟨e, q, PRel.mapSet hv r⟩
theorem PRel.stored {k : Str} {v : V} {w : Value} {a : List (Str × V)} {b : List (Str × Value)} (x : PRel aS h a b) (hv : VRel aS h v w) : PRel aS h (vstored a k v) (PySem.stored b k w) := by
  unfold vstored PySem.stored
  rw [x.any k]
  split
  · exact x.mapSet hv
  · exact x.append ⟨rfl, hv, trivial⟩
theorem PRel.find {k : Str} : ∀ {a : List (Str × V)} {b : List (Str × Value)}, PRel aS h a b → ∀ {v : V}, vget a k = some v → ∃ w, valueAt b k = some w ∧ VRel aS h v w
  | [], [], _, v, e => by simp [vget] at e
  | (x, u) :: _, (y, z) :: _, ⟨e, q, r⟩, v, hv => by
    unfold vget at hv
    unfold valueAt
    by_cases c : x = k
    · rw [List.find?_cons_of_pos (by simpa using c)] at hv
      rw [List.find?_cons_of_pos (by simpa using e ▸ c)]
      cases hv; exact ⟨z, rfl, q⟩
    · rw [List.find?_cons_of_neg (by simpa using c)] at hv
      rw [List.find?_cons_of_neg (by simpa using e ▸ c)]
      exact PRel.find r hv
theorem PRel.none {k : Str} : ∀ {a : List (Str × V)} {b : List (Str × Value)}, PRel aS h a b → (vget a k).isSome = (valueAt b k).isSome
  | [], [], _ => rfl
  | (x, u) :: _, (y, z) :: _, ⟨e, q, r⟩ => by
    unfold vget valueAt
    by_cases c : x = k
    · rw [List.find?_cons_of_pos (by simpa using c), List.find?_cons_of_pos (by simpa using e ▸ c)]; rfl
    · rw [List.find?_cons_of_neg (by simpa using c), List.find?_cons_of_neg (by simpa using e ▸ c)]
      exact PRel.none r
theorem PRel.without {k : Str} : ∀ {a : List (Str × V)} {b : List (Str × Value)}, PRel aS h a b → PRel aS h (vout a k) (PySem.without b k)
  | [], [], _ => trivial
  | (x, u) :: _, (y, z) :: _, ⟨e, q, r⟩ => by
    unfold vout PySem.without
    have ih := PRel.without (k := k) r
    unfold vout PySem.without at ih
    by_cases c : x = k
    · rw [List.filter_cons_of_neg (by simpa using c), List.filter_cons_of_neg (by simpa using e ▸ c)]; exact ih
    · rw [List.filter_cons_of_pos (by simpa using c), List.filter_cons_of_pos (by simpa using e ▸ c)]; exact ⟨e, q, ih⟩
end
section
variable {C : Cx} {p : Program} {sc : Scope} {k : Nat}
theorem key_is (x : Str) (t : Tok) : (strKind C.prog C.w).is x (.str x t) = true := by
  show Value.isStrOf x (.str x t) = true
  simp [Value.isStrOf]
/- {} -/
def newD (kvs : List (Str × V)) (σ : View) (Q : V → View → Prop) : Prop := ∀ a ep, σ a = Option.none → Q (.ref a) (upd σ a (.dict kvs ep))
def eDict0 : ET := fun _ σ Q => newD [] σ Q
theorem HE.dict0 {pos : Pos} : HE C sc k (.Dict [] [] pos) eDict0 := by
  refine ⟨?_⟩; intro env A s m σ Q P E en ao R F q hP
  have hn := size_none s.heap
  obtain ⟨ep, hat⟩ := (Heap.DictOf.new (knd := strKind C.prog C.w) s.heap).dictAt
  refine wpAny_Dict_empty (hP (.ref s.heap.objs.size) (.ref s.heap.objs.size) (upd σ s.heap.objs.size (.dict [] ep)) _ (.ref _) ?_ .addPush (q _ ep (R.freshNone hn)))
  have := R.add (tk := s.toks) (a := s.heap.objs.size) (o := .dict [] ep) push_old hn (h' := s.heap.push { cls := .type "dict", data := .dict #[] }) ⟨by simp, [], hat, trivial⟩
  exact this
/- d[k] = v -/
def setD : V → V → V → View → (View → Prop) → Prop
  | .ref a, .str k, v, σ, Q => ∃ kvs ep, σ a = some (.dict kvs ep) ∧ kvs.length < 16777216 ∧ ∀ ep', Q (upd σ a (.dict (vstored kvs k v) ep'))
  | _, _, _, _, _ => False
theorem dict_notT {h : Heap} {a : Addr} {kws : List (Str × Value)} {ep : Nat} (x : h.DictAt (strKind C.prog C.w) a kws ep) : ∀ o, h.get? a = some o → ¬ IsT o := by
  intro o ho
  obtain ⟨o', es, ho', hc, hd, _⟩ := x
  rw [ho] at ho'; cases ho'
  simp [IsT, hd]
theorem vstored_len (kvs : List (Str × V)) (x : Str) (v : V) : (vstored kvs x v).length ≤ kvs.length + 1 := by
  unfold vstored; split <;> simp
theorem ok_setD : OpSet C k setD := by
  intro A s σ o i v wo wi w Q P E ao R vo vi vv q hP
  unfold setD at q
  split at q
  · rename_i a x
    cases vo; cases vi
    obtain ⟨kvs, ep, hx, hz, q⟩ := q
    obtain ⟨_, kws, h1, h2⟩ := R.view _ _ hx
    have hl := h2.length
    refine wpAny_setItem_pairs (knd := strKind C.prog C.w) (key_is x _) h1.dictOf (fun h' hd' hs' => ?_) (by rw [sizeLine_eq, ← hl]; omega)
    obtain ⟨ep', hat⟩ := hd'.dictAt
    have kt : TupKeep s.heap h' := fun b o eb ht => hs'.extBut b o (by rintro rfl; exact dict_notT h1 o eb ht) eb
    have vl := vstored_len kvs x v
    exact hP (upd σ a (.dict (vstored kvs x v) ep')) _ (R.change (tk := s.toks + 1) hx hs' ⟨by omega, _, hat, (h2.stored vv).keep kt⟩) (.change hx hs') (q ep')
  · exact q.elim
/- k in d -/
def opInD : O2
  | .str x, .ref a, σ, Q => ∃ kvs ep, σ a = some (.dict kvs ep) ∧ Q (.bool (vget kvs x).isSome) σ
  | _, _, _, _ => False
theorem ok_inD (O : C.Ok) : Op2 C k (compareOp .In) opInD := by
  intro A s σ a b wa wb Q P E ao R va vb q hP
  unfold opInD at q
  split at q
  · rename_i x a
    cases va; cases vb
    obtain ⟨kvs, ep, hx, q⟩ := q
    obtain ⟨_, kws, h1, h2⟩ := R.view _ _ hx
    refine wpAny_in_of (knd := strKind C.prog C.w) (key_is x _) (O.noMods (R.apart a (by rw [hx]; simp))) h1.dictOf.mapOf ?_
    rw [← h2.none]
    exact hP _ _ σ _ (.bool _) (R.tok _) Step.refl q
  · exact q.elim
/- d[k] -/
def opItemD : O2
  | .ref a, .str x, σ, Q => ∃ kvs ep v, σ a = some (.dict kvs ep) ∧ vget kvs x = some v ∧ Q v σ
  | _, _, _, _ => False
/- list(d) -/
def spListD : Spec
  | [.ref a], σ, Q => match σ a with
    | some (.dict kvs _) => newL (kvs.map fun q => .str q.1) σ Q
    | some (.list xs) => newL xs σ Q
    | _ => False
  | _, _, _ => False
theorem items_rel {aS : Addr} {h : Heap} : ∀ (vs : List V) (ws : List Value), ws.length = vs.length → (∀ (j : Nat) (v : V) w, vs[j]? = some v → ws[j]? = some w → VRel aS h v w) → VRels aS h vs ws
  | [], [], _, _ => .nil
  | [], _ :: _, h, _ => by simp at h
  | _ :: _, [], h, _ => by simp at h
  | v :: vs, w :: ws, hl, hj => .cons (hj 0 v w rfl rfl) (items_rel vs ws (by simpa using hl) fun j v w e1 e2 => hj (j + 1) v w (by simpa using e1) (by simpa using e2))
theorem ok_listD (O : C.Ok) : OpN C k (fun ws => PySem.call (.type "list") ws) spListD := by
  intro A s σ vs ws Q P E ao R hv q hP
  unfold spListD at q
  split at q
  · rename_i a
    obtain ⟨wa, rfl, h1⟩ := hv.inv1
    cases h1
    split at q
    · rename_i kvs ep hx
      obtain ⟨hz, kws, h2, h3⟩ := R.view _ _ hx
      have hl := h3.length
      refine with_size (kdl_call (kdl_dict (knd := strKind C.prog C.w) (kvs := kws) (ep := ep) (O.noMods (R.apart a (by rw [hx]; simp)))) ao.handled h2 (kdl_size (by omega)) fun h' tk acc c hk hD hacc => ?_)
      intro hsz
      have hn := size_none s.heap
      have rel : VRels C.aS h' (kvs.map fun q => .str q.1) acc.toList := by
        refine items_rel _ _ (by simp [hacc.1, hl]) fun j v w e1 e2 => ?_
        rw [List.getElem?_map] at e1
        obtain ⟨⟨ky, u⟩, e3, rfl⟩ := Option.map_eq_some_iff.mp e1
        obtain ⟨k', x', e4, e5⟩ := hacc.2 j w (by rw [← Array.getElem?_toList]; exact e2)
        obtain ⟨w', e6, _⟩ := h3.get e3
        rw [e6] at e4; cases e4
        obtain ⟨t, rfl⟩ := Value.isStrOf_shape e5
        exact .str _ _
      refine hP (.ref s.heap.objs.size) _ (upd σ s.heap.objs.size (.list (kvs.map fun q => .str q.1))) _ (.ref _) (R.add (tk := tk) hk hn ⟨by simp; omega, acc.toList, ⟨c, by simpa using hD⟩, rel⟩) (.add hk hsz (Nat.le_refl _)) (q _ (R.freshNone hn))
    · rename_i xs hx
      obtain ⟨hz, us, ⟨n, h2⟩, h3⟩ := R.view _ _ hx
      have hl := h3.length
      refine with_size (call_list_seq a (.inl rfl) h2 rfl rfl (fun h' c' hk hD => ?_) (by rw [List.size_toArray, sizeLine_eq]; omega))
      intro hsz
      have hn := size_none s.heap
      exact hP (.ref s.heap.objs.size) _ (upd σ s.heap.objs.size (.list xs)) _ (.ref _) (R.add (tk := s.toks) hk hn ⟨hz, us, ⟨c', by simpa using hD⟩, h3.keep fun b o e _ => hk b o e⟩) (.add hk hsz (Nat.le_refl _)) (q _ (R.freshNone hn))
    · exact q.elim
  · exact q.elim
end
end Mine

end
section
set_option autoImplicit false
namespace Mine
open PySem PySem.W PyProof.Rows PySem.Calls

section
variable {C : Cx} {p : Program} {sc : Scope} {k : Nat}
theorem ok_itemD {slice : Expr} (hsl : isSlice slice = false) : Op2 C k (fun o i => getitemInPython o >>= fun b => subscripted slice b o i) opItemD := by
  intro A s σ a b wa wb Q P E ao R va vb q hP
  unfold opItemD at q
  split at q
  · rename_i a x
    cases va; cases vb
    obtain ⟨kvs, ep, v, hx, hv, q⟩ := q
    obtain ⟨_, kws, h1, h2⟩ := R.view _ _ hx
    obtain ⟨w, e1, e2⟩ := h2.find hv
    exact item_tree hsl h1.dictOf.typeIs slot_dict_getitem.lookup (wpAny_getItem_of (knd := strKind C.prog C.w) (key_is x _) h1.dictOf.mapOf e1 (hP _ _ σ _ e2 (R.tok _) Step.refl q))
  · exact q.elim
theorem HE.itemD {value slice : Expr} {pos : Pos} {T U : ET} (hv : HE C sc k value T) (hi : HE C sc k slice U) (hs : isSlice slice = false) : HE C sc k (.Subscript value slice pos) (eBin opItemD T U) :=
  HE.sub hv hi (ok_itemD hs)
/- the methods -/
def tyDict : V → View → Prop
  | .ref a, σ => ∃ kvs ep, σ a = some (.dict kvs ep)
  | _, _ => False
theorem tyDict_ok : TyOk C "dict" tyDict := by
  intro o wo σ s R hv h
  cases hv <;> first | exact h.elim | skip
  obtain ⟨kvs, ep, hx⟩ := h
  obtain ⟨_, ws, h1, h2⟩ := R.view _ _ hx
  exact ⟨h1.dictOf.typeIs, h1.dictOf.mapOf.noDict⟩
theorem vout_len (kvs : List (Str × V)) (x : Str) : (vout kvs x).length ≤ kvs.length := List.length_filter_le _ _
def spPop : Spec
  | [.ref a, .str x], σ, Q => ∃ kvs ep v, σ a = some (.dict kvs ep) ∧ vget kvs x = some v ∧ ∀ ep', Q v (upd σ a (.dict (vout kvs x) ep'))
  | _, _, _ => False
theorem ok_pop : OpN C k (fun ws => PySem.call (.builtin "dict.pop") ws) spPop := by
  intro A s σ vs ws Q P E ao R hv q hP
  unfold spPop at q
  split at q
  · rename_i a x
    obtain ⟨wa, wb, rfl, h1, h2⟩ := hv.inv2
    cases h1; cases h2
    obtain ⟨kvs, ep, v, hx, hv, q⟩ := q
    obtain ⟨hz, kws, h1, h2⟩ := R.view _ _ hx
    obtain ⟨w, e1, e2⟩ := h2.find hv
    have hl := h2.length
    refine call_meetsIn F.slot_dict_pop h1.dictOf.typeIs F.entry_dict_pop (F.args_dict_pop_2 _ _) (meets_dict_pop_there (strKind C.prog C.w) a (key_is x _) [] (.inl rfl) rfl) ⟨kws, w, h1.dictOf, by rw [sizeLine_eq]; omega, e1, fun h' hd' hs' => ?_⟩
    obtain ⟨ep', hat⟩ := hd'.dictAt
    have kt : TupKeep s.heap h' := fun b o eb ht => hs'.extBut b o (by rintro rfl; exact dict_notT h1 o eb ht) eb
    have vl := vout_len kvs x
    exact hP v w (upd σ a (.dict (vout kvs x) ep')) _ (e2.keep kt) (R.change (tk := s.toks + 1) hx hs' ⟨by omega, _, hat, h2.without.keep kt⟩) (.change hx hs') (q ep')
  · exact q.elim
theorem HE.popD {o : Expr} {apos pos : Pos} {es : List Expr} {To : ET} {L : LT} (ho : HE C sc k o To) (hl : HL C sc k es L) (hp : plainArgs es = true)
    (hbase : ∀ env, attributeBase o (Str.ofString "pop") env (eval o env) = eval o env) (hline : (apos.endLine == pos.line) = true) (hfew : es.length < 30) : HE C sc k (.Call (.Attribute o (Str.ofString "pop") apos) es [] pos) (eMeth tyDict spPop To L) :=
  HE.meth tyDict_ok F.plainAttrs_dict F.slot_dict_pop F.type_dict_pop ok_pop ho hl hp hbase hline hfew
theorem HE.listC (G : Gl C p) {np pos : Pos} {es : List Expr} {L : LT} (hn : sc.names.lookup (Str.ofString "list") = some .globalImplicit) (hl : HL C sc k es L) (hp : plainArgs es = true) : HE C sc k (.Call (.Name (Str.ofString "list") np) es [] pos) (eCall spListD L) :=
  HE.btype G.ok (ok_listD G.ok) hn (G.free _ (by decide)) (G.blt bb_list (by decide)) rfl hl hp
/- list(d.items()) -/
def eItems (T : ET) : ET := fun m σ Q => T m σ fun v σ₁ => ∃ a kvs ep, v = .ref a ∧ σ₁ a = some (.dict kvs ep) ∧ newL (kvs.map fun q => .tup [.str q.1, q.2]) σ₁ Q
theorem HE.listItems (G : Gl C p) {np pos ap cp : Pos} {o : Expr} {T : ET} (hn : sc.names.lookup (Str.ofString "list") = some .globalImplicit) (ho : HE C sc k o T)
    (hbase : ∀ env, attributeBase o (Str.ofString "items") env (eval o env) = eval o env) (hline : (ap.endLine == cp.line) = true) :
    HE C sc k (.Call (.Name (Str.ofString "list") np) [.Call (.Attribute o (Str.ofString "items") ap) [] [] cp] [] pos) (eItems T) := by
  refine ⟨?_⟩; intro env A s m σ Q P E en ao R F q hP
  have O := G.ok
  refine wpAny_Call_NameR (Calls.Name_function_global en.k (en.of hn) (Calls.loadGlobal_builtin (mg := C.mg) (mb := C.mb) (by rw [en.globals]; exact O.g.keeps R.base) (G.free _ (by decide)) (by rw [en.builtins]; exact O.b.keeps R.base) (G.blt bb_list (by decide)) ?_) rfl)
  refine PySem.callWith_type (starEach_any rfl) (evalArgs_of rfl ?_)
  show wpAny _ A (spliced ((false, eval (.Call (.Attribute o (Str.ofString "items") ap) [] [] cp) env) :: backTo pos (starEach [] env))) _ E s
  refine Calls.spliced_cons ?_
  refine wpAny_Call_method (T := "dict") (id := "dict.items") (hbase env) rfl hline _root_.PySem.F.plainAttrs_dict _root_.PySem.F.slot_dict_items _root_.PySem.F.type_dict_items ?_
  refine ho.run env A s m σ _ _ E en ao R F q fun v w σ₁ s₁ hv R₁ S₁ q₁ => ?_
  obtain ⟨a, kvs, ep, rfl, hx, q₁⟩ := q₁
  cases hv
  obtain ⟨hz, kws, h1, h2⟩ := R₁.view _ _ hx
  refine ⟨h1.dictOf.typeIs, h1.dictOf.mapOf.noDict, ?_⟩
  show wpAny _ _ (callWith cp (.builtin "dict.items") [.ref a] [] []) _ E s₁
  refine method_meetsIn _root_.PySem.F.slot_dict_items _root_.PySem.F.entry_dict_items rfl (PySem.evalArgs_none ⟨rfl, h1.dictOf.typeIs, _root_.PySem.F.args_dict_items_1 _, _, meets_dict_items (strKind C.prog C.w) a (O.noMods (R₁.apart a (by rw [hx]; simp))), ⟨kws, h1.dictOf⟩, ?_⟩)
  refine Calls.spliced_nil ?_
  show wpAny _ A (PySem.call (.type "list") [.ref s₁.heap.objs.size]) P E _
  have hl := h2.length
  refine with_size (kdx_call (knd := strKind C.prog C.w) (kvs := kws) (ep := ep) ao.handled ⟨_, Heap.get?_push_size _ rfl, rfl, rfl⟩ (h1.push _) (kdl_size (by omega)) fun h' tk acc c as hk hD hla hG hacc => ?_)
  intro hsz
  have hk' : ∀ b o, s₁.heap.get? b = some o → h'.get? b = some o := fun b o e => hk b o (Heap.get?_push_of_some _ e)
  have hkt : TupKeep s₁.heap h' := fun b o e _ => hk' b o e
  have rel : VRels C.aS h' (kvs.map fun q => .tup [.str q.1, q.2]) acc.toList := by
    refine items_rel _ _ (by rw [hacc]; simp [hla, hl]) fun j v w e1 e2 => ?_
    rw [List.getElem?_map] at e1
    obtain ⟨⟨ky, u⟩, e3, rfl⟩ := Option.map_eq_some_iff.mp e1
    rw [hacc, List.getElem?_map] at e2
    obtain ⟨b, e4, rfl⟩ := Option.map_eq_some_iff.mp e2
    obtain ⟨key, k', x', e5, e6, e7⟩ := hG.pairs j b e4
    obtain ⟨w', e8, e9⟩ := h2.get e3
    rw [e8] at e5; cases e5
    obtain ⟨t, rfl⟩ := Value.isStrOf_shape e6
    exact .tup (ws := [.str ky t, _]) ⟨_, e7, rfl, _, rfl⟩ (.cons (.str _ _) (.cons (e9.keep hkt) .nil))
  have hn1 : (s₁.heap.push { cls := .type "dict_items", data := .fields #[.ref a] }).get? ((s₁.heap.push { cls := .type "dict_items", data := .fields #[.ref a] }).objs.size) = Option.none := size_none _
  have hn2 : s₁.heap.get? ((s₁.heap.push { cls := .type "dict_items", data := .fields #[.ref a] }).objs.size) = Option.none := get_none_of_size (by rw [Heap.size_push]; exact Nat.le_succ _)
  have hsz' : s₁.heap.objs.size ≤ h'.objs.size := Nat.le_trans (by rw [Heap.size_push]; exact Nat.le_succ _) hsz
  exact hP (.ref _) _ (upd σ₁ _ (.list (kvs.map fun q => .tup [.str q.1, q.2]))) _ (.ref _) (R₁.add (tk := tk) hk' hn2 ⟨by simp; omega, acc.toList, ⟨c, by simpa using hD⟩, rel⟩) (S₁.trans (.add hk' hsz' (by rw [Heap.size_push]; exact Nat.le_succ _))) (q₁ _ (R₁.freshNone hn2))
end
end Mine

end
section
set_option autoImplicit false
namespace Mine
open PySem PySem.W PyProof.Rows PySem.Calls
theorem compL_all {g : Tgt} {inv : View → Prop} {T : ET} {m : Loc} (P : View → Prop) (R : Nat → V → Prop) (hinv : ∀ σ, P σ → inv σ) :
    ∀ (items acc : List V) (n : Nat) (σ : View) (Q : List V → View → Prop), acc.length + items.length ≤ 1048576 →
    (∀ (i : Nat) v, items[i]? = some v → ∀ σ (Q' : V → View → Prop), P σ → (∀ y σ', P σ' → R (n + i) y → Q' y σ') → ∃ m', bindT g v m = some m' ∧ T m' σ Q') →
    P σ → (∀ ys σ', P σ' → ys.length = items.length → (∀ (i : Nat) y, ys[i]? = some y → R (n + i) y) → Q (acc ++ ys) σ') → compL g inv tT T m items acc σ Q
  | [], acc, n, σ, Q, hz, step, p, q => by
    simp only [compL]
    exact ⟨hinv σ p, by simpa using q [] σ p rfl (fun i y e => by simp at e)⟩
  | v :: r, acc, n, σ, Q, hz, step, p, q => by
    simp only [compL]
    simp at hz
    obtain ⟨m', h1, h2⟩ := step 0 v rfl σ (fun y σ₂ => acc.length < 1048576 ∧ compL g inv tT T m r (acc ++ [y]) σ₂ Q) p (fun y σ' p' hy => by
      refine ⟨by omega, compL_all P R hinv r (acc ++ [y]) (n + 1) σ' Q (by simp; omega) (fun i v e => ?_) p' fun ys σ'' p'' hl hR => ?_⟩
      · have := step (i + 1) v (by simpa using e)
        rw [show n + (i + 1) = n + 1 + i by omega] at this
        exact this
      · have := q (y :: ys) σ'' p'' (by simp [hl]) fun i z e => by
          cases i with
          | zero => simp at e; subst e; exact hy
          | succ i => rw [show n + (i + 1) = n + 1 + i by omega]; exact hR i z (by simpa using e)
        simpa using this)
    exact ⟨hinv σ p, m', h1, by simpa [tT] using h2⟩
section
variable {σ : View} {Q : V → View → Prop} {ns : List Int}
theorem add_list {a b : Addr} {xs ys : List V} (ha : σ a = some (.list xs)) (hb : σ b = some (.list ys)) (hz : xs.length + ys.length ≤ 16777216) (q : newL (xs ++ ys) σ Q) : opAdd (.ref a) (.ref b) σ Q := ⟨xs, ys, ha, hb, hz, q⟩
@[simp] theorem eDict0_eq {m : Loc} : eDict0 m σ Q = newD [] σ Q := rfl
@[simp] theorem eItems_eq {m : Loc} {T : ET} : eItems T m σ Q = T m σ fun v σ₁ => ∃ a kvs ep, v = .ref a ∧ σ₁ a = some (.dict kvs ep) ∧ newL (kvs.map fun q => .tup [.str q.1, q.2]) σ₁ Q := rfl
theorem set_dict {a : Addr} {kvs : List (Str × V)} {ep : Nat} {x : Str} {v : V} {R : View → Prop} (h : σ a = some (.dict kvs ep)) (hz : kvs.length < 16777216) (q : ∀ ep', R (upd σ a (.dict (vstored kvs x v) ep'))) : setD (.ref a) (.str x) v σ R := ⟨kvs, ep, h, hz, q⟩
theorem in_dict {a : Addr} {kvs : List (Str × V)} {ep : Nat} {x : Str} (h : σ a = some (.dict kvs ep)) (q : Q (.bool (vget kvs x).isSome) σ) : opInD (.str x) (.ref a) σ Q := ⟨kvs, ep, h, q⟩
theorem item_dict {a : Addr} {kvs : List (Str × V)} {ep : Nat} {x : Str} {v : V} (h : σ a = some (.dict kvs ep)) (hv : vget kvs x = some v) (q : Q v σ) : opItemD (.ref a) (.str x) σ Q := ⟨kvs, ep, v, h, hv, q⟩
theorem pop_dict {a : Addr} {kvs : List (Str × V)} {ep : Nat} {x : Str} {v : V} (h : σ a = some (.dict kvs ep)) (hv : vget kvs x = some v) (q : ∀ ep', Q v (upd σ a (.dict (vout kvs x) ep'))) : spPop [.ref a, .str x] σ Q := ⟨kvs, ep, v, h, hv, q⟩
theorem listc_dict {a : Addr} {kvs : List (Str × V)} {ep : Nat} (h : σ a = some (.dict kvs ep)) : spListD [.ref a] σ Q = newL (kvs.map fun q => .str q.1) σ Q := by unfold spListD; simp [h]
theorem listc_list {a : Addr} {xs : List V} (h : σ a = some (.list xs)) : spListD [.ref a] σ Q = newL xs σ Q := by unfold spListD; simp [h]
theorem tyDict_ref {a : Addr} {kvs : List (Str × V)} {ep : Nat} (h : σ a = some (.dict kvs ep)) : tyDict (.ref a) σ = True := by simp [tyDict, h]
theorem iter_dict {a : Addr} {kvs : List (Str × V)} {ep : Nat} (h : σ a = some (.dict kvs ep)) {R : List V → (View → Prop) → View → Prop} : iterOf ns (.ref a) σ R = R (kvs.map fun q => .str q.1) (fun σ => σ a = some (.dict kvs ep)) σ := by unfold iterOf; simp [h]
end
/- keys -/
theorem vget_isSome (kvs : List (Str × V)) (x : Str) : (vget kvs x).isSome = decide (x ∈ kvs.map (·.1)) := by
  unfold vget
  rw [Option.isSome_map, Bool.eq_iff_iff, List.find?_isSome]
  simp
theorem vget_mem {kvs : List (Str × V)} {x : Str} (h : x ∈ kvs.map (·.1)) : ∃ v, vget kvs x = some v ∧ (x, v) ∈ kvs := by
  have := vget_isSome kvs x
  rw [decide_eq_true h] at this
  obtain ⟨v, hv⟩ := Option.isSome_iff_exists.mp this
  refine ⟨v, hv, ?_⟩
  unfold vget at hv
  obtain ⟨⟨k', v'⟩, h1, h2⟩ := Option.map_eq_some_iff.mp hv
  have h3 := List.find?_some h1
  have h4 := List.mem_of_find?_eq_some h1
  simp at h3 h2
  subst h3; subst h2; exact h4
theorem vstored_mem {kvs : List (Str × V)} {k : Str} {v : V} {q : Str × V} (h : q ∈ vstored kvs k v) : q = (k, v) ∨ q ∈ kvs := by
  unfold vstored at h
  split at h
  · obtain ⟨r, hr, rfl⟩ := List.mem_map.mp h
    by_cases c : r.1 = k
    · rw [if_pos c, c]; exact .inl rfl
    · rw [if_neg c]; exact .inr hr
  · rcases List.mem_append.mp h with h | h
    · exact .inr h
    · simp at h; exact .inl h
theorem vstored_keys (kvs : List (Str × V)) (k : Str) (v : V) : ∀ x, x ∈ (vstored kvs k v).map (·.1) ↔ x = k ∨ x ∈ kvs.map (·.1) := by
  intro x
  unfold vstored
  split
  · rename_i h
    have e : (kvs.map fun kv => if kv.1 = k then (kv.1, v) else kv).map (·.1) = kvs.map (·.1) := by
      rw [List.map_map]; apply List.map_congr_left; intro q _; simp only [Function.comp]; split <;> rfl
    rw [e]
    have hk : k ∈ kvs.map (·.1) := by
      obtain ⟨q, hq, e⟩ := List.any_eq_true.mp h
      exact List.mem_map.mpr ⟨q, hq, by simpa using e⟩
    constructor
    · exact .inr
    · rintro (rfl | h)
      · exact hk
      · exact h
  · simp only [List.map_append, List.mem_append, List.map_cons, List.map_nil, List.mem_singleton]
    constructor
    · rintro (h | h)
      · exact .inr h
      · exact .inl h
    · rintro (h | h)
      · exact .inr h
      · exact .inl h
theorem vstored_nodup {kvs : List (Str × V)} {k : Str} {v : V} (h : (kvs.map (·.1)).Nodup) : ((vstored kvs k v).map (·.1)).Nodup := by
  unfold vstored
  split
  · have e : (kvs.map fun kv => if kv.1 = k then (kv.1, v) else kv).map (·.1) = kvs.map (·.1) := by
      rw [List.map_map]; apply List.map_congr_left; intro q _; simp only [Function.comp]; split <;> rfl
    rw [e]; exact h
  · rename_i hn
    rw [List.map_append, List.nodup_append]
    refine ⟨h, by simp, ?_⟩
    intro a ha b hb
    simp at hb
    subst hb
    rintro rfl
    obtain ⟨q, hq, e⟩ := List.mem_map.mp ha
    exact hn (List.any_eq_true.mpr ⟨q, hq, by simpa using e⟩)
theorem vout_keys (kvs : List (Str × V)) (k : Str) : ∀ x, x ∈ (vout kvs k).map (·.1) ↔ x ≠ k ∧ x ∈ kvs.map (·.1) := by
  intro x
  unfold vout
  constructor
  · intro h
    obtain ⟨q, hq, rfl⟩ := List.mem_map.mp h
    obtain ⟨h1, h2⟩ := List.mem_filter.mp hq
    exact ⟨by simpa using h2, List.mem_map.mpr ⟨q, h1, rfl⟩⟩
  · rintro ⟨h1, h2⟩
    obtain ⟨q, hq, rfl⟩ := List.mem_map.mp h2
    exact List.mem_map.mpr ⟨q, List.mem_filter.mpr ⟨hq, by simpa using h1⟩, rfl⟩
theorem vout_nodup {kvs : List (Str × V)} {k : Str} (h : (kvs.map (·.1)).Nodup) : ((vout kvs k).map (·.1)).Nodup := h.sublist (List.filter_sublist.map _)
theorem vout_mem {kvs : List (Str × V)} {k : Str} {q : Str × V} (h : q ∈ vout kvs k) : q ∈ kvs := (List.mem_filter.mp h).1
end Mine

end
section
open PySem PySem.W PyProof.Rows
set_option Elab.async false
set_option maxRecDepth 100000
set_option maxHeartbeats 8000000
open_top hd for PySem.Challenge.rw_uf050007_03

end
section
set_option autoImplicit false
namespace Mine
open PySem PySem.W PyProof.Rows PySem.Calls

def ALS : Str := Str.ofString "abcdefghijklmnopqrstuvwxyzABCDEFGHIJKLMNOPQRSTUVWXYZ0123456789.-_"
def okPart (x : Str) : Bool := decide (x ≠ Str.ofString "." ∧ x ≠ Str.ofString ".." ∧ 1 ≤ x.length ∧ x.length ≤ 12) && (cl x).all fun c => Txt.contains ALS ⟨#[c]⟩
def okPath (x : Str) : Bool := decide ((Txt.split x (Str.ofString "/")).length ≤ 8) && (Txt.split x (Str.ofString "/")).all okPart
def aboveL (x : Str) : List Str := (List.range ((Txt.split x (Str.ofString "/")).length - 1)).map fun i => Str.join (Str.ofString "/") ((Txt.split x (Str.ofString "/")).take (i + 1))
def signBy (k : Int) : Str := ⟨#[(cl ALS).getD (k % 65).toNat 0]⟩
def okTree (ks : List Str) : Bool := ks.all fun x => okPath x && (aboveL x).all fun y => !decide (y ∈ ks)

def sp__law_cell_at (ns : List Int) : Spec := fun vs σ Q => ∃ k, vs = [.script, .int k] ∧ 0 ≤ k ∧ Q (.int (cell ns k)) σ
def sp__law_sign_by (_ns : List Int) : Spec := fun vs σ Q => ∃ k, vs = [.int k] ∧ Q (.str (signBy k)) σ
def sp_is_part (_ns : List Int) : Spec := fun vs σ Q => ∃ x, vs = [.str x] ∧ x.length ≤ 1000 ∧ Q (.bool (okPart x)) σ
def sp_is_path (_ns : List Int) : Spec := fun vs σ Q => ∃ x, vs = [.str x] ∧ x.length ≤ 1000 ∧ ∀ σ', Grow σ σ' → Q (.bool (okPath x)) σ'
def sp_above (_ns : List Int) : Spec := fun vs σ Q => ∃ x, vs = [.str x] ∧ x.length ≤ 1000 ∧ newG ((aboveL x).map .str) σ Q
def sp__law_name_by (_ns : List Int) : Spec := fun vs σ Q => ∃ c s, vs = [.int c, .int s] ∧ ∀ (x : Str) σ', Grow σ σ' → okPart x = true → Q (.str x) σ'
def sp__law_path_by (_ns : List Int) : Spec := fun vs σ Q => ∃ c s, vs = [.int c, .int s] ∧ ∀ (x : Str) σ', Grow σ σ' → okPath x = true → x.length ≤ 200 → Q (.str x) σ'
def sp__law_line_by (_ns : List Int) : Spec := fun vs σ Q => ∃ c s, vs = [.int c, .int s] ∧ ∀ (x : Str) σ', Grow σ σ' → x.length ≤ 1000 → Q (.str x) σ'
def sp_is_tree (_ns : List Int) : Spec := fun vs σ Q => ∃ a kvs ep, vs = [.ref a] ∧ σ a = some (.dict kvs ep) ∧ (∀ q ∈ kvs, q.1.length ≤ 1000) ∧ ∀ σ', Grow σ σ' → Q (.bool (okTree (kvs.map (·.1)))) σ'
def sp_law (_ns : List Int) : Spec := spLaw
end Mine

end
section
set_option autoImplicit false
set_option maxRecDepth 100000
set_option maxHeartbeats 4000000
set_option linter.unusedVariables false
namespace Mine
open PySem PySem.W PyProof.Rows PySem.Calls

def T_is_part_1 (ns : List Int) : ST :=
  (sIf (tOr (tBool (eBin opEq0 (eName "text") (eVal (.str (Str.ofString "."))))) (tOr (tBool (eBin opEq0 (eName "text") (eVal (.str (Str.ofString ".."))))) (tOr (tNot (tCmp2 opLe opLe (eVal (.int 1)) (eCall (spLen ns) (lCons (eName "text") lNil)) (eVal (.int 12)))) tF))) (sSeq (sRet (eVal (.bool false)))
  sNil) sNil)
def T_is_part_2 (ns : List Int) : ST :=
  (sFor (.name "sign") (iOf ns (eName "text")) (sSeq (sIf (tBool (eBin opNotInS (eName "sign") (eVal (.str (Str.ofString "abcdefghijklmnopqrstuvwxyzABCDEFGHIJKLMNOPQRSTUVWXYZ0123456789.-_"))))) (sSeq (sRet (eVal (.bool false)))
  sNil) sNil)
  sNil))
def T_is_part_3 (ns : List Int) : ST :=
  (sRet (eVal (.bool true)))
def T_is_part (ns : List Int) : ST := (sSeq (T_is_part_1 ns) (sSeq (T_is_part_2 ns) (sSeq (T_is_part_3 ns) sNil)))
theorem b_is_part {C : Cx} (G : Gl C hd.view_39) (g_LONGEST_PART : GInt C "LONGEST_PART" 12) (g_SIGNS : GStr C "SIGNS" (Str.ofString "abcdefghijklmnopqrstuvwxyzABCDEFGHIJKLMNOPQRSTUVWXYZ0123456789.-_"))  : HS C (scopeAt hd.view_39 3) 0 (bodyAt hd.view_39 3) (T_is_part C.ns) :=
  (HS.cons (HS1.ite (HB.boolOp (HBs.or (HB.cmp ok_eq0 (HE.name rfl rfl) HE.str rfl) (HBs.or (HB.cmp ok_eq0 (HE.name rfl rfl) HE.str rfl) (HBs.or (HB.not (HB.cmp2 ok_le ok_le HE.int (HE.len G rfl (HL.cons (HE.name rfl rfl) HL.nil rfl) rfl) (HE.gint G.ok rfl g_LONGEST_PART rfl) rfl)) HBs.orNil)))) (HS.cons (HS1.ret HE.bool)
  HS.nil) HS.nil)
  (HS.cons (HS1.for (HT.name rfl) (HI.of G.ok (HE.name rfl rfl)) (HS.cons (HS1.ite (HB.cmp ok_notInS (HE.name rfl rfl) (HE.gstr G.ok rfl g_SIGNS rfl) rfl) (HS.cons (HS1.ret HE.bool)
  HS.nil) HS.nil)
  HS.nil) (fun _ _ => rfl))
  (HS.cons (HS1.ret HE.bool)
  HS.nil)))
theorem f_is_part {C : Cx} (G : Gl C hd.view_39) (g_LONGEST_PART : GInt C "LONGEST_PART" 12) (g_SIGNS : GStr C "SIGNS" (Str.ofString "abcdefghijklmnopqrstuvwxyzABCDEFGHIJKLMNOPQRSTUVWXYZ0123456789.-_"))  (hspec : ∀ vs σ Q, sp_is_part C.ns vs σ Q → vs.length = 1 ∧ T_is_part C.ns (bindM ["text"] vs none') σ (fin Q)) : FnAt C 0 "is_part" (sp_is_part C.ns) :=
  FnAt.mk (xs := ["text"]) G 0 3 rfl rfl rfl rfl rfl (fun ws pm code doc h => by
    obtain ⟨w0, rfl⟩ := len1 h
    rfl) rfl (b_is_part G g_LONGEST_PART g_SIGNS ) hspec
def T_is_path_1 (ns : List Int) : ST :=
  (sSet "parts" (eMeth tyStr spSplit (eName "text") (lCons (eVal (.str (Str.ofString "/"))) lNil)))
def T_is_path_2 (ns : List Int) : ST :=
  (sIf (tBool (eBin opGt (eCall (spLen ns) (lCons (eName "parts") lNil)) (eVal (.int 8)))) (sSeq (sRet (eVal (.bool false)))
  sNil) sNil)
def T_is_path_3 (ns : List Int) : ST :=
  (sFor (.name "part") (iOf ns (eName "parts")) (sSeq (sIf (tNot (tBool (eCall (sp_is_part ns) (lCons (eName "part") lNil)))) (sSeq (sRet (eVal (.bool false)))
  sNil) sNil)
  sNil))
def T_is_path_4 (ns : List Int) : ST :=
  (sRet (eVal (.bool true)))
def T_is_path (ns : List Int) : ST := (sSeq (T_is_path_1 ns) (sSeq (T_is_path_2 ns) (sSeq (T_is_path_3 ns) (sSeq (T_is_path_4 ns) sNil))))
theorem b_is_path {C : Cx} (G : Gl C hd.view_39) (g_MOST_PARTS : GInt C "MOST_PARTS" 8) (h_is_part : FnAt C 0 "is_part" (sp_is_part C.ns)) : HS C (scopeAt hd.view_39 4) 1 (bodyAt hd.view_39 4) (T_is_path C.ns) :=
  (HS.cons (HS1.set (.inl rfl) (HE.split (HE.name rfl rfl) (HL.cons HE.str HL.nil rfl) rfl (fun _ => rfl) rfl (by decide)) (fun _ _ => rfl))
  (HS.cons (HS1.ite (HB.cmp ok_gt (HE.len G rfl (HL.cons (HE.name rfl rfl) HL.nil rfl) rfl) (HE.gint G.ok rfl g_MOST_PARTS rfl) rfl) (HS.cons (HS1.ret HE.bool)
  HS.nil) HS.nil)
  (HS.cons (HS1.for (HT.name rfl) (HI.of G.ok (HE.name rfl rfl)) (HS.cons (HS1.ite (HB.not (HB.val (HE.callAt G h_is_part (by decide) rfl rfl (HL.cons (HE.name rfl rfl) HL.nil rfl) rfl) (fun _ _ => rfl))) (HS.cons (HS1.ret HE.bool)
  HS.nil) HS.nil)
  HS.nil) (fun _ _ => rfl))
  (HS.cons (HS1.ret HE.bool)
  HS.nil))))
theorem f_is_path {C : Cx} (G : Gl C hd.view_39) (g_MOST_PARTS : GInt C "MOST_PARTS" 8) (h_is_part : FnAt C 0 "is_part" (sp_is_part C.ns)) (hspec : ∀ vs σ Q, sp_is_path C.ns vs σ Q → vs.length = 1 ∧ T_is_path C.ns (bindM ["text"] vs none') σ (fin Q)) : FnAt C 1 "is_path" (sp_is_path C.ns) :=
  FnAt.mk (xs := ["text"]) G 1 4 rfl rfl rfl rfl rfl (fun ws pm code doc h => by
    obtain ⟨w0, rfl⟩ := len1 h
    rfl) rfl (b_is_path G g_MOST_PARTS h_is_part) hspec
def T_above_1 (ns : List Int) : ST :=
  (sSet "parts" (eMeth tyStr spSplit (eName "path") (lCons (eVal (.str (Str.ofString "/"))) lNil)))
def T_above_2 (ns : List Int) : ST :=
  (sRet (eComp ["parts"] (.name "size") (iRange (lCons (eVal (.int 1)) (lCons (eCall (spLen ns) (lCons (eName "parts") lNil)) lNil))) tT (eMeth tyStr spJoin (eVal (.str (Str.ofString "/"))) (lCons (eCut ns (eName "parts") pNone (pSome (eName "size"))) lNil))))
def T_above (ns : List Int) : ST := (sSeq (T_above_1 ns) (sSeq (T_above_2 ns) sNil))
theorem b_above {C : Cx} (G : Gl C hd.view_39)   : HS C (scopeAt hd.view_39 5) 0 (bodyAt hd.view_39 5) (T_above C.ns) :=
  (HS.cons (HS1.set (.inr rfl) (HE.split (HE.name rfl rfl) (HL.cons HE.str HL.nil rfl) rfl (fun _ => rfl) rfl (by decide)) (fun _ _ => rfl))
  (HS.cons (HS1.ret (HE.comp (CompOk.of rfl) (HI.rng G rfl (HL.cons HE.int (HL.cons (HE.len G rfl (HL.cons (HE.cell rfl rfl) HL.nil rfl) rfl) HL.nil rfl) rfl) rfl) (HT.name rfl) HTs.nil (HE.join HE.str (HL.cons (HE.cut G.ok (HE.cell rfl rfl) HP.none (HP.some (HE.name rfl rfl))) HL.nil rfl) rfl (fun _ => rfl) rfl (by decide)) (fun _ _ => rfl)))
  HS.nil))
theorem f_above {C : Cx} (G : Gl C hd.view_39)   (hspec : ∀ vs σ Q, sp_above C.ns vs σ Q → vs.length = 1 ∧ T_above C.ns (bindM ["path"] vs none') σ (fin Q)) : FnAt C 0 "above" (sp_above C.ns) :=
  FnAt.mk (xs := ["path"]) G 2 5 rfl rfl rfl rfl rfl (fun ws pm code doc h => by
    obtain ⟨w0, rfl⟩ := len1 h
    rfl) rfl (b_above G  ) hspec
def T_is_tree_1 (ns : List Int) : ST :=
  (sFor (.name "path") (iOf ns (eName "files")) (sSeq (sIf (tNot (tBool (eCall (sp_is_path ns) (lCons (eName "path") lNil)))) (sSeq (sRet (eVal (.bool false)))
  sNil) sNil)
  (sSeq (sFor (.name "folder") (iOf ns (eCall (sp_above ns) (lCons (eName "path") lNil))) (sSeq (sIf (tBool (eBin opInD (eName "folder") (eName "files"))) (sSeq (sRet (eVal (.bool false)))
  sNil) sNil)
  sNil))
  sNil)))
def T_is_tree_2 (ns : List Int) : ST :=
  (sRet (eVal (.bool true)))
def T_is_tree (ns : List Int) : ST := (sSeq (T_is_tree_1 ns) (sSeq (T_is_tree_2 ns) sNil))
theorem b_is_tree {C : Cx} (G : Gl C hd.view_39)  (h_is_path : FnAt C 1 "is_path" (sp_is_path C.ns)) (h_above : FnAt C 0 "above" (sp_above C.ns)) : HS C (scopeAt hd.view_39 6) 2 (bodyAt hd.view_39 6) (T_is_tree C.ns) :=
  (HS.cons (HS1.for (HT.name rfl) (HI.of G.ok (HE.name rfl rfl)) (HS.cons (HS1.ite (HB.not (HB.val (HE.callAt G h_is_path (by decide) rfl rfl (HL.cons (HE.name rfl rfl) HL.nil rfl) rfl) (fun _ _ => rfl))) (HS.cons (HS1.ret HE.bool)
  HS.nil) HS.nil)
  (HS.cons (HS1.for (HT.name rfl) (HI.of G.ok (HE.callAt G h_above (by decide) rfl rfl (HL.cons (HE.name rfl rfl) HL.nil rfl) rfl)) (HS.cons (HS1.ite (HB.cmp (ok_inD G.ok) (HE.name rfl rfl) (HE.name rfl rfl) rfl) (HS.cons (HS1.ret HE.bool)
  HS.nil) HS.nil)
  HS.nil) (fun _ _ => rfl))
  HS.nil)) (fun _ _ => rfl))
  (HS.cons (HS1.ret HE.bool)
  HS.nil))
theorem f_is_tree {C : Cx} (G : Gl C hd.view_39)  (h_is_path : FnAt C 1 "is_path" (sp_is_path C.ns)) (h_above : FnAt C 0 "above" (sp_above C.ns)) (hspec : ∀ vs σ Q, sp_is_tree C.ns vs σ Q → vs.length = 1 ∧ T_is_tree C.ns (bindM ["files"] vs none') σ (fin Q)) : FnAt C 2 "is_tree" (sp_is_tree C.ns) :=
  FnAt.mk (xs := ["files"]) G 3 6 rfl rfl rfl rfl rfl (fun ws pm code doc h => by
    obtain ⟨w0, rfl⟩ := len1 h
    rfl) rfl (b_is_tree G  h_is_path h_above) hspec
def T__law_cell_at_1 (ns : List Int) : ST :=
  (sIf (tBool (eBin opLt (eName "_law_k") (eCall (spLen ns) (lCons (eName "_law_script") lNil)))) (sSeq (sRet (eBin (opItem ns) (eName "_law_script") (eName "_law_k")))
  sNil) sNil)
def T__law_cell_at_2 (ns : List Int) : ST :=
  (sRet (eVal (.int 0)))
def T__law_cell_at (ns : List Int) : ST := (sSeq (T__law_cell_at_1 ns) (sSeq (T__law_cell_at_2 ns) sNil))
theorem b__law_cell_at {C : Cx} (G : Gl C hd.view_39)   : HS C (scopeAt hd.view_39 7) 0 (bodyAt hd.view_39 7) (T__law_cell_at C.ns) :=
  (HS.cons (HS1.ite (HB.cmp ok_lt (HE.name rfl rfl) (HE.len G rfl (HL.cons (HE.name rfl rfl) HL.nil rfl) rfl) rfl) (HS.cons (HS1.ret (HE.item G (HE.name rfl rfl) (HE.name rfl rfl) rfl))
  HS.nil) HS.nil)
  (HS.cons (HS1.ret HE.int)
  HS.nil))
theorem f__law_cell_at {C : Cx} (G : Gl C hd.view_39)   (hspec : ∀ vs σ Q, sp__law_cell_at C.ns vs σ Q → vs.length = 2 ∧ T__law_cell_at C.ns (bindM ["_law_script", "_law_k"] vs none') σ (fin Q)) : FnAt C 0 "_law_cell_at" (sp__law_cell_at C.ns) :=
  FnAt.mk (xs := ["_law_script", "_law_k"]) G 4 7 rfl rfl rfl rfl rfl (fun ws pm code doc h => by
    obtain ⟨w0, w1, rfl⟩ := len2 h
    rfl) rfl (b__law_cell_at G  ) hspec
def T__law_sign_by_1 (ns : List Int) : ST :=
  (sRet (eBin (opItem ns) (eVal (.str (Str.ofString "abcdefghijklmnopqrstuvwxyzABCDEFGHIJKLMNOPQRSTUVWXYZ0123456789.-_"))) (eBin opMod (eName "_law_k") (eVal (.int 65)))))
def T__law_sign_by (ns : List Int) : ST := (sSeq (T__law_sign_by_1 ns) sNil)
theorem b__law_sign_by {C : Cx} (G : Gl C hd.view_39)   : HS C (scopeAt hd.view_39 8) 0 (bodyAt hd.view_39 8) (T__law_sign_by C.ns) :=
  (HS.cons (HS1.ret (HE.item G HE.str (HE.bin ok_mod (HE.name rfl rfl) HE.int) rfl))
  HS.nil)
theorem f__law_sign_by {C : Cx} (G : Gl C hd.view_39)   (hspec : ∀ vs σ Q, sp__law_sign_by C.ns vs σ Q → vs.length = 1 ∧ T__law_sign_by C.ns (bindM ["_law_k"] vs none') σ (fin Q)) : FnAt C 0 "_law_sign_by" (sp__law_sign_by C.ns) :=
  FnAt.mk (xs := ["_law_k"]) G 5 8 rfl rfl rfl rfl rfl (fun ws pm code doc h => by
    obtain ⟨w0, rfl⟩ := len1 h
    rfl) rfl (b__law_sign_by G  ) hspec
def T__law_name_by_1 (ns : List Int) : ST :=
  (sSet "_law_size" (eVal (.int 1)))
def T__law_name_by_2 (ns : List Int) : ST :=
  (sIf (tBool (eBin opEq0 (eBin opMod (eBin opDiv (eName "_law_shift") (eVal (.int 65))) (eVal (.int 3))) (eVal (.int 1)))) (sSeq (sSet "_law_size" (eBin opAdd (eVal (.int 1)) (eBin opMod (eBin opDiv (eName "_law_shift") (eVal (.int 195))) (eVal (.int 12)))))
  sNil) sNil)
def T__law_name_by_3 (ns : List Int) : ST :=
  (sSet "_law_way" (eBin opMod (eBin opDiv (eName "_law_shift") (eVal (.int 5))) (eVal (.int 4))))
def T__law_name_by_4 (ns : List Int) : ST :=
  (sSet "_law_rest" (eComp ["_law_shift", "_law_k", "_law_way"] (.name "_law_j") (iRange (lCons (eVal (.int 12)) lNil)) tT (eCall (sp__law_sign_by ns) (lCons (eBin opAdd (eBin opAdd (eBin opDiv (eName "_law_shift") (eVal (.int 195))) (eBin opMul (eVal (.int 7)) (eName "_law_j"))) (eBin opMul (eName "_law_k") (eCall spInt (lCons (eBin opEq0 (eName "_law_way") (eVal (.int 0))) lNil)))) lNil))))
def T__law_name_by_5 (ns : List Int) : ST :=
  (sSet "_law_at" (eBin opMul (eBin opMod (eBin opDiv (eName "_law_shift") (eVal (.int 20))) (eName "_law_size")) (eCall spInt (lCons (eBin opEq0 (eName "_law_way") (eVal (.int 1))) lNil))))
def T__law_name_by_6 (ns : List Int) : ST :=
  (sSet "_law_told" (eCall (sp__law_sign_by ns) (lCons (eBin opAdd (eName "_law_shift") (eBin opMul (eName "_law_k") (eBin (opItem ns) (eList (lCons (eVal (.int 1)) (lCons (eVal (.int 26)) lNil))) (eCall spInt (lCons (eBin opEq0 (eName "_law_way") (eVal (.int 3))) lNil))))) lNil)))
def T__law_name_by_7 (ns : List Int) : ST :=
  (sSet "_law_name" (eBin opAdd (eBin opAdd (eMeth tyStr spJoin (eVal (.str (Str.ofString ""))) (lCons (eCut ns (eName "_law_rest") pNone (pSome (eName "_law_at"))) lNil)) (eName "_law_told")) (eMeth tyStr spJoin (eVal (.str (Str.ofString ""))) (lCons (eCut ns (eName "_law_rest") (pSome (eName "_law_at")) (pSome (eBin opSub (eName "_law_size") (eVal (.int 1))))) lNil))))
def T__law_name_by_8 (ns : List Int) : ST :=
  (sIf (tBool (eBin opEq0 (eName "_law_way") (eVal (.int 2)))) (sSeq (sSet "_law_name" (eMeth tyStr spJoin (eVal (.str (Str.ofString ""))) (lCons (eCut ns (eName "_law_rest") pNone (pSome (eBin opAdd (eVal (.int 1)) (eBin opMod (eBin opAdd (eBin opDiv (eName "_law_shift") (eVal (.int 65))) (eName "_law_k")) (eVal (.int 12)))))) lNil)))
  sNil) sNil)
def T__law_name_by_9 (ns : List Int) : ST :=
  (sIf (tOr (tBool (eBin opEq0 (eName "_law_name") (eVal (.str (Str.ofString "."))))) (tOr (tBool (eBin opEq0 (eName "_law_name") (eVal (.str (Str.ofString ".."))))) tF)) (sSeq (sRet (eVal (.str (Str.ofString "0x"))))
  sNil) sNil)
def T__law_name_by_10 (ns : List Int) : ST :=
  (sRet (eName "_law_name"))
def T__law_name_by (ns : List Int) : ST := (sSeq (T__law_name_by_1 ns) (sSeq (T__law_name_by_2 ns) (sSeq (T__law_name_by_3 ns) (sSeq (T__law_name_by_4 ns) (sSeq (T__law_name_by_5 ns) (sSeq (T__law_name_by_6 ns) (sSeq (T__law_name_by_7 ns) (sSeq (T__law_name_by_8 ns) (sSeq (T__law_name_by_9 ns) (sSeq (T__law_name_by_10 ns) sNil))))))))))
theorem b__law_name_by {C : Cx} (G : Gl C hd.view_39)  (h__law_sign_by : FnAt C 0 "_law_sign_by" (sp__law_sign_by C.ns)) : HS C (scopeAt hd.view_39 9) 1 (bodyAt hd.view_39 9) (T__law_name_by C.ns) :=
  (HS.cons (HS1.set (.inl rfl) HE.int (fun _ _ => rfl))
  (HS.cons (HS1.ite (HB.cmp ok_eq0 (HE.bin ok_mod (HE.bin ok_div (HE.cell rfl rfl) HE.int) HE.int) HE.int rfl) (HS.cons (HS1.set (.inl rfl) (HE.bin ok_add HE.int (HE.bin ok_mod (HE.bin ok_div (HE.cell rfl rfl) HE.int) HE.int)) (fun _ _ => rfl))
  HS.nil) HS.nil)
  (HS.cons (HS1.set (.inr rfl) (HE.bin ok_mod (HE.bin ok_div (HE.cell rfl rfl) HE.int) HE.int) (fun _ _ => rfl))
  (HS.cons (HS1.setComp (CompOk.of rfl) (HI.rng G rfl (HL.cons HE.int HL.nil rfl) rfl) (HT.name rfl) HTs.nil (HE.callAt G h__law_sign_by (by decide) rfl rfl (HL.cons (HE.bin ok_add (HE.bin ok_add (HE.bin ok_div (HE.cell rfl rfl) HE.int) (HE.bin ok_mul HE.int (HE.name rfl rfl))) (HE.bin ok_mul (HE.cell rfl rfl) (HE.intC G rfl (HL.cons (HE.cmp ok_eq0 (HE.cell rfl rfl) HE.int rfl) HL.nil rfl) rfl))) HL.nil rfl) rfl) (fun _ _ => rfl) rfl (swaps_local rfl rfl rfl))
  (HS.cons (HS1.set (.inl rfl) (HE.bin ok_mul (HE.bin ok_mod (HE.bin ok_div (HE.cell rfl rfl) HE.int) (HE.name rfl rfl)) (HE.intC G rfl (HL.cons (HE.cmp ok_eq0 (HE.cell rfl rfl) HE.int rfl) HL.nil rfl) rfl)) (fun _ _ => rfl))
  (HS.cons (HS1.set (.inl rfl) (HE.callAt G h__law_sign_by (by decide) rfl rfl (HL.cons (HE.bin ok_add (HE.cell rfl rfl) (HE.bin ok_mul (HE.cell rfl rfl) (HE.item G (HE.list (HL.cons HE.int (HL.cons HE.int HL.nil rfl) rfl)) (HE.intC G rfl (HL.cons (HE.cmp ok_eq0 (HE.cell rfl rfl) HE.int rfl) HL.nil rfl) rfl) rfl))) HL.nil rfl) rfl) (fun _ _ => rfl))
  (HS.cons (HS1.set (.inl rfl) (HE.bin ok_add (HE.bin ok_add (HE.join HE.str (HL.cons (HE.cut G.ok (HE.name rfl rfl) HP.none (HP.some (HE.name rfl rfl))) HL.nil rfl) rfl (fun _ => rfl) rfl (by decide)) (HE.name rfl rfl)) (HE.join HE.str (HL.cons (HE.cut G.ok (HE.name rfl rfl) (HP.some (HE.name rfl rfl)) (HP.some (HE.bin ok_sub (HE.name rfl rfl) HE.int))) HL.nil rfl) rfl (fun _ => rfl) rfl (by decide))) (fun _ _ => rfl))
  (HS.cons (HS1.ite (HB.cmp ok_eq0 (HE.cell rfl rfl) HE.int rfl) (HS.cons (HS1.set (.inl rfl) (HE.join HE.str (HL.cons (HE.cut G.ok (HE.name rfl rfl) HP.none (HP.some (HE.bin ok_add HE.int (HE.bin ok_mod (HE.bin ok_add (HE.bin ok_div (HE.cell rfl rfl) HE.int) (HE.cell rfl rfl)) HE.int)))) HL.nil rfl) rfl (fun _ => rfl) rfl (by decide)) (fun _ _ => rfl))
  HS.nil) HS.nil)
  (HS.cons (HS1.ite (HB.boolOp (HBs.or (HB.cmp ok_eq0 (HE.name rfl rfl) HE.str rfl) (HBs.or (HB.cmp ok_eq0 (HE.name rfl rfl) HE.str rfl) HBs.orNil))) (HS.cons (HS1.ret HE.str)
  HS.nil) HS.nil)
  (HS.cons (HS1.ret (HE.name rfl rfl))
  HS.nil))))))))))
theorem f__law_name_by {C : Cx} (G : Gl C hd.view_39)  (h__law_sign_by : FnAt C 0 "_law_sign_by" (sp__law_sign_by C.ns)) (hspec : ∀ vs σ Q, sp__law_name_by C.ns vs σ Q → vs.length = 2 ∧ T__law_name_by C.ns (bindM ["_law_k", "_law_shift"] vs none') σ (fin Q)) : FnAt C 1 "_law_name_by" (sp__law_name_by C.ns) :=
  FnAt.mk (xs := ["_law_k", "_law_shift"]) G 6 9 rfl rfl rfl rfl rfl (fun ws pm code doc h => by
    obtain ⟨w0, w1, rfl⟩ := len2 h
    rfl) rfl (b__law_name_by G  h__law_sign_by) hspec
def T__law_path_by_1 (ns : List Int) : ST :=
  (sSet "_law_depth" (eBin (opItem ns) (eList (lCons (eVal (.int 1)) (lCons (eVal (.int 1)) (lCons (eVal (.int 2)) (lCons (eVal (.int 2)) (lCons (eVal (.int 3)) lNil)))))) (eBin opMod (eName "_law_cell") (eVal (.int 5)))))
def T__law_path_by_2 (ns : List Int) : ST :=
  (sSet "_law_parts" (eComp ["_law_cell", "_law_shift"] (.name "_law_j") (iRange (lCons (eName "_law_depth") lNil)) tT (eCall (sp__law_name_by ns) (lCons (eBin opMod (eBin opDiv (eBin opDiv (eName "_law_cell") (eVal (.int 5))) (eBin (opItem ns) (eList (lCons (eVal (.int 1)) (lCons (eVal (.int 3)) (lCons (eVal (.int 9)) lNil)))) (eName "_law_j"))) (eVal (.int 3))) (lCons (eName "_law_shift") lNil)))))
def T__law_path_by_3 (ns : List Int) : ST :=
  (sIf (tBool (eBin opEq0 (eBin opMod (eName "_law_shift") (eVal (.int 7))) (eVal (.int 3)))) (sSeq (sSet "_law_parts" (eBin opAdd (eComp ["_law_shift"] (.name "_law_j") (iRange (lCons (eBin opAdd (eVal (.int 1)) (eBin opMod (eBin opDiv (eName "_law_shift") (eVal (.int 7))) (eVal (.int 5)))) lNil)) tT (eCall (sp__law_name_by ns) (lCons (eBin opAdd (eVal (.int 3)) (eName "_law_j")) (lCons (eName "_law_shift") lNil)))) (eName "_law_parts")))
  (sSeq (sIf (tBool (eBin opEq0 (eBin opMod (eName "_law_cell") (eVal (.int 13))) (eVal (.int 6)))) (sSeq (sSet "_law_parts" (eCut ns (eName "_law_parts") pNone (pSome (eBin opAdd (eVal (.int 1)) (eBin opMod (eBin opDiv (eName "_law_cell") (eVal (.int 13))) (eCall (spLen ns) (lCons (eName "_law_parts") lNil)))))))
  sNil) sNil)
  sNil)) sNil)
def T__law_path_by_4 (ns : List Int) : ST :=
  (sRet (eMeth tyStr spJoin (eVal (.str (Str.ofString "/"))) (lCons (eName "_law_parts") lNil)))
def T__law_path_by (ns : List Int) : ST := (sSeq (T__law_path_by_1 ns) (sSeq (T__law_path_by_2 ns) (sSeq (T__law_path_by_3 ns) (sSeq (T__law_path_by_4 ns) sNil))))
theorem b__law_path_by {C : Cx} (G : Gl C hd.view_39)  (h__law_name_by : FnAt C 1 "_law_name_by" (sp__law_name_by C.ns)) : HS C (scopeAt hd.view_39 10) 2 (bodyAt hd.view_39 10) (T__law_path_by C.ns) :=
  (HS.cons (HS1.set (.inl rfl) (HE.item G (HE.list (HL.cons HE.int (HL.cons HE.int (HL.cons HE.int (HL.cons HE.int (HL.cons HE.int HL.nil rfl) rfl) rfl) rfl) rfl)) (HE.bin ok_mod (HE.cell rfl rfl) HE.int) rfl) (fun _ _ => rfl))
  (HS.cons (HS1.setComp (CompOk.of rfl) (HI.rng G rfl (HL.cons (HE.name rfl rfl) HL.nil rfl) rfl) (HT.name rfl) HTs.nil (HE.callAt G h__law_name_by (by decide) rfl rfl (HL.cons (HE.bin ok_mod (HE.bin ok_div (HE.bin ok_div (HE.cell rfl rfl) HE.int) (HE.item G (HE.list (HL.cons HE.int (HL.cons HE.int (HL.cons HE.int HL.nil rfl) rfl) rfl)) (HE.name rfl rfl) rfl)) HE.int) (HL.cons (HE.cell rfl rfl) HL.nil rfl) rfl) rfl) (fun _ _ => rfl) rfl (swaps_local rfl rfl rfl))
  (HS.cons (HS1.ite (HB.cmp ok_eq0 (HE.bin ok_mod (HE.cell rfl rfl) HE.int) HE.int rfl) (HS.cons (HS1.set (.inl rfl) (HE.bin ok_add (HE.comp (CompOk.of rfl) (HI.rng G rfl (HL.cons (HE.bin ok_add HE.int (HE.bin ok_mod (HE.bin ok_div (HE.cell rfl rfl) HE.int) HE.int)) HL.nil rfl) rfl) (HT.name rfl) HTs.nil (HE.callAt G h__law_name_by (by decide) rfl rfl (HL.cons (HE.bin ok_add HE.int (HE.name rfl rfl)) (HL.cons (HE.cell rfl rfl) HL.nil rfl) rfl) rfl) (fun _ _ => rfl)) (HE.name rfl rfl)) (fun _ _ => rfl))
  (HS.cons (HS1.ite (HB.cmp ok_eq0 (HE.bin ok_mod (HE.cell rfl rfl) HE.int) HE.int rfl) (HS.cons (HS1.set (.inl rfl) (HE.cut G.ok (HE.name rfl rfl) HP.none (HP.some (HE.bin ok_add HE.int (HE.bin ok_mod (HE.bin ok_div (HE.cell rfl rfl) HE.int) (HE.len G rfl (HL.cons (HE.name rfl rfl) HL.nil rfl) rfl))))) (fun _ _ => rfl))
  HS.nil) HS.nil)
  HS.nil)) HS.nil)
  (HS.cons (HS1.ret (HE.join HE.str (HL.cons (HE.name rfl rfl) HL.nil rfl) rfl (fun _ => rfl) rfl (by decide)))
  HS.nil))))
theorem f__law_path_by {C : Cx} (G : Gl C hd.view_39)  (h__law_name_by : FnAt C 1 "_law_name_by" (sp__law_name_by C.ns)) (hspec : ∀ vs σ Q, sp__law_path_by C.ns vs σ Q → vs.length = 2 ∧ T__law_path_by C.ns (bindM ["_law_cell", "_law_shift"] vs none') σ (fin Q)) : FnAt C 2 "_law_path_by" (sp__law_path_by C.ns) :=
  FnAt.mk (xs := ["_law_cell", "_law_shift"]) G 7 10 rfl rfl rfl rfl rfl (fun ws pm code doc h => by
    obtain ⟨w0, w1, rfl⟩ := len2 h
    rfl) rfl (b__law_path_by G  h__law_name_by) hspec
def T__law_line_by_1 (ns : List Int) : ST :=
  (sSet "_law_some" (eVal (.str (Str.ofString " !\"#$&'()*+,-./0123456789:;<=>?@ABCDEFGHIJKLMNOPQRSTUVWXYZ[\\]^_`"))))
def T__law_line_by_2 (ns : List Int) : ST :=
  (sSet "_law_some" (eBin opAdd (eName "_law_some") (eVal (.str (Str.ofString "abcdefghijklmnopqrstuvwxyz{|}~\n\t")))))
def T__law_line_by_3 (ns : List Int) : ST :=
  (sSet "_law_sizes" (eList (lCons (eVal (.int 0)) (lCons (eVal (.int 1)) (lCons (eVal (.int 2)) (lCons (eBin opAdd (eVal (.int 3)) (eBin opMod (eName "_law_shift") (eVal (.int 60)))) lNil))))))
def T__law_line_by_4 (ns : List Int) : ST :=
  (sIf (tBool (eBin opEq0 (eBin opMod (eBin opDiv (eName "_law_shift") (eVal (.int 60))) (eVal (.int 4))) (eVal (.int 3)))) (sSeq (sSetItem setL (eBin opAdd (eVal (.int 3)) (eBin opMod (eBin opDiv (eName "_law_shift") (eVal (.int 240))) (eVal (.int 600)))) (eName "_law_sizes") (eVal (.int 3)))
  sNil) sNil)
def T__law_line_by_5 (ns : List Int) : ST :=
  (sRet (eMeth tyStr spJoin (eVal (.str (Str.ofString ""))) (lCons (eComp ["_law_some", "_law_shift", "_law_k"] (.name "_law_j") (iRange (lCons (eBin (opItem ns) (eName "_law_sizes") (eBin opMod (eName "_law_k") (eVal (.int 4)))) lNil)) tT (eBin (opItem ns) (eName "_law_some") (eBin opMod (eBin opAdd (eBin opAdd (eName "_law_shift") (eBin opMul (eVal (.int 5)) (eName "_law_k"))) (eName "_law_j")) (eVal (.int 96))))) lNil)))
def T__law_line_by (ns : List Int) : ST := (sSeq (T__law_line_by_1 ns) (sSeq (T__law_line_by_2 ns) (sSeq (T__law_line_by_3 ns) (sSeq (T__law_line_by_4 ns) (sSeq (T__law_line_by_5 ns) sNil)))))
theorem b__law_line_by {C : Cx} (G : Gl C hd.view_39)   : HS C (scopeAt hd.view_39 11) 0 (bodyAt hd.view_39 11) (T__law_line_by C.ns) :=
  (HS.cons (HS1.set (.inr rfl) HE.str (fun _ _ => rfl))
  (HS.cons (HS1.set (.inr rfl) (HE.bin ok_add (HE.cell rfl rfl) HE.str) (fun _ _ => rfl))
  (HS.cons (HS1.set (.inl rfl) (HE.list (HL.cons HE.int (HL.cons HE.int (HL.cons HE.int (HL.cons (HE.bin ok_add HE.int (HE.bin ok_mod (HE.cell rfl rfl) HE.int)) HL.nil rfl) rfl) rfl) rfl)) (fun _ _ => rfl))
  (HS.cons (HS1.ite (HB.cmp ok_eq0 (HE.bin ok_mod (HE.bin ok_div (HE.cell rfl rfl) HE.int) HE.int) HE.int rfl) (HS.cons (HS1.setItem ok_setL (HE.bin ok_add HE.int (HE.bin ok_mod (HE.bin ok_div (HE.cell rfl rfl) HE.int) HE.int)) (HE.name rfl rfl) HE.int (fun _ _ => rfl))
  HS.nil) HS.nil)
  (HS.cons (HS1.ret (HE.join HE.str (HL.cons (HE.comp (CompOk.of rfl) (HI.rng G rfl (HL.cons (HE.item G (HE.name rfl rfl) (HE.bin ok_mod (HE.cell rfl rfl) HE.int) rfl) HL.nil rfl) rfl) (HT.name rfl) HTs.nil (HE.item G (HE.cell rfl rfl) (HE.bin ok_mod (HE.bin ok_add (HE.bin ok_add (HE.cell rfl rfl) (HE.bin ok_mul HE.int (HE.cell rfl rfl))) (HE.name rfl rfl)) HE.int) rfl) (fun _ _ => rfl)) HL.nil rfl) rfl (fun _ => rfl) rfl (by decide)))
  HS.nil)))))
theorem f__law_line_by {C : Cx} (G : Gl C hd.view_39)   (hspec : ∀ vs σ Q, sp__law_line_by C.ns vs σ Q → vs.length = 2 ∧ T__law_line_by C.ns (bindM ["_law_k", "_law_shift"] vs none') σ (fin Q)) : FnAt C 0 "_law_line_by" (sp__law_line_by C.ns) :=
  FnAt.mk (xs := ["_law_k", "_law_shift"]) G 8 11 rfl rfl rfl rfl rfl (fun ws pm code doc h => by
    obtain ⟨w0, w1, rfl⟩ := len2 h
    rfl) rfl (b__law_line_by G  ) hspec
def T_law_1 (ns : List Int) : ST :=
  (sSet "_law_shift" (eCall (sp__law_cell_at ns) (lCons (eName "_law_script") (lCons (eVal (.int 0)) lNil))))
def T_law_2 (ns : List Int) : ST :=
  (sSet "_law_files" eDict0)
def T_law_3 (ns : List Int) : ST :=
  (sFor (.name "_law_k") (iRange (lCons (eBin opMod (eCall (sp__law_cell_at ns) (lCons (eName "_law_script") (lCons (eVal (.int 1)) lNil))) (eVal (.int 9))) lNil)) (sSeq (sSet "_law_cell" (eCall (sp__law_cell_at ns) (lCons (eName "_law_script") (lCons (eBin opAdd (eVal (.int 3)) (eName "_law_k")) lNil))))
  (sSeq (sSetItem setD (eCall (sp__law_line_by ns) (lCons (eBin opDiv (eName "_law_cell") (eVal (.int 135))) (lCons (eName "_law_shift") lNil))) (eName "_law_files") (eCall (sp__law_path_by ns) (lCons (eName "_law_cell") (lCons (eName "_law_shift") lNil))))
  sNil)))
def T_law_4 (ns : List Int) : ST :=
  (sIf (tBool (eBin opEq0 (eBin opMod (eBin opDiv (eCall (sp__law_cell_at ns) (lCons (eName "_law_script") (lCons (eVal (.int 1)) lNil))) (eVal (.int 9))) (eVal (.int 8))) (eVal (.int 1)))) (sSeq (sFor (.name "_law_j") (iRange (lCons (eVal (.int 60)) lNil)) (sSeq (sSetItem setD (eCall (sp__law_line_by ns) (lCons (eBin opMod (eName "_law_j") (eVal (.int 3))) (lCons (eName "_law_shift") lNil))) (eName "_law_files") (eBin opAdd (eBin opAdd (eBin opAdd (eVal (.str (Str.ofString "tops"))) (eCall spStr (lCons (eName "_law_j") lNil))) (eVal (.str (Str.ofString "/")))) (eCall (sp__law_name_by ns) (lCons (eBin opMod (eName "_law_j") (eVal (.int 3))) (lCons (eName "_law_shift") lNil)))))
  sNil))
  sNil) sNil)
def T_law_5 (ns : List Int) : ST :=
  (sSet "_law_odd" (eCall (sp__law_cell_at ns) (lCons (eName "_law_script") (lCons (eVal (.int 2)) lNil))))
def T_law_6 (ns : List Int) : ST :=
  (sIf (tBool (eBin opEq0 (eBin opMod (eName "_law_odd") (eVal (.int 5))) (eVal (.int 1)))) (sSeq (sSet "_law_wrong" (eList (lCons (eVal (.str (Str.ofString ""))) (lCons (eVal (.str (Str.ofString "/a"))) (lCons (eVal (.str (Str.ofString "a/"))) (lCons (eVal (.str (Str.ofString "a//b"))) (lCons (eVal (.str (Str.ofString "a/./b"))) (lCons (eVal (.str (Str.ofString ".."))) (lCons (eVal (.str (Str.ofString "a b"))) (lCons (eVal (.str (Str.ofString "a/b+"))) (lCons (eVal (.str (Str.ofString "abcdefghijklm"))) (lCons (eVal (.str (Str.ofString "a/b/c/d/e/f/g/h/i"))) lNil))))))))))))
  (sSeq (sSet "_law_behind" eDict0)
  (sSeq (sSet "_law_many" (eBin opMod (eBin opDiv (eName "_law_odd") (eVal (.int 50))) (eBin opAdd (eCall (spLen ns) (lCons (eName "_law_files") lNil)) (eVal (.int 1)))))
  (sSeq (sFor (.name "_law_path") (iOf ns (eCall spListD (lCons (eName "_law_files") lNil))) (sSeq (sIf (tBool (eBin opLt (eCall (spLen ns) (lCons (eName "_law_behind") lNil)) (eName "_law_many"))) (sSeq (sSetItem setD (eMeth tyDict spPop (eName "_law_files") (lCons (eName "_law_path") lNil)) (eName "_law_behind") (eName "_law_path"))
  sNil) sNil)
  sNil))
  (sSeq (sSetItem setD (eVal (.str (Str.ofString "x"))) (eName "_law_files") (eBin (opItem ns) (eName "_law_wrong") (eBin opMod (eBin opDiv (eName "_law_odd") (eVal (.int 5))) (eVal (.int 10)))))
  (sSeq (sFor (.name "_law_path") (iOf ns (eName "_law_behind")) (sSeq (sSetItem setD (eBin opItemD (eName "_law_behind") (eName "_law_path")) (eName "_law_files") (eName "_law_path"))
  sNil))
  sNil)))))) sNil)
def T_law_7 (ns : List Int) : ST :=
  (sSet "_law_due" (eBin opNe0 (eBin opMod (eName "_law_odd") (eVal (.int 5))) (eVal (.int 1))))
def T_law_8 (ns : List Int) : ST :=
  (sFor (.name "_law_path") (iOf ns (eName "_law_files")) (sSeq (sFor (.name "_law_other") (iOf ns (eName "_law_files")) (sSeq (sIf (tBool (eMeth tyStr spStarts (eName "_law_other") (lCons (eBin opAdd (eName "_law_path") (eVal (.str (Str.ofString "/")))) lNil))) (sSeq (sSet "_law_due" (eVal (.bool false)))
  sNil) sNil)
  sNil))
  sNil))
def T_law_9 (ns : List Int) : ST :=
  (sSet "_law_kept" (eItems (eName "_law_files")))
def T_law_10 (ns : List Int) : ST :=
  (sSet "_law_found" (eCall (sp_is_tree ns) (lCons (eName "_law_files") lNil)))
def T_law_11 (ns : List Int) : ST :=
  (sRet (eAnd (eCall spIsi (lCons (eName "_law_found") (lCons (eVal (.ty "bool")) lNil))) (eAnd (eBin opEq0 (eName "_law_found") (eName "_law_due")) (eBin opEq (eItems (eName "_law_files")) (eName "_law_kept")))))
def T_law (ns : List Int) : ST := (sSeq (T_law_1 ns) (sSeq (T_law_2 ns) (sSeq (T_law_3 ns) (sSeq (T_law_4 ns) (sSeq (T_law_5 ns) (sSeq (T_law_6 ns) (sSeq (T_law_7 ns) (sSeq (T_law_8 ns) (sSeq (T_law_9 ns) (sSeq (T_law_10 ns) (sSeq (T_law_11 ns) sNil)))))))))))
theorem b_law {C : Cx} (G : Gl C hd.view_39)  (h__law_cell_at : FnAt C 0 "_law_cell_at" (sp__law_cell_at C.ns)) (h__law_line_by : FnAt C 0 "_law_line_by" (sp__law_line_by C.ns)) (h__law_path_by : FnAt C 2 "_law_path_by" (sp__law_path_by C.ns)) (h__law_name_by : FnAt C 1 "_law_name_by" (sp__law_name_by C.ns)) (h_is_tree : FnAt C 2 "is_tree" (sp_is_tree C.ns)) : HS C (scopeAt hd.view_39 12) 3 (bodyAt hd.view_39 12) (T_law C.ns) :=
  (HS.cons (HS1.set (.inl rfl) (HE.callAt G h__law_cell_at (by decide) rfl rfl (HL.cons (HE.name rfl rfl) (HL.cons HE.int HL.nil rfl) rfl) rfl) (fun _ _ => rfl))
  (HS.cons (HS1.set (.inl rfl) HE.dict0 (fun _ _ => rfl))
  (HS.cons (HS1.for (HT.name rfl) (HI.rng G rfl (HL.cons (HE.bin ok_mod (HE.callAt G h__law_cell_at (by decide) rfl rfl (HL.cons (HE.name rfl rfl) (HL.cons HE.int HL.nil rfl) rfl) rfl) HE.int) HL.nil rfl) rfl) (HS.cons (HS1.set (.inl rfl) (HE.callAt G h__law_cell_at (by decide) rfl rfl (HL.cons (HE.name rfl rfl) (HL.cons (HE.bin ok_add HE.int (HE.name rfl rfl)) HL.nil rfl) rfl) rfl) (fun _ _ => rfl))
  (HS.cons (HS1.setItem ok_setD (HE.callAt G h__law_line_by (by decide) rfl rfl (HL.cons (HE.bin ok_div (HE.name rfl rfl) HE.int) (HL.cons (HE.name rfl rfl) HL.nil rfl) rfl) rfl) (HE.name rfl rfl) (HE.callAt G h__law_path_by (by decide) rfl rfl (HL.cons (HE.name rfl rfl) (HL.cons (HE.name rfl rfl) HL.nil rfl) rfl) rfl) (fun _ _ => rfl))
  HS.nil)) (fun _ _ => rfl))
  (HS.cons (HS1.ite (HB.cmp ok_eq0 (HE.bin ok_mod (HE.bin ok_div (HE.callAt G h__law_cell_at (by decide) rfl rfl (HL.cons (HE.name rfl rfl) (HL.cons HE.int HL.nil rfl) rfl) rfl) HE.int) HE.int) HE.int rfl) (HS.cons (HS1.for (HT.name rfl) (HI.rng G rfl (HL.cons HE.int HL.nil rfl) rfl) (HS.cons (HS1.setItem ok_setD (HE.callAt G h__law_line_by (by decide) rfl rfl (HL.cons (HE.bin ok_mod (HE.name rfl rfl) HE.int) (HL.cons (HE.name rfl rfl) HL.nil rfl) rfl) rfl) (HE.name rfl rfl) (HE.bin ok_add (HE.bin ok_add (HE.bin ok_add HE.str (HE.strC G rfl (HL.cons (HE.name rfl rfl) HL.nil rfl) rfl)) HE.str) (HE.callAt G h__law_name_by (by decide) rfl rfl (HL.cons (HE.bin ok_mod (HE.name rfl rfl) HE.int) (HL.cons (HE.name rfl rfl) HL.nil rfl) rfl) rfl)) (fun _ _ => rfl))
  HS.nil) (fun _ _ => rfl))
  HS.nil) HS.nil)
  (HS.cons (HS1.set (.inl rfl) (HE.callAt G h__law_cell_at (by decide) rfl rfl (HL.cons (HE.name rfl rfl) (HL.cons HE.int HL.nil rfl) rfl) rfl) (fun _ _ => rfl))
  (HS.cons (HS1.ite (HB.cmp ok_eq0 (HE.bin ok_mod (HE.name rfl rfl) HE.int) HE.int rfl) (HS.cons (HS1.set (.inl rfl) (HE.list (HL.cons HE.str (HL.cons HE.str (HL.cons HE.str (HL.cons HE.str (HL.cons HE.str (HL.cons HE.str (HL.cons HE.str (HL.cons HE.str (HL.cons HE.str (HL.cons HE.str HL.nil rfl) rfl) rfl) rfl) rfl) rfl) rfl) rfl) rfl) rfl)) (fun _ _ => rfl))
  (HS.cons (HS1.set (.inl rfl) HE.dict0 (fun _ _ => rfl))
  (HS.cons (HS1.set (.inl rfl) (HE.bin ok_mod (HE.bin ok_div (HE.name rfl rfl) HE.int) (HE.bin ok_add (HE.len G rfl (HL.cons (HE.name rfl rfl) HL.nil rfl) rfl) HE.int)) (fun _ _ => rfl))
  (HS.cons (HS1.for (HT.name rfl) (HI.of G.ok (HE.listC G rfl (HL.cons (HE.name rfl rfl) HL.nil rfl) rfl)) (HS.cons (HS1.ite (HB.cmp ok_lt (HE.len G rfl (HL.cons (HE.name rfl rfl) HL.nil rfl) rfl) (HE.name rfl rfl) rfl) (HS.cons (HS1.setItem ok_setD (HE.popD (HE.name rfl rfl) (HL.cons (HE.name rfl rfl) HL.nil rfl) rfl (fun _ => rfl) rfl (by decide)) (HE.name rfl rfl) (HE.name rfl rfl) (fun _ _ => rfl))
  HS.nil) HS.nil)
  HS.nil) (fun _ _ => rfl))
  (HS.cons (HS1.setItem ok_setD HE.str (HE.name rfl rfl) (HE.item G (HE.name rfl rfl) (HE.bin ok_mod (HE.bin ok_div (HE.name rfl rfl) HE.int) HE.int) rfl) (fun _ _ => rfl))
  (HS.cons (HS1.for (HT.name rfl) (HI.of G.ok (HE.name rfl rfl)) (HS.cons (HS1.setItem ok_setD (HE.itemD (HE.name rfl rfl) (HE.name rfl rfl) rfl) (HE.name rfl rfl) (HE.name rfl rfl) (fun _ _ => rfl))
  HS.nil) (fun _ _ => rfl))
  HS.nil)))))) HS.nil)
  (HS.cons (HS1.set (.inl rfl) (HE.cmp ok_ne0 (HE.bin ok_mod (HE.name rfl rfl) HE.int) HE.int rfl) (fun _ _ => rfl))
  (HS.cons (HS1.for (HT.name rfl) (HI.of G.ok (HE.name rfl rfl)) (HS.cons (HS1.for (HT.name rfl) (HI.of G.ok (HE.name rfl rfl)) (HS.cons (HS1.ite (HB.val (HE.starts (HE.name rfl rfl) (HL.cons (HE.bin ok_add (HE.name rfl rfl) HE.str) HL.nil rfl) rfl (fun _ => rfl) rfl (by decide)) (fun _ _ => rfl)) (HS.cons (HS1.set (.inl rfl) HE.bool (fun _ _ => rfl))
  HS.nil) HS.nil)
  HS.nil) (fun _ _ => rfl))
  HS.nil) (fun _ _ => rfl))
  (HS.cons (HS1.set (.inl rfl) (HE.listItems G rfl (HE.name rfl rfl) (fun _ => rfl) rfl) (fun _ _ => rfl))
  (HS.cons (HS1.set (.inl rfl) (HE.callAt G h_is_tree (by decide) rfl rfl (HL.cons (HE.name rfl rfl) HL.nil rfl) rfl) (fun _ _ => rfl))
  (HS.cons (HS1.ret (HE.boolOp (HVs.and (HE.isi G rfl (HL.cons (HE.name rfl rfl) (HL.cons (HE.gBool G rfl) HL.nil rfl) rfl) rfl) (HVs.and (HE.cmp ok_eq0 (HE.name rfl rfl) (HE.name rfl rfl) rfl) (HVs.one (HE.cmp ok_eq (HE.listItems G rfl (HE.name rfl rfl) (fun _ => rfl) rfl) (HE.name rfl rfl) rfl))))))
  HS.nil)))))))))))
theorem f_law {C : Cx} (G : Gl C hd.view_39)  (h__law_cell_at : FnAt C 0 "_law_cell_at" (sp__law_cell_at C.ns)) (h__law_line_by : FnAt C 0 "_law_line_by" (sp__law_line_by C.ns)) (h__law_path_by : FnAt C 2 "_law_path_by" (sp__law_path_by C.ns)) (h__law_name_by : FnAt C 1 "_law_name_by" (sp__law_name_by C.ns)) (h_is_tree : FnAt C 2 "is_tree" (sp_is_tree C.ns)) (hspec : ∀ vs σ Q, sp_law C.ns vs σ Q → vs.length = 1 ∧ T_law C.ns (bindM ["_law_script"] vs none') σ (fin Q)) : FnAt C 3 "law" (sp_law C.ns) :=
  FnAt.mk (xs := ["_law_script"]) G 9 12 rfl rfl rfl rfl rfl (fun ws pm code doc h => by
    obtain ⟨w0, rfl⟩ := len1 h
    rfl) rfl (b_law G  h__law_cell_at h__law_line_by h__law_path_by h__law_name_by h_is_tree) hspec
end Mine

end
section
set_option autoImplicit false
set_option maxRecDepth 10000
set_option linter.unusedVariables false
set_option linter.unusedSimpArgs false
namespace Mine
open PySem PySem.W PyProof.Rows PySem.Calls
section
variable {ns : List Int} {σ : View} {Q : V → View → Prop}
@[simp] theorem sp_cell {k : Int} : sp__law_cell_at ns [.script, .int k] σ Q = (0 ≤ k ∧ Q (.int (cell ns k)) σ) := by simp [sp__law_cell_at]
@[simp] theorem sp_sign {k : Int} : sp__law_sign_by ns [.int k] σ Q = Q (.str (signBy k)) σ := by simp [sp__law_sign_by]
@[simp] theorem sp_isp {x : Str} : sp_is_part ns [.str x] σ Q = (x.length ≤ 1000 ∧ Q (.bool (okPart x)) σ) := by simp [sp_is_part]
@[simp] theorem sp_path {x : Str} : sp_is_path ns [.str x] σ Q = (x.length ≤ 1000 ∧ ∀ σ', Grow σ σ' → Q (.bool (okPath x)) σ') := by simp [sp_is_path]
@[simp] theorem sp_abv {x : Str} : sp_above ns [.str x] σ Q = (x.length ≤ 1000 ∧ newG ((aboveL x).map .str) σ Q) := by simp [sp_above]
@[simp] theorem sp_name {c n : Int} : sp__law_name_by ns [.int c, .int n] σ Q = (∀ (x : Str) σ', Grow σ σ' → okPart x = true → Q (.str x) σ') := by
  unfold sp__law_name_by
  exact propext ⟨fun ⟨_, _, e, h⟩ => by cases e; exact h, fun h => ⟨c, n, rfl, h⟩⟩
@[simp] theorem sp_pathby {c n : Int} : sp__law_path_by ns [.int c, .int n] σ Q = (∀ (x : Str) σ', Grow σ σ' → okPath x = true → x.length ≤ 200 → Q (.str x) σ') := by
  unfold sp__law_path_by
  exact propext ⟨fun ⟨_, _, e, h⟩ => by cases e; exact h, fun h => ⟨c, n, rfl, h⟩⟩
@[simp] theorem sp_line {c n : Int} : sp__law_line_by ns [.int c, .int n] σ Q = (∀ (x : Str) σ', Grow σ σ' → x.length ≤ 1000 → Q (.str x) σ') := by
  unfold sp__law_line_by
  exact propext ⟨fun ⟨_, _, e, h⟩ => by cases e; exact h, fun h => ⟨c, n, rfl, h⟩⟩
end
theorem s_cell (ns : List Int) : ∀ vs σ Q, sp__law_cell_at ns vs σ Q → vs.length = 2 ∧ T__law_cell_at ns (bindM ["_law_script", "_law_k"] vs none') σ (fin Q) := by
  rintro vs σ Q ⟨k, rfl, hk, q⟩
  refine ⟨rfl, ?_⟩
  simp [T__law_cell_at, T__law_cell_at_1, T__law_cell_at_2, seq_eq]
  split
  · rename_i h; exact cell_item hk h q
  · rename_i h; rw [cell_out hk h] at q; exact q
theorem item_mod {x : Str} {k m : Int} {ns : List Int} {σ : View} {Q : V → View → Prop} (hm : (x.length : Int) = m) (h0 : 0 < m) (hz : x.length < 16777217) (q : ∀ y : Str, y.length = 1 → Q (.str y) σ) : opItem ns (.str x) (.int (k % m)) σ Q := by
  have a1 := Int.emod_nonneg k (b := m) (by omega)
  have a2 := Int.emod_lt_of_pos k h0
  generalize k % m = r at a1 a2 ⊢
  have hr : r.toNat < (cl x).length := by rw [← cl_len]; omega
  exact item_str hz a1 (List.getElem?_eq_getElem hr) (q _ rfl)
theorem s_sign (ns : List Int) : ∀ vs σ Q, sp__law_sign_by ns vs σ Q → vs.length = 1 ∧ T__law_sign_by ns (bindM ["_law_k"] vs none') σ (fin Q) := by
  rintro vs σ Q ⟨k, rfl, q⟩
  refine ⟨rfl, ?_⟩
  have h0 : 0 ≤ k % 65 := Int.emod_nonneg _ (by decide)
  have h1 : k % 65 < 65 := Int.emod_lt_of_pos _ (by decide)
  have hl : (cl ALS).length = 65 := by decide +kernel
  simp [T__law_sign_by, T__law_sign_by_1, seq_eq]
  refine item_str (by decide +kernel) h0 (c := (cl ALS).getD (k % 65).toNat 0) ?_ q
  show (cl ALS)[(k % 65).toNat]? = _
  rw [List.getD_eq_getElem?_getD]
  cases e : (cl ALS)[(k % 65).toNat]? with
  | none => rw [List.getElem?_eq_none_iff, hl] at e; omega
  | some n => rfl
theorem signs_get {x : Str} {i : Nat} {v : V} (h : (signs x)[i]? = some v) : ∃ c, (cl x)[i]? = some c ∧ v = .str ⟨#[c]⟩ := by
  unfold signs at h
  rw [List.getElem?_map] at h
  obtain ⟨c, h1, rfl⟩ := Option.map_eq_some_iff.mp h
  exact ⟨c, h1, rfl⟩
theorem signs_len (x : Str) : (signs x).length = (cl x).length := by simp [signs]
theorem all_take_succ {f : Nat → Bool} {l : List Nat} {i : Nat} {c : Nat} (h : (l.take i).all f = true) (hc : l[i]? = some c) (hf : f c = true) : (l.take (i + 1)).all f = true := by
  rw [List.take_add_one, hc, List.all_append, h]; simp [hf]
theorem s_isp (ns : List Int) : ∀ vs σ Q, sp_is_part ns vs σ Q → vs.length = 1 ∧ T_is_part ns (bindM ["text"] vs none') σ (fin Q) := by
  rintro vs σ Q ⟨x, rfl, hx, q⟩
  refine ⟨rfl, ?_⟩
  have loop : (x ≠ Str.ofString "." ∧ x ≠ Str.ofString ".." ∧ 1 ≤ x.length ∧ x.length ≤ 12) → T_is_part_2 ns (put none' "text" (.str x)) σ (kont (sSeq (T_is_part_3 ns) sNil) (fin Q)) := by
    intro hg
    simp [T_is_part_2]
    refine forL_inv (fun i m σ' => σ' = σ ∧ ((cl x).take i).all (fun c => Txt.contains ALS ⟨#[c]⟩) = true) (fun u m σ' => σ' = σ ∧ u = .bool false ∧ okPart x = false) (fun _ _ _ _ => trivial) _ ?_ ?_ ?_ _ _ ⟨rfl, by simp⟩
    · rintro i v m σ' Q' hv ⟨rfl, h⟩ n1 n2 n3
      obtain ⟨c, hc, rfl⟩ := signs_get hv
      refine ⟨_, rfl, ?_⟩
      simp [seq_eq]
      split
      · rename_i e; exact n1 _ _ ⟨rfl, all_take_succ h hc e⟩
      · rename_i e
        refine n3 _ _ _ ⟨rfl, rfl, ?_⟩
        unfold okPart
        rw [Bool.and_eq_false_iff]
        right
        rw [List.all_eq_false]
        exact ⟨c, List.mem_of_getElem? hc, by simpa [ALS] using e⟩
    · rintro m σ' ⟨rfl, h⟩
      rw [signs_len, List.take_length] at h
      have : okPart x = true := by unfold okPart; rw [Bool.and_eq_true]; exact ⟨decide_eq_true hg, h⟩
      rw [this] at q
      simpa [seq_eq, T_is_part_3] using q
    · rintro u m σ' ⟨rfl, rfl, h⟩
      rw [h] at q
      simpa using q
  have bad : ¬ (x ≠ Str.ofString "." ∧ x ≠ Str.ofString ".." ∧ 1 ≤ x.length ∧ x.length ≤ 12) → okPart x = false := fun h => by
    unfold okPart; rw [decide_eq_false h]; rfl
  unfold T_is_part
  rw [seq_eq]
  simp [T_is_part_1, seq_eq]
  by_cases h1 : x = Str.ofString "."
  · rw [bad (by simp [h1])] at q; simpa [h1] using q
  by_cases h2 : x = Str.ofString ".."
  · rw [bad (by simp [h2])] at q; simpa [h1, h2] using q
  simp [h1, h2]
  refine ⟨by omega, ?_⟩
  by_cases h3 : 1 ≤ x.length
  · by_cases h4 : x.length ≤ 12
    · have h3' : (1 : Int) ≤ x.length := by omega
      have h4' : (x.length : Int) ≤ 12 := by omega
      simp [h3', h4']
      exact loop ⟨h1, h2, h3, h4⟩
    · have h3' : (1 : Int) ≤ x.length := by omega
      have h4' : ¬ (x.length : Int) ≤ 12 := by omega
      rw [bad (by omega)] at q
      simpa [h3', h4', seq_eq] using q
  · have h3' : ¬ (1 : Int) ≤ x.length := by omega
    rw [bad (by omega)] at q
    simpa [h3', seq_eq] using q
theorem part_len {x p : Str} (hp : p ∈ Txt.split x (Str.ofString "/")) : p.length ≤ x.length := by
  have h0 := PyProof.Rows.split_pos x (Str.ofString "/")
  have h := PyProof.Rows.split_weight x (Str.ofString "/") (by rw [sl_len]; omega)
  have : ∀ (l : List Str), p ∈ l → p.length ≤ (l.map (·.length)).sum := by
    intro l
    induction l with
    | nil => intro h; simp at h
    | cons y r ih => intro h; rcases List.mem_cons.mp h with rfl | h
                     · simp
                     · have := ih h; simp; omega
  have := this _ hp
  omega
theorem s_path (ns : List Int) : ∀ vs σ Q, sp_is_path ns vs σ Q → vs.length = 1 ∧ T_is_path ns (bindM ["text"] vs none') σ (fin Q) := by
  rintro vs σ Q ⟨x, rfl, hx, q⟩
  refine ⟨rfl, ?_⟩
  unfold T_is_path
  rw [seq_eq]
  simp [T_is_path_1, sl_len]
  refine ⟨by omega, fun a ha => ?_⟩
  replace q := q _ (Grow.refl.upd (o := .list ((Txt.split x (Str.ofString "/")).map .str)) ha)
  have ha' := upd_same σ a (.list ((Txt.split x (Str.ofString "/")).map .str))
  generalize (upd σ a (.list ((Txt.split x (Str.ofString "/")).map .str))) = σ₁ at q ha' ⊢
  show sSeq _ _ _ _ _
  rw [seq_eq]
  simp [T_is_path_2, len_list ha', seq_eq]
  split
  · rename_i h
    have : okPath x = false := by unfold okPath; rw [decide_eq_false (by omega)]; rfl
    rw [this] at q
    exact q
  · rename_i h
    simp [T_is_path_3, iter_list ha']
    refine forL_inv (fun i m σ' => σ' = σ₁ ∧ ((Txt.split x (Str.ofString "/")).take i).all okPart = true) (fun u m σ' => σ' = σ₁ ∧ u = .bool false ∧ okPath x = false) (fun i m σ' h => by rw [h.1]; exact ha') _ ?_ ?_ ?_ _ _ ⟨rfl, by simp⟩
    · rintro i v m σ' Q' hv ⟨rfl, h⟩ n1 n2 n3
      rw [List.getElem?_map] at hv
      obtain ⟨pt, hp, rfl⟩ := Option.map_eq_some_iff.mp hv
      have hl := part_len (List.mem_of_getElem? hp)
      refine ⟨_, rfl, ?_⟩
      simp [seq_eq]
      refine ⟨by omega, ?_⟩
      split
      · rename_i e
        refine n1 _ _ ⟨rfl, ?_⟩
        rw [List.take_add_one, hp, List.all_append, h]; simp [e]
      · rename_i e
        refine n3 _ _ _ ⟨rfl, rfl, ?_⟩
        unfold okPath
        rw [Bool.and_eq_false_iff]
        right
        rw [List.all_eq_false]
        exact ⟨pt, List.mem_of_getElem? hp, e⟩
    · rintro m σ' ⟨rfl, h'⟩
      rw [List.length_map, List.take_length] at h'
      have : okPath x = true := by unfold okPath; rw [h', decide_eq_true (by omega)]; rfl
      rw [this] at q
      simpa [seq_eq, T_is_path_4] using q
    · rintro u m σ' ⟨rfl, rfl, h⟩
      rw [h] at q
      simpa using q
theorem parts_sum {x : Str} (n : Nat) : (((Txt.split x (Str.ofString "/")).take n).map (·.length)).sum + ((Txt.split x (Str.ofString "/")).take n).length ≤ x.length + 1 := by
  have h := PyProof.Rows.split_weight x (Str.ofString "/") (by rw [sl_len]; omega)
  have key : ∀ (l : List Str) (n : Nat), ((l.take n).map (·.length)).sum + (l.take n).length ≤ (l.map (·.length)).sum + l.length := by
    intro l
    induction l with
    | nil => intro n; simp
    | cons y r ih => intro n; cases n with
      | zero => simp
      | succ n => have := ih n; simp at this ⊢; omega
  exact Nat.le_trans (key _ n) h
theorem s_above (ns : List Int) : ∀ vs σ Q, sp_above ns vs σ Q → vs.length = 1 ∧ T_above ns (bindM ["path"] vs none') σ (fin Q) := by
  rintro vs σ Q ⟨x, rfl, hx, q⟩
  refine ⟨rfl, ?_⟩
  have hsz := PyProof.Rows.split_le x (Str.ofString "/")
  simp [T_above, T_above_1, T_above_2, seq_eq, sl_len]
  refine ⟨by omega, fun a ha => ?_⟩
  have hp : ∀ σ', Grow (upd σ a (.list ((Txt.split x (Str.ofString "/")).map .str))) σ' → σ' a = some (.list ((Txt.split x (Str.ofString "/")).map .str)) := fun σ' g => g _ _ (upd_same _ _ _)
  simp [len_list (upd_same σ a _)]
  refine ⟨by omega, ?_⟩
  refine compL_map (Grow (upd σ a (.list ((Txt.split x (Str.ofString "/")).map .str)))) (fun _ _ => trivial) _ ((aboveL x).map .str) [] _ _ (by simp [aboveL, range_len]) (by simp [range_len]; omega) ?_ Grow.refl ?_
  · intro i v y hv hy σ' Q' g n
    obtain ⟨hi, rfl⟩ := range_get hv
    refine ⟨_, rfl, ?_⟩
    simp
    refine cut_list (hp _ g) fun b hb => ?_
    rw [cut_take _ (by omega), show (1 + (i : Int)).toNat = i + 1 by omega, ← List.map_take]
    have hsum := parts_sum (x := x) (i + 1)
    refine join_list (ys := (Txt.split x (Str.ofString "/")).take (i + 1)) (upd_same _ _ _) (by rw [sl_len]; omega) ?_
    have : y = .str (Str.join (Str.ofString "/") ((Txt.split x (Str.ofString "/")).take (i + 1))) := by
      simp [aboveL, hi] at hy
      exact hy.symm
    rw [← this]
    exact n _ (g.upd hb)
  · intro σ' g b hb
    simp
    refine q b _ ?_ ?_ (upd_same _ _ _)
    · exact (Grow.upd Grow.refl ha |>.trans g).upd hb
    · exact (Grow.upd Grow.refl ha |>.trans g).none hb
/- names -/
def One (x : Str) : Prop := ∃ c ∈ cl ALS, x = ⟨#[c]⟩
def Inn (x : Str) : Prop := ∀ c ∈ cl x, c ∈ cl ALS
theorem als_len : (cl ALS).length = 65 := by decide +kernel
theorem sign_one (k : Int) : One (signBy k) := by
  have h0 : 0 ≤ k % 65 := Int.emod_nonneg _ (by decide)
  have h1 : k % 65 < 65 := Int.emod_lt_of_pos _ (by decide)
  refine ⟨(cl ALS).getD (k % 65).toNat 0, ?_, rfl⟩
  rw [List.getD_eq_getElem?_getD, List.getElem?_eq_getElem (by rw [als_len]; omega)]
  exact List.getElem_mem _
theorem len_append (x y : Str) : (x ++ y).length = x.length + y.length := by rw [cl_len, cl_append, List.length_append, ← cl_len, ← cl_len]
theorem inn_append {x y : Str} (hx : Inn x) (hy : Inn y) : Inn (x ++ y) := fun c hc => by
  rw [cl_append] at hc
  rcases List.mem_append.mp hc with h | h
  · exact hx c h
  · exact hy c h
theorem inn_one {x : Str} (h : One x) : Inn x := by
  obtain ⟨c, hc, rfl⟩ := h
  intro d hd
  have : d = c := by simpa [cl] using hd
  rw [this]; exact hc
theorem one_len {x : Str} (h : One x) : x.length = 1 := by obtain ⟨c, _, rfl⟩ := h; rfl
theorem e_len : (Str.ofString "").length = 0 := by decide +kernel
theorem join_ones : ∀ (l : List Str), (∀ y ∈ l, One y) → Inn (Str.join (Str.ofString "") l) ∧ (Str.join (Str.ofString "") l).length = l.length
  | [], _ => ⟨fun c hc => by simp [Str.join, Str.empty] at hc, by simp [Str.join, Str.length, Str.empty]⟩
  | [x], h => ⟨inn_one (h x (.head _)), by simp [Str.join, one_len (h x (.head _))]⟩
  | x :: y :: r, h => by
    obtain ⟨i1, i2⟩ := join_ones (y :: r) fun z hz => h z (.tail _ hz)
    have e : Str.join (Str.ofString "") (x :: y :: r) = x ++ Str.ofString "" ++ Str.join (Str.ofString "") (y :: r) := rfl
    have e0 : Inn (Str.ofString "") := by
      have : cl (Str.ofString "") = [] := by decide +kernel
      intro c hc; rw [this] at hc; simp at hc
    rw [e]
    refine ⟨inn_append (inn_append (inn_one (h x (.head _))) e0) i1, ?_⟩
    rw [len_append, len_append, i2, e_len, one_len (h x (.head _))]; simp; omega
theorem sum_ones : ∀ (l : List Str), (∀ y ∈ l, One y) → (l.map (·.length)).sum = l.length
  | [], _ => rfl
  | y :: r, h => by simp [sum_ones r fun z hz => h z (.tail _ hz), one_len (h y (.head _))]; omega
theorem okPart_of {x : Str} (hi : Inn x) (h1 : 1 ≤ x.length) (h2 : x.length ≤ 12) (h3 : x ≠ Str.ofString ".") (h4 : x ≠ Str.ofString "..") : okPart x = true := by
  unfold okPart
  rw [Bool.and_eq_true]
  refine ⟨decide_eq_true ⟨h3, h4, h1, h2⟩, ?_⟩
  rw [List.all_eq_true]
  intro c hc
  show (!(Builtin.Str.occurrences ALS ⟨#[c]⟩ 0 ALS.length 1).isEmpty) = true
  rw [StrLaws.found_one]
  exact decide_eq_true (hi c hc)
theorem strs_all {P : Str → Prop} : ∀ (ys : List V), (∀ (i : Nat) y, ys[i]? = some y → ∃ x, P x ∧ y = .str x) → ∃ xs : List Str, ys = xs.map .str ∧ ∀ x ∈ xs, P x
  | [], _ => ⟨[], rfl, by simp⟩
  | y :: r, h => by
    obtain ⟨x, hx, rfl⟩ := h 0 y rfl
    obtain ⟨xs, rfl, hxs⟩ := strs_all r fun i z e => h (i + 1) z (by simpa using e)
    exact ⟨x :: xs, rfl, by intro z hz; rcases List.mem_cons.mp hz with rfl | hz; exact hx; exact hxs z hz⟩
theorem cut_both {α : Type} (l : List α) {a b : Int} (h0 : 0 ≤ a) (h1 : a ≤ b) (h2 : b ≤ l.length) : pyCut l (some a) (some b) = (l.drop a.toNat).take (b - a).toNat := by
  unfold pyCut clip clipAt
  simp only [Option.elim]
  rw [if_neg (by omega), if_neg (by omega)]
  have e1 : (max 0 (min a (l.length : Int))).toNat = a.toNat := by omega
  have e2 : (max 0 (min b (l.length : Int))).toNat - a.toNat = (b - a).toNat := by omega
  rw [e1, e2]
theorem cut_map {α β : Type} (f : α → β) (l : List α) (lo hi : Option Int) : pyCut (l.map f) lo hi = (pyCut l lo hi).map f := by
  unfold pyCut; rw [List.length_map, List.map_take, List.map_drop]
theorem cut_sub {α : Type} {l : List α} {lo hi : Option Int} {x : α} (h : x ∈ pyCut l lo hi) : x ∈ l := List.mem_of_mem_drop (List.mem_of_mem_take h)
theorem cut_join {ns : List Int} {σ : View} {a : Addr} {xs : List Str} {lo hi : Option Int} {Q : V → View → Prop} (ha : σ a = some (.list (xs.map .str))) (hx : ∀ x ∈ xs, One x) (hl : xs.length ≤ 1000)
    (q : ∀ (x : Str) σ', Grow σ σ' → Inn x → x.length = (pyCut xs lo hi).length → Q (.str x) σ') : opCut ns lo hi (.ref a) σ fun v σ' => spJoin [.str (Str.ofString ""), v] σ' Q := by
  refine cut_list ha fun b hb => ?_
  rw [cut_map]
  have h1 : ∀ x ∈ pyCut xs lo hi, One x := fun x h => hx x (cut_sub h)
  have h2 := cut_len xs lo hi
  refine join_list (ys := pyCut xs lo hi) (upd_same _ _ _) (by rw [e_len, sum_ones _ h1]; omega) ?_
  exact q _ _ (Grow.refl.upd hb) (join_ones _ h1).1 (join_ones _ h1).2
theorem s_name (ns : List Int) : ∀ vs σ Q, sp__law_name_by ns vs σ Q → vs.length = 2 ∧ T__law_name_by ns (bindM ["_law_k", "_law_shift"] vs none') σ (fin Q) := by
  rintro vs σ Q ⟨kk, sh, rfl, q⟩
  refine ⟨rfl, ?_⟩
  unfold T__law_name_by
  rw [seq_eq]
  simp [T__law_name_by_1]
  have rest : ∀ (m : Loc) (sz : Int), 1 ≤ sz → sz ≤ 12 → m "_law_k" = some (.int kk) → m "_law_shift" = some (.int sh) → m "_law_size" = some (.int sz) →
      sSeq (T__law_name_by_3 ns) (sSeq (T__law_name_by_4 ns) (sSeq (T__law_name_by_5 ns) (sSeq (T__law_name_by_6 ns) (sSeq (T__law_name_by_7 ns) (sSeq (T__law_name_by_8 ns) (sSeq (T__law_name_by_9 ns) (sSeq (T__law_name_by_10 ns) sNil))))))) m σ (fin Q) := by
    intro m sz z1 z2 hk hs hz
    rw [seq_eq]
    simp [T__law_name_by_3, hs]
    generalize sh / 5 % 4 = wy
    rw [seq_eq]
    simp [T__law_name_by_4]
    refine compL_all (fun σ' => σ' = σ) (fun _ y => ∃ x, One x ∧ y = .str x) (fun _ _ => trivial) _ [] 0 _ _ (by simp [range_len]) ?_ rfl ?_
    · rintro i v hv σ' Q' rfl nx
      obtain ⟨hi, rfl⟩ := range_get hv
      refine ⟨_, rfl, ?_⟩
      simp [hk, hs]
      refine ⟨.inl (by unfold Short; decide), ⟨.inr (by unfold Short; split <;> decide), ?_⟩⟩
      exact nx _ _ rfl ⟨_, sign_one _, rfl⟩
    · rintro ys σ' rfl hl hys a ha
      obtain ⟨xs, rfl, hx⟩ := strs_all ys fun i y e => by simpa using hys i y e
      rw [List.length_map, range_len] at hl
      rw [List.nil_append]
      have xa := upd_same σ' a (.list (xs.map .str))
      have g0 : Grow σ' (upd σ' a (.list (xs.map .str))) := Grow.refl.upd ha
      generalize (upd σ' a (.list (xs.map .str))) = σ₁ at xa g0 ⊢
      rw [seq_eq]
      have c1 := Int.emod_nonneg (sh / 20) (b := sz) (by omega)
      have c2 := Int.emod_lt_of_pos (sh / 20) (b := sz) (by omega)
      simp [T__law_name_by_5, hs, hz]
      refine ⟨by omega, .inr (by unfold Short; split <;> decide), ?_⟩
      obtain ⟨at', hat, d1, d2⟩ : ∃ at', sh / 20 % sz * (if wy = 1 then 1 else 0) = at' ∧ 0 ≤ at' ∧ at' < sz := by
        refine ⟨_, rfl, ?_, ?_⟩
        · split <;> omega
        · split <;> omega
      rw [hat]
      rw [seq_eq]
      simp [T__law_name_by_6, hs, hk]
      intro b hb
      have hab : a ≠ b := by rintro rfl; rw [xa] at hb; cases hb
      have xa2 : upd σ₁ b (.list [.int 1, .int 26]) a = some (.list (xs.map .str)) := by rw [upd_ne hab]; exact xa
      have g1 := g0.upd (o := .list [.int 1, .int 26]) hb
      have xb := upd_same σ₁ b (.list [.int 1, .int 26])
      generalize (upd σ₁ b (.list [.int 1, .int 26])) = σ₂ at xa2 g1 xb ⊢
      have done : ∀ (m : Loc) (σ : View) (x : Str), Grow σ' σ → m "_law_name" = some (.str x) → Inn x → 1 ≤ x.length → x.length ≤ 12 → sSeq (T__law_name_by_9 ns) (sSeq (T__law_name_by_10 ns) sNil) m σ (fin Q) := by
        intro m σ x g hm hi l1 l2
        rw [seq_eq]
        simp [T__law_name_by_9, T__law_name_by_10, seq_eq, hm]
        have e0 : okPart (Str.ofString "0x") = true := by decide +kernel
        by_cases n1 : x = Str.ofString "."
        · simpa [n1] using q _ _ g e0
        by_cases n2 : x = Str.ofString ".."
        · simpa [n1, n2] using q _ _ g e0
        simpa [n1, n2] using q _ _ g (okPart_of hi l1 l2 n1 n2)
      have go : ∀ told, One told → sSeq (T__law_name_by_7 ns) (sSeq (T__law_name_by_8 ns) (sSeq (T__law_name_by_9 ns) (sSeq (T__law_name_by_10 ns) sNil)))
          (put (put (put (put m "_law_way" (.int wy)) "_law_rest" (.ref a)) "_law_at" (.int at')) "_law_told" (.str told)) σ₂ (fin Q) := by
        intro told ht
        rw [seq_eq]
        simp [T__law_name_by_7]
        refine cut_join xa2 hx (by omega) fun x1 σ₃ g3 i1 l1 => ?_
        rw [cut_take _ d1, List.length_take] at l1
        simp [hz]
        have tl := one_len ht
        refine ⟨by rw [tl]; omega, ?_⟩
        refine cut_join (g3 _ _ xa2) hx (by omega) fun x2 σ₄ g4 i2 l2 => ?_
        rw [cut_both _ d1 (by omega) (by omega), List.length_take, List.length_drop] at l2
        have tl2 := len_append x1 told
        simp
        refine ⟨by omega, ?_⟩
        have tl3 := len_append (x1 ++ told) x2
        have g5 := (g1.trans g3).trans g4
        have xa4 := g4 _ _ (g3 _ _ xa2)
        rw [seq_eq]
        simp [T__law_name_by_8, seq_eq]
        split
        · simp [hs, hk]
          refine cut_join xa4 hx (by omega) fun x3 σ₅ g6 i3 l3 => ?_
          have f1 := Int.emod_nonneg (sh / 65 + kk) (b := 12) (by decide)
          have f2 := Int.emod_lt_of_pos (sh / 65 + kk) (b := 12) (by decide)
          rw [cut_take _ (by omega), List.length_take] at l3
          refine done _ _ x3 (g5.trans g6) (by simp) i3 (by omega) (by omega)
        · exact done _ _ (x1 ++ told ++ x2) g5 (by simp) (inn_append (inn_append i1 (inn_one ht)) i2) (by omega) (by omega)
      by_cases w3 : wy = 3
      · simp [w3]
        refine item_list (v := .int 26) xb (by decide) rfl ?_
        simp
        refine ⟨.inr (by unfold Short; decide), ?_⟩
        have := go _ (sign_one (sh + kk * 26))
        simpa [w3] using this
      · simp [w3]
        refine item_list (v := .int 1) xb (by decide) rfl ?_
        simp
        refine ⟨.inr (by unfold Short; decide), ?_⟩
        have := go _ (sign_one (sh + kk))
        simpa [w3] using this
  rw [seq_eq]
  simp [T__law_name_by_2]
  have b1 := Int.emod_nonneg (sh / 195) (b := 12) (by decide)
  have b2 := Int.emod_lt_of_pos (sh / 195) (b := 12) (by decide)
  split
  · simp [seq_eq]
    exact rest _ (1 + sh / 195 % 12) (by omega) (by omega) (by simp) (by simp) (by simp)
  · exact rest _ 1 (by omega) (by omega) (by simp) (by simp) (by simp)
/- paths -/
theorem als_free : 47 ∉ cl ALS := by decide +kernel
theorem part_fr {x : Str} (h : okPart x = true) : Fr x := by
  unfold okPart at h
  rw [Bool.and_eq_true, List.all_eq_true] at h
  intro hc
  have := h.2 47 hc
  change (!(Builtin.Str.occurrences ALS ⟨#[47]⟩ 0 ALS.length 1).isEmpty) = true at this
  rw [StrLaws.found_one] at this
  exact als_free (of_decide_eq_true this)
theorem part_le {x : Str} (h : okPart x = true) : x.length ≤ 12 := by
  unfold okPart at h
  rw [Bool.and_eq_true] at h
  exact (of_decide_eq_true h.1).2.2.2
theorem okPath_join {xs : List Str} (h : ∀ x ∈ xs, okPart x = true) (h0 : xs ≠ []) (h8 : xs.length ≤ 8) : okPath (Str.join (Str.ofString "/") xs) = true := by
  unfold okPath
  rw [split_join (fun x hx => part_fr (h x hx)) h0, Bool.and_eq_true, List.all_eq_true]
  exact ⟨decide_eq_true h8, h⟩
theorem sum_le {n : Nat} : ∀ (l : List Str), (∀ y ∈ l, y.length ≤ n) → (l.map (·.length)).sum ≤ l.length * n
  | [], _ => by simp
  | y :: r, h => by
    have h1 := h y (.head _)
    have h2 := sum_le r fun z hz => h z (.tail _ hz)
    simp [Nat.add_mul]; omega
theorem comp_names {ns : List Int} {n : Nat} {m : Loc} {σ : View} {T : ET} {R : List V → View → Prop} (hn : n ≤ 8)
    (step : ∀ (j : Nat) σ' (Q' : V → View → Prop), j < n → Grow σ σ' → (∀ (x : Str) σ'', Grow σ' σ'' → okPart x = true → Q' (.str x) σ'') → T (put m "_law_j" (.int j)) σ' Q')
    (h : ∀ (xs : List Str) σ', Grow σ σ' → xs.length = n → (∀ x ∈ xs, okPart x = true) → R (xs.map .str) σ') :
    compL (Tgt.name "_law_j") (fun _ => True) tT T m (rangeL 0 n) [] σ R := by
  refine compL_all (Grow σ) (fun _ y => ∃ x, okPart x = true ∧ y = .str x) (fun _ _ => trivial) _ [] 0 _ _ (by simp [range_len]; omega) ?_ Grow.refl ?_
  · rintro i v hv σ' Q' g nx
    obtain ⟨hi, rfl⟩ := range_get hv
    refine ⟨_, rfl, ?_⟩
    rw [Int.zero_add]
    exact step i σ' Q' hi g fun x σ'' g' hx => nx _ _ (g.trans g') ⟨x, hx, rfl⟩
  · rintro ys σ' g hl hys
    obtain ⟨xs, rfl, hx⟩ := strs_all ys fun i y e => by simpa using hys i y e
    rw [List.length_map, range_len] at hl
    exact h xs σ' g hl hx
theorem s_pathby (ns : List Int) : ∀ vs σ Q, sp__law_path_by ns vs σ Q → vs.length = 2 ∧ T__law_path_by ns (bindM ["_law_cell", "_law_shift"] vs none') σ (fin Q) := by
  rintro vs σ Q ⟨c, sh, rfl, q⟩
  refine ⟨rfl, ?_⟩
  unfold T__law_path_by
  have last : ∀ (m : Loc) (σ' : View) (a : Addr) (xs : List Str), Grow σ σ' → m "_law_parts" = some (.ref a) → σ' a = some (.list (xs.map .str)) → xs ≠ [] → xs.length ≤ 8 → (∀ x ∈ xs, okPart x = true) → sSeq (T__law_path_by_4 ns) sNil m σ' (fin Q) := by
    intro m σ' a xs g hm ha h0 h8 hx
    have hs := sum_le xs fun y hy => part_le (hx y hy)
    have hj := join_len_le xs
    unfold joinLen at hj
    rw [seq_eq]
    simp [T__law_path_by_4, hm]
    refine join_list ha (by rw [sl_len]; omega) ?_
    exact q _ _ g (okPath_join hx h0 h8) (by omega)
  have tail : ∀ (m : Loc) (σ' : View) (a : Addr) (xs : List Str), Grow σ σ' → m "_law_cell" = some (.int c) → m "_law_shift" = some (.int sh) → m "_law_parts" = some (.ref a) → σ' a = some (.list (xs.map .str)) → xs ≠ [] → xs.length ≤ 3 → (∀ x ∈ xs, okPart x = true) →
      sSeq (T__law_path_by_3 ns) (sSeq (T__law_path_by_4 ns) sNil) m σ' (fin Q) := by
    intro m σ' a xs g hc hs hp ha h0 h3 hx
    rw [seq_eq]
    simp [T__law_path_by_3, hs]
    split
    · rw [seq_eq]
      have f1 := Int.emod_nonneg (sh / 7) (b := 5) (by decide)
      have f2 := Int.emod_lt_of_pos (sh / 7) (b := 5) (by decide)
      simp [hs]
      refine ⟨⟨by omega, by omega⟩, ?_⟩
      refine comp_names (ns := ns) (by omega) ?_ ?_
      · intro j σ₁ Q' hj g1 nx
        simp [hs]
        intro x σ₂ g2 hx2
        exact nx x σ₂ g2 hx2
      · intro ys σ₁ g1 hyl hy b hb
        simp [hp]
        have hab : a ≠ b := by rintro rfl; rw [g1 _ _ ha] at hb; cases hb
        refine add_list (upd_same _ _ _) (by rw [upd_ne hab]; exact g1 _ _ ha) (by simp; omega) fun d hd => ?_
        rw [← List.map_append]
        have hall : ∀ x ∈ ys ++ xs, okPart x = true := fun x h => (List.mem_append.mp h).elim (hy x) (hx x)
        have gd := ((g.trans g1).upd (o := .list (ys.map .str)) hb).upd (o := .list ((ys ++ xs).map .str)) hd
        have xd := upd_same (upd σ₁ b (.list (ys.map .str))) d (.list ((ys ++ xs).map .str))
        generalize (upd (upd σ₁ b (.list (ys.map .str))) d (.list ((ys ++ xs).map .str))) = σ₂ at gd xd ⊢
        have hne : ys ++ xs ≠ [] := by simp [h0]
        have hlen : (ys ++ xs).length ≤ 8 := by simp; omega
        generalize ys ++ xs = zs at hall xd hne hlen ⊢
        simp [seq_eq, hc]
        split
        · simp [len_list xd, hc]
          have hpos : 0 < zs.length := List.length_pos_iff.mpr hne
          have k1 := Int.emod_nonneg (c / 13) (b := (zs.length : Int)) (by omega)
          refine ⟨by omega, cut_list xd fun e he => ?_⟩
          rw [cut_take _ (by omega), ← List.map_take]
          have := last (put (put m "_law_parts" (.ref d)) "_law_parts" (.ref e)) (upd σ₂ e (.list ((zs.take (1 + c / 13 % zs.length).toNat).map .str))) e _ (gd.upd he) (by simp) (upd_same _ _ _)
            (by intro e; have := congrArg List.length e; rw [List.length_take, List.length_nil] at this; omega) (by rw [List.length_take]; omega) (fun x h => hall x (List.mem_of_mem_take h))
          simpa [seq_eq] using this
        · have := last (put m "_law_parts" (.ref d)) σ₂ d zs gd (by simp) xd hne hlen hall
          simpa [seq_eq] using this
    · have := last m σ' a xs g hp ha h0 (by omega) hx
      simpa [seq_eq] using this
  rw [seq_eq]
  simp [T__law_path_by_1]
  intro a ha
  have m1 := Int.emod_nonneg c (b := 5) (by decide)
  have m2 := Int.emod_lt_of_pos c (b := 5) (by decide)
  have mid : ∀ (dp : Int) (σ' : View), 1 ≤ dp → dp ≤ 3 → Grow σ σ' → sSeq (T__law_path_by_2 ns) (sSeq (T__law_path_by_3 ns) (sSeq (T__law_path_by_4 ns) sNil)) (put (put (put none' "_law_cell" (.int c)) "_law_shift" (.int sh)) "_law_depth" (.int dp)) σ' (fin Q) := by
    intro dp σ' d1 d2 g
    rw [seq_eq]
    simp [T__law_path_by_2]
    refine ⟨⟨by omega, by omega⟩, ?_⟩
    refine comp_names (ns := ns) (by omega) ?_ ?_
    · intro j σ₁ Q' hj g1 nx
      simp
      intro b hb
      have hj3 : j = 0 ∨ j = 1 ∨ j = 2 := by omega
      rcases hj3 with rfl | rfl | rfl
      · refine item_list (v := .int 1) (upd_same _ _ _) (by decide) rfl ?_
        simp
        intro x σ₂ g2 hx
        exact nx x σ₂ ((Grow.refl.upd hb).trans g2) hx
      · refine item_list (v := .int 3) (upd_same _ _ _) (by decide) rfl ?_
        simp
        intro x σ₂ g2 hx
        exact nx x σ₂ ((Grow.refl.upd hb).trans g2) hx
      · refine item_list (v := .int 9) (upd_same _ _ _) (by decide) rfl ?_
        simp
        intro x σ₂ g2 hx
        exact nx x σ₂ ((Grow.refl.upd hb).trans g2) hx
    · intro xs σ₁ g1 hl hx b hb
      exact tail _ _ b xs ((g.trans g1).upd hb) (by simp) (by simp) (by simp) (upd_same _ _ _) (by rintro rfl; simp at hl; omega) (by omega) hx
  generalize c % 5 = r at m1 m2 ⊢
  have hr : r = 0 ∨ r = 1 ∨ r = 2 ∨ r = 3 ∨ r = 4 := by omega
  rcases hr with rfl | rfl | rfl | rfl | rfl
  · exact item_list (v := .int 1) (upd_same _ _ _) (by decide) rfl (mid 1 _ (by decide) (by decide) (Grow.refl.upd ha))
  · exact item_list (v := .int 1) (upd_same _ _ _) (by decide) rfl (mid 1 _ (by decide) (by decide) (Grow.refl.upd ha))
  · exact item_list (v := .int 2) (upd_same _ _ _) (by decide) rfl (mid 2 _ (by decide) (by decide) (Grow.refl.upd ha))
  · exact item_list (v := .int 2) (upd_same _ _ _) (by decide) rfl (mid 2 _ (by decide) (by decide) (Grow.refl.upd ha))
  · exact item_list (v := .int 3) (upd_same _ _ _) (by decide) rfl (mid 3 _ (by decide) (by decide) (Grow.refl.upd ha))
/- lines -/
theorem join_e_len : ∀ (l : List Str), (∀ y ∈ l, y.length = 1) → (Str.join (Str.ofString "") l).length = l.length
  | [], _ => by simp [Str.join, Str.length, Str.empty]
  | [x], h => by simp [Str.join, h x (.head _)]
  | x :: y :: r, h => by
    have ih := join_e_len (y :: r) fun z hz => h z (.tail _ hz)
    have e : Str.join (Str.ofString "") (x :: y :: r) = x ++ Str.ofString "" ++ Str.join (Str.ofString "") (y :: r) := rfl
    rw [e, len_append, len_append, ih, e_len, h x (.head _)]; simp; omega
theorem sum_e : ∀ (l : List Str), (∀ y ∈ l, y.length = 1) → (l.map (·.length)).sum = l.length
  | [], _ => rfl
  | y :: r, h => by simp [sum_e r fun z hz => h z (.tail _ hz), h y (.head _)]; omega
theorem s_line (ns : List Int) : ∀ vs σ Q, sp__law_line_by ns vs σ Q → vs.length = 2 ∧ T__law_line_by ns (bindM ["_law_k", "_law_shift"] vs none') σ (fin Q) := by
  rintro vs σ Q ⟨kk, sh, rfl, q⟩
  refine ⟨rfl, ?_⟩
  unfold T__law_line_by
  rw [seq_eq]
  simp [T__law_line_by_1]
  rw [seq_eq]
  simp [T__law_line_by_2]
  refine ⟨by decide +kernel, ?_⟩
  rw [seq_eq]
  simp [T__law_line_by_3]
  intro a ha
  have last : ∀ (m : Loc) (σ' : View) (x4 : Int), Grow σ σ' → 0 ≤ x4 → x4 ≤ 700 → σ' a = some (.list [.int 0, .int 1, .int 2, .int x4]) → m "_law_sizes" = some (.ref a) → m "_law_k" = some (.int kk) → m "_law_shift" = some (.int sh) →
      m "_law_some" = some (.str (Str.ofString " !\"#$&'()*+,-./0123456789:;<=>?@ABCDEFGHIJKLMNOPQRSTUVWXYZ[\\]^_`" ++ Str.ofString "abcdefghijklmnopqrstuvwxyz{|}~\n\t")) → sSeq (T__law_line_by_5 ns) sNil m σ' (fin Q) := by
    intro m σ' x4 g l1 l2 xa hz hk hs ho
    rw [seq_eq]
    simp [T__law_line_by_5, hz, hk]
    have m1 := Int.emod_nonneg kk (b := 4) (by decide)
    have m2 := Int.emod_lt_of_pos kk (b := 4) (by decide)
    have go : ∀ n : Int, 0 ≤ n → n ≤ 700 → compL (Tgt.name "_law_j") (fun _ => True) tT (eBin (opItem ns) (eName "_law_some") (eBin opMod (eBin opAdd (eBin opAdd (eName "_law_shift") (eBin opMul (eVal (.int 5)) (eName "_law_k"))) (eName "_law_j")) (eVal (.int 96))))
        (only ["_law_some", "_law_shift", "_law_k"] m) (rangeL 0 n.toNat) [] σ' fun ys σ'' => newL ys σ'' fun v σ₁ => spJoin [.str (Str.ofString ""), v] σ₁ fun v σ' => Q v σ' := by
      intro n n1 n2
      refine compL_all (fun s => s = σ') (fun _ y => ∃ x : Str, x.length = 1 ∧ y = .str x) (fun _ _ => trivial) _ [] 0 _ _ (by simp [range_len]; omega) ?_ rfl ?_
      · rintro i v hv s Q' rfl nx
        obtain ⟨hi, rfl⟩ := range_get hv
        refine ⟨_, rfl, ?_⟩
        simp [ho, hs, hk]
        refine ⟨.inl (by unfold Short; decide), ?_⟩
        exact item_mod (by decide +kernel) (by decide) (by decide +kernel) fun y hy => nx _ _ rfl ⟨y, hy, rfl⟩
      · rintro ys s rfl hl hys b hb
        obtain ⟨xs, rfl, hx⟩ := strs_all ys fun i y e => by simpa using hys i y e
        rw [List.length_map, range_len] at hl
        rw [List.nil_append]
        refine join_list (ys := xs) (upd_same _ _ _) (by rw [e_len, sum_e xs hx]; omega) ?_
        exact q _ _ (g.upd hb) (by rw [join_e_len xs hx]; omega)
    generalize kk % 4 = r at m1 m2 ⊢
    have hr : r = 0 ∨ r = 1 ∨ r = 2 ∨ r = 3 := by omega
    rcases hr with rfl | rfl | rfl | rfl
    · refine item_list (v := .int 0) xa (by decide) rfl ?_
      simp
      exact go 0 (by decide) (by decide)
    · refine item_list (v := .int 1) xa (by decide) rfl ?_
      simp
      exact go 1 (by decide) (by decide)
    · refine item_list (v := .int 2) xa (by decide) rfl ?_
      simp
      exact go 2 (by decide) (by decide)
    · refine item_list (v := .int x4) xa (by decide) rfl ?_
      simp
      exact ⟨⟨by omega, by omega⟩, go x4 l1 l2⟩
  have g0 : Grow σ (upd σ a (.list [.int 0, .int 1, .int 2, .int (3 + sh % 60)])) := Grow.refl.upd ha
  have b1 := Int.emod_nonneg sh (b := 60) (by decide)
  have b2 := Int.emod_lt_of_pos sh (b := 60) (by decide)
  have b3 := Int.emod_nonneg (sh / 240) (b := 600) (by decide)
  have b4 := Int.emod_lt_of_pos (sh / 240) (b := 600) (by decide)
  show sSeq _ _ _ _ _
  rw [seq_eq]
  simp [T__law_line_by_4]
  split
  · rw [seq_eq]
    simp
    refine set_listI (upd_same _ _ _) (by decide) (by simp) ?_
    have hg : Grow σ (upd (upd σ a (.list [.int 0, .int 1, .int 2, .int (3 + sh % 60)])) a (.list [.int 0, .int 1, .int 2, .int (3 + sh / 240 % 600)])) := fun b o e => by
      rw [upd_ne (by rintro rfl; rw [ha] at e; cases e)]; exact g0 b o e
    exact last _ _ (3 + sh / 240 % 600) hg (by omega) (by omega) (by rw [upd_same]; rfl) (by simp) (by simp) (by simp) (by simp)
  · exact last _ _ (3 + sh % 60) g0 (by omega) (by omega) (upd_same _ _ _) (by simp) (by simp) (by simp) (by simp)
/- above and startswith -/
theorem split_ne (x : Str) : Txt.split x (Str.ofString "/") ≠ [] := by
  have := PyProof.Rows.split_pos x (Str.ofString "/")
  intro e; rw [e] at this; simp at this
theorem split_fr (x : Str) : ∀ y ∈ Txt.split x (Str.ofString "/"), Fr y := by
  intro y hy
  rw [sl_eq] at hy
  exact StrLaws.split_free _ 47 y hy
theorem above_iff (x y : Str) : x ∈ aboveL y ↔ Txt.startswith y (x ++ Str.ofString "/") = true := by
  have e := starts_join (split_fr x) (split_fr y) (split_ne x) (split_ne y)
  rw [StrLaws.join_split, StrLaws.join_split] at e
  rw [e, decide_eq_true_eq]
  have hx0 : 0 < (Txt.split x (Str.ofString "/")).length := List.length_pos_iff.mpr (split_ne x)
  simp only [aboveL, List.mem_map, List.mem_range]
  constructor
  · rintro ⟨i, hi, e⟩
    have h2 := join_inj (xs := (Txt.split y (Str.ofString "/")).take (i + 1)) (fun z hz => split_fr y z (List.mem_of_mem_take hz)) (split_fr x) (by intro e; have := congrArg List.length e; rw [List.length_take, List.length_nil] at this; omega) (split_ne x) (by rw [e, StrLaws.join_split])
    rw [← h2, List.length_take, Nat.min_eq_left (by omega)]
    exact ⟨by omega, rfl⟩
  · rintro ⟨h1, h2⟩
    refine ⟨(Txt.split x (Str.ofString "/")).length - 1, by omega, ?_⟩
    rw [show (Txt.split x (Str.ofString "/")).length - 1 + 1 = (Txt.split x (Str.ofString "/")).length by omega, h2, StrLaws.join_split]
theorem above_small {x y : Str} (h : y ∈ aboveL x) : y.length ≤ x.length + 1 := by
  unfold aboveL at h
  obtain ⟨i, _, rfl⟩ := List.mem_map.mp h
  have h1 := join_len_le ((Txt.split x (Str.ofString "/")).take (i + 1))
  have h2 := parts_sum (x := x) (i + 1)
  unfold joinLen at h1
  omega
theorem s_tree (ns : List Int) : ∀ vs σ Q, sp_is_tree ns vs σ Q → vs.length = 1 ∧ T_is_tree ns (bindM ["files"] vs none') σ (fin Q) := by
  rintro vs σ Q ⟨a, kvs, ep, rfl, ha, hlen, q⟩
  refine ⟨rfl, ?_⟩
  unfold T_is_tree
  rw [seq_eq]
  simp [T_is_tree_1, iter_dict ha]
  have good : ∀ x, x ∈ kvs.map (·.1) → (okPath x && (aboveL x).all fun y => !decide (y ∈ kvs.map (·.1))) = false → okTree (kvs.map (·.1)) = false := by
    intro x hx h
    unfold okTree
    rw [List.all_eq_false]
    exact ⟨x, hx, by rw [h]; simp⟩
  refine forL_inv (fun i m σ' => Grow σ σ' ∧ m "files" = some (.ref a) ∧ ((kvs.map (·.1)).take i).all (fun x => okPath x && (aboveL x).all fun y => !decide (y ∈ kvs.map (·.1))) = true) (fun u m σ' => Grow σ σ' ∧ u = .bool false ∧ okTree (kvs.map (·.1)) = false) (fun i m σ' h => h.1 _ _ ha) _ ?_ ?_ ?_ _ _ ⟨Grow.refl, by simp, by simp⟩
  · rintro i v m σ' Q' hv ⟨g, hm, hall⟩ n1 n2 n3
    rw [List.getElem?_map] at hv
    obtain ⟨q0, hq, rfl⟩ := Option.map_eq_some_iff.mp hv
    have hk : (kvs.map (·.1))[i]? = some q0.1 := by rw [List.getElem?_map, hq]; rfl
    have hx := List.mem_of_getElem? hk
    have hl := hlen q0 (List.mem_of_getElem? hq)
    refine ⟨_, rfl, ?_⟩
    simp [seq_eq]
    refine ⟨hl, fun σ₁ g1 => ?_⟩
    by_cases hp : okPath q0.1 = true
    · simp [hp]
      refine ⟨hl, fun b σ₂ g2 hb0 hb => ?_⟩
      show iterOf ns (.ref b) σ₂ _
      rw [iter_list hb]
      have gg := (g.trans g1).trans g2
      refine forL_inv (fun j m σ' => Grow σ₂ σ' ∧ m "files" = some (.ref a) ∧ ((aboveL q0.1).take j).all (fun y => !decide (y ∈ kvs.map (·.1))) = true) (fun u m σ' => Grow σ σ' ∧ u = .bool false ∧ okTree (kvs.map (·.1)) = false) (fun j m σ' h => h.1 _ _ hb) _ ?_ ?_ ?_ _ _ ⟨Grow.refl, by simp [hm], by simp⟩
      · rintro j v m' σ₃ Q₂ hv2 ⟨g3, hm3, hall3⟩ k1 k2 k3
        rw [List.getElem?_map] at hv2
        obtain ⟨y, hy, rfl⟩ := Option.map_eq_some_iff.mp hv2
        refine ⟨_, rfl, ?_⟩
        simp [seq_eq, hm3]
        refine in_dict ((gg.trans g3) _ _ ha) ?_
        rw [vget_isSome]
        by_cases hin : y ∈ kvs.map (·.1)
        · simp only [decide_eq_true hin, isB_bool, if_true]
          refine k3 _ _ _ ⟨gg.trans g3, rfl, good q0.1 hx ?_⟩
          rw [Bool.and_eq_false_iff]
          right
          rw [List.all_eq_false]
          exact ⟨y, List.mem_of_getElem? hy, by simpa using hin⟩
        · simp only [decide_eq_false hin, isB_bool]
          simp
          refine k1 _ _ ⟨g3, by simp [hm3], ?_⟩
          rw [List.take_add_one, hy, List.all_append, hall3]
          simpa using hin
      · rintro m' σ₃ ⟨g3, hm3, hall3⟩
        rw [List.length_map, List.take_length] at hall3
        simp
        refine n1 _ _ ⟨gg.trans g3, hm3, ?_⟩
        rw [List.take_add_one, hk, List.all_append, hall]
        simp only [Option.toList, List.all_cons, List.all_nil, Bool.and_true, Bool.true_and, hp, hall3]
      · rintro u m' σ₃ ⟨g3, rfl, h⟩
        simp
        exact n3 _ _ _ ⟨g3, rfl, h⟩
    · simp [hp]
      exact n3 _ _ _ ⟨g.trans g1, rfl, good q0.1 hx (by simp [hp])⟩
  · rintro m σ' ⟨g, hm, hall⟩
    rw [List.length_map, ← List.length_map (f := Prod.fst) (as := kvs), List.take_length] at hall
    have : okTree (kvs.map (·.1)) = true := hall
    have q' := q σ' g
    rw [this] at q'
    simpa [seq_eq, T_is_tree_2] using q'
  · rintro u m σ' ⟨g, rfl, h⟩
    have q' := q σ' g
    rw [h] at q'
    simpa using q'
end Mine

end
section
set_option autoImplicit false
set_option maxRecDepth 10000
set_option linter.unusedVariables false
set_option linter.unusedSimpArgs false
namespace Mine
open PySem PySem.W PyProof.Rows PySem.Calls
/- the law -/
structure Ent (kvs : List (Str × V)) (n : Nat) : Prop where
  nd : (kvs.map (·.1)).Nodup
  ok : ∀ q ∈ kvs, okPath q.1 = true
  le : ∀ q ∈ kvs, q.1.length ≤ 300
  st : ∀ q ∈ kvs, ∃ x, q.2 = .str x
  few : kvs.length ≤ n
theorem Ent.put {kvs : List (Str × V)} {n : Nat} (E : Ent kvs n) {k x : Str} (hk : okPath k = true) (hl : k.length ≤ 300) : Ent (vstored kvs k (.str x)) (n + 1) where
  nd := vstored_nodup E.nd
  ok := fun q h => (vstored_mem h).elim (fun e => by rw [e]; exact hk) (E.ok q)
  le := fun q h => (vstored_mem h).elim (fun e => by rw [e]; exact hl) (E.le q)
  st := fun q h => (vstored_mem h).elim (fun e => ⟨x, by rw [e]⟩) (E.st q)
  few := Nat.le_trans (vstored_len _ _ _) (Nat.succ_le_succ E.few)
theorem Ent.out {kvs : List (Str × V)} {n : Nat} (E : Ent kvs n) {k : Str} : Ent (vout kvs k) n where
  nd := vout_nodup E.nd
  ok := fun q h => E.ok q (vout_mem h)
  le := fun q h => E.le q (vout_mem h)
  st := fun q h => E.st q (vout_mem h)
  few := Nat.le_trans (vout_len _ _) E.few
structure FS (m : Loc) (σ : View) (a : Addr) (kvs : List (Str × V)) (sh : Int) (n : Nat) : Prop where
  sc : m "_law_script" = some .script
  fi : m "_law_files" = some (.ref a)
  sf : m "_law_shift" = some (.int sh)
  d : ∃ ep, σ a = some (.dict kvs ep)
  e : Ent kvs n
theorem f3 {ns : List Int} {m : Loc} {σ : View} {a : Addr} {sh : Int} {Q : Fl → Loc → View → Prop} (S : FS m σ a [] sh 0) (h : ∀ m' σ' kvs, FS m' σ' a kvs sh 9 → Q .next m' σ') : T_law_3 ns m σ Q := by
  have m1 := Int.emod_nonneg (cell ns 1) (b := 9) (by decide)
  have m2 := Int.emod_lt_of_pos (cell ns 1) (b := 9) (by decide)
  simp [T_law_3, S.sc]
  refine ⟨⟨by omega, by omega⟩, ?_⟩
  refine forL_inv (fun i m σ => ∃ kvs, FS m σ a kvs sh i) (fun _ _ _ => False) (fun _ _ _ _ => trivial) _ ?_ ?_ (fun _ _ _ h => h.elim) _ _ ⟨[], S⟩
  · rintro i v m σ Q' hv ⟨kvs, S⟩ n1 n2 n3
    obtain ⟨hi, rfl⟩ := range_get hv
    refine ⟨_, rfl, ?_⟩
    simp [seq_eq, S.sc, S.sf]
    refine ⟨by omega, fun x σ₁ g1 hx => ?_⟩
    simp [S.fi]
    intro y σ₂ g2 hy hyl
    obtain ⟨ep, hd⟩ := S.d
    have few := S.e.few
    refine set_dict (g2 _ _ (g1 _ _ hd)) (by omega) fun ep' => ?_
    exact n1 _ _ ⟨_, by simp [S.sc], by simp [S.fi], by simp [S.sf], ⟨ep', upd_same _ _ _⟩, S.e.put hy (by omega)⟩
  · rintro m σ ⟨kvs, S⟩
    rw [range_len] at S
    exact h m σ kvs { S with e := { S.e with few := Nat.le_trans S.e.few (by omega) } }
theorem tops_ok : ∀ j : Nat, j < 60 → okPart (Str.ofString "tops" ++ Str.ofString ((j : Int).repr)) = true := by decide +kernel
theorem f4 {ns : List Int} {m : Loc} {σ : View} {a : Addr} {sh : Int} {kvs : List (Str × V)} {Q : Fl → Loc → View → Prop} (S : FS m σ a kvs sh 9) (h : ∀ m' σ' kvs, FS m' σ' a kvs sh 70 → Q .next m' σ') : T_law_4 ns m σ Q := by
  simp [T_law_4, S.sc]
  split
  · rw [seq_eq]
    simp
    refine forL_inv (fun i m σ => ∃ kvs, FS m σ a kvs sh (9 + i)) (fun _ _ _ => False) (fun _ _ _ _ => trivial) _ ?_ ?_ (fun _ _ _ h => h.elim) _ _ ⟨kvs, S⟩
    · rintro i v m σ Q' hv ⟨kvs, S⟩ n1 n2 n3
      obtain ⟨hi, rfl⟩ := range_get hv
      have hi' : i < 60 := hi
      have ht := tops_ok i hi'
      have htl := part_le ht
      rw [len_append] at htl
      refine ⟨_, rfl, ?_⟩
      simp [seq_eq, S.sf]
      intro x σ₁ g1 hx
      simp [S.fi]
      refine ⟨?_, by omega, ?_⟩
      · have : i.log2 ≤ i := Nat.log2_le_self i
        omega
      · have e1 := len_append (Str.ofString "tops") (Str.ofString ((i : Int).repr))
        refine ⟨by rw [sl_len]; omega, fun y σ₂ g2 hy => ?_⟩
        have hyl := part_le hy
        have e2 := len_append (Str.ofString "tops" ++ Str.ofString ((i : Int).repr)) (Str.ofString "/")
        rw [sl_len] at e2
        refine ⟨by omega, ?_⟩
        obtain ⟨ep, hd⟩ := S.d
        have few := S.e.few
        have hp : okPath (Str.ofString "tops" ++ Str.ofString ((i : Int).repr) ++ Str.ofString "/" ++ y) = true :=
          okPath_join (xs := [Str.ofString "tops" ++ Str.ofString ((i : Int).repr), y]) (by intro z hz; simp at hz; rcases hz with rfl | rfl; exact ht; exact hy) (by simp) (by simp)
        refine set_dict (g2 _ _ (g1 _ _ hd)) (by omega) fun ep' => ?_
        refine n1 _ _ ⟨_, by simp [S.sc], by simp [S.fi], by simp [S.sf], ⟨ep', upd_same _ _ _⟩, S.e.put hp ?_⟩
        rw [len_append]; omega
    · rintro m σ ⟨kvs, S⟩
      rw [range_len] at S
      simp
      exact h m σ kvs { S with e := { S.e with few := Nat.le_trans S.e.few (by decide) } }
  · exact h m σ kvs { S with e := { S.e with few := Nat.le_trans S.e.few (by decide) } }
/- the last part -/
structure Fin3 (kvs : List (Str × V)) (od : Int) : Prop where
  le : ∀ q ∈ kvs, q.1.length ≤ 1000
  st : ∀ q ∈ kvs, ∃ x, q.2 = .str x
  few : kvs.length ≤ 1000
  good : od % 5 ≠ 1 → ∀ q ∈ kvs, okPath q.1 = true
  bad : od % 5 = 1 → ∃ q ∈ kvs, okPath q.1 = false
def clash (ks : List Str) (p : Str) : Bool := ks.any fun q => Txt.startswith q (p ++ Str.ofString "/")
theorem tree_due {kvs : List (Str × V)} {od : Int} (F : Fin3 kvs od) : okTree (kvs.map (·.1)) = (decide (od % 5 ≠ 1) && !((kvs.map (·.1)).any (clash (kvs.map (·.1))))) := by
  by_cases h : od % 5 = 1
  · obtain ⟨q, hq, e⟩ := F.bad h
    have : okTree (kvs.map (·.1)) = false := by
      unfold okTree
      rw [List.all_eq_false]
      exact ⟨q.1, List.mem_map.mpr ⟨q, hq, rfl⟩, by simp [e]⟩
    rw [this, decide_eq_false (by simpa using h)]; rfl
  · rw [decide_eq_true (by simpa using h), Bool.true_and]
    have hk : ∀ x ∈ kvs.map (·.1), okPath x = true := fun x hx => by
      obtain ⟨q, hq, rfl⟩ := List.mem_map.mp hx; exact F.good h q hq
    unfold okTree
    rw [Bool.eq_iff_iff]
    simp only [List.all_eq_true, Bool.and_eq_true, Bool.not_eq_true', List.any_eq_false, decide_eq_false_iff_not, clash]
    constructor
    · intro H p hp hc
      obtain ⟨q, hq, e⟩ := List.any_eq_true.mp hc
      exact (H q hq).2 p ((above_iff p q).mpr e) hp
    · intro H q hq
      refine ⟨hk q hq, fun p hp hin => H p hin ?_⟩
      exact List.any_eq_true.mpr ⟨q, hq, (above_iff p q).mp hp⟩
theorem f8 {ns : List Int} {m : Loc} {σ : View} {a : Addr} {kvs : List (Str × V)} {ep : Nat} {d0 : Bool} {Q : Fl → Loc → View → Prop} (hf : m "_law_files" = some (.ref a)) (hd : σ a = some (.dict kvs ep)) (hu : m "_law_due" = some (.bool d0)) (hl : ∀ q ∈ kvs, q.1.length ≤ 1000)
    (h : ∀ m', m' "_law_files" = some (.ref a) → m' "_law_due" = some (.bool (d0 && !((kvs.map (·.1)).any (clash (kvs.map (·.1)))))) → Q .next m' σ) : T_law_8 ns m σ Q := by
  simp [T_law_8, hf, iter_dict hd]
  refine forL_inv (fun i m σ' => σ' = σ ∧ m "_law_files" = some (.ref a) ∧ m "_law_due" = some (.bool (d0 && !(((kvs.map (·.1)).take i).any (clash (kvs.map (·.1))))))) (fun _ _ _ => False) (fun i m σ' h => by rw [h.1]; exact hd) _ ?_ ?_ (fun _ _ _ h => h.elim) _ _ ⟨rfl, hf, by simp [hu]⟩
  · rintro i v m σ' Q' hv ⟨rfl, h1, h2⟩ n1 n2 n3
    rw [List.getElem?_map] at hv
    obtain ⟨q0, hq, rfl⟩ := Option.map_eq_some_iff.mp hv
    have hk : (kvs.map (·.1))[i]? = some q0.1 := by rw [List.getElem?_map, hq]; rfl
    have hl0 := hl q0 (List.mem_of_getElem? hq)
    refine ⟨_, rfl, ?_⟩
    rw [seq_eq]
    simp [h1, iter_dict hd]
    generalize hb : (d0 && !(((kvs.map (·.1)).take i).any (clash (kvs.map (·.1))))) = b0 at h2
    refine forL_inv (fun j m σ'' => σ'' = σ' ∧ m "_law_files" = some (.ref a) ∧ m "_law_path" = some (.str q0.1) ∧ m "_law_due" = some (.bool (b0 && !(((kvs.map (·.1)).take j).any fun q => Txt.startswith q (q0.1 ++ Str.ofString "/"))))) (fun _ _ _ => False) (fun i m σ' h => by rw [h.1]; exact hd) _ ?_ ?_ (fun _ _ _ h => h.elim) _ _ ⟨rfl, by simp [h1], by simp, by simp [h2]⟩
    · rintro j v m σ'' Q₂ hv2 ⟨rfl, k1, k2, k3⟩ p1 p2 p3
      rw [List.getElem?_map] at hv2
      obtain ⟨q1, hq1, rfl⟩ := Option.map_eq_some_iff.mp hv2
      have hk1 : (kvs.map (·.1))[j]? = some q1.1 := by rw [List.getElem?_map, hq1]; rfl
      refine ⟨_, rfl, ?_⟩
      rw [seq_eq]
      simp [k2, sl_len]
      refine ⟨by omega, ?_⟩
      split
      · rename_i e
        rw [seq_eq]
        simp
        refine p1 _ _ ⟨rfl, by simp [k1], by simp [k2], ?_⟩
        rw [List.take_add_one, hk1, List.any_append]
        simp [e]
      · rename_i e
        refine p1 _ _ ⟨rfl, by simp [k1], by simp [k2], ?_⟩
        rw [List.take_add_one, hk1, List.any_append]
        simp [k3, e]
    · rintro m σ'' ⟨rfl, k1, k2, k3⟩
      rw [List.length_map, ← List.length_map (f := Prod.fst) (as := kvs), List.take_length] at k3
      simp
      refine n1 _ _ ⟨rfl, k1, ?_⟩
      rw [k3, List.take_add_one, hk, List.any_append, ← hb]
      simp [clash, Bool.and_assoc]
  · rintro m σ' ⟨rfl, h1, h2⟩
    rw [List.length_map, ← List.length_map (f := Prod.fst) (as := kvs), List.take_length] at h2
    exact h m h1 h2
def wrongs : List Str := [Str.ofString "", Str.ofString "/a", Str.ofString "a/", Str.ofString "a//b", Str.ofString "a/./b", Str.ofString "..", Str.ofString "a b", Str.ofString "a/b+", Str.ofString "abcdefghijklm", Str.ofString "a/b/c/d/e/f/g/h/i"]
theorem wrongs_bad : ∀ x ∈ wrongs, okPath x = false ∧ x.length ≤ 300 := by decide +kernel
structure WS (m : Loc) (σ : View) (a b w : Addr) (A B : List (Str × V)) (od mn : Int) (n k : Nat) : Prop where
  fi : m "_law_files" = some (.ref a)
  be : m "_law_behind" = some (.ref b)
  wr : m "_law_wrong" = some (.ref w)
  od_ : m "_law_odd" = some (.int od)
  mn_ : m "_law_many" = some (.int mn)
  da : ∃ ep, σ a = some (.dict A ep)
  db : ∃ ep, σ b = some (.dict B ep)
  dw : σ w = some (.list (wrongs.map .str))
  ab : a ≠ b
  ea : Ent A n
  eb : Ent B k
theorem f6 {ns : List Int} {m : Loc} {σ : View} {a : Addr} {sh od : Int} {kvs : List (Str × V)} {Q : Fl → Loc → View → Prop} (S : FS m σ a kvs sh 70) (ho : m "_law_odd" = some (.int od))
    (h : ∀ m' σ' kvs ep, m' "_law_files" = some (.ref a) → m' "_law_odd" = some (.int od) → σ' a = some (.dict kvs ep) → Fin3 kvs od → Q .next m' σ') : T_law_6 ns m σ Q := by
  obtain ⟨ep, hd⟩ := S.d
  simp [T_law_6, ho]
  split
  · rename_i h5
    rw [seq_eq]
    simp
    intro w hw
    show sSeq _ _ _ _ _
    rw [seq_eq]
    simp
    intro b epb hb
    show sSeq _ _ _ _ _
    change sSeq _ _ _ (upd (upd σ w (.list (wrongs.map .str))) b (.dict [] epb)) _
    change upd σ w (.list (wrongs.map .str)) b = Option.none at hb
    have haw : a ≠ w := by rintro rfl; rw [hd] at hw; cases hw
    have hab : a ≠ b := by rintro rfl; rw [upd_ne haw, hd] at hb; cases hb
    have hwb : w ≠ b := by rintro rfl; rw [upd_same] at hb; cases hb
    have xa : upd (upd σ w (.list (wrongs.map .str))) b (.dict [] epb) a = some (.dict kvs ep) := by rw [upd_ne hab, upd_ne haw]; exact hd
    have xw : upd (upd σ w (.list (wrongs.map .str))) b (.dict [] epb) w = some (.list (wrongs.map .str)) := by rw [upd_ne hwb, upd_same]
    have xb := upd_same (upd σ w (.list (wrongs.map .str))) b (.dict [] epb)
    generalize (upd (upd σ w (.list (wrongs.map .str))) b (.dict [] epb)) = σ₁ at xa xw xb ⊢
    rw [seq_eq]
    simp [ho, S.fi, len_dict xa]
    rw [seq_eq]
    simp [S.fi, listc_dict xa]
    intro l hl
    have hal : a ≠ l := by rintro rfl; rw [xa] at hl; cases hl
    have hbl : b ≠ l := by rintro rfl; rw [xb] at hl; cases hl
    have hwl : w ≠ l := by rintro rfl; rw [xw] at hl; cases hl
    rw [iter_list (upd_same _ _ _)]
    have few := S.e.few
    refine forL_inv (fun i m σ => ∃ A B, WS m σ a b w A B od (od / 50 % (↑kvs.length + 1)) 70 i ∧ σ l = some (.list (kvs.map fun q => .str q.1)) ∧ ∀ x ∈ (kvs.map (·.1)).drop i, x ∈ A.map (·.1)) (fun _ _ _ => False) (fun i m σ h => by obtain ⟨_, _, _, h, _⟩ := h; exact h) _ ?_ ?_ (fun _ _ _ h => h.elim) _ _ ?_
    · rintro i v m σ Q' hv ⟨A, B, W, hl', hin⟩ n1 n2 n3
      rw [List.getElem?_map] at hv
      obtain ⟨q0, hq, rfl⟩ := Option.map_eq_some_iff.mp hv
      have hk : (kvs.map (·.1))[i]? = some q0.1 := by rw [List.getElem?_map, hq]; rfl
      have hi := (List.getElem?_eq_some_iff.mp hk).1
      have hdrop : (kvs.map (·.1)).drop i = q0.1 :: (kvs.map (·.1)).drop (i + 1) := by
        rw [List.drop_eq_getElem_cons hi, (List.getElem?_eq_some_iff.mp hk).2]
      obtain ⟨ea, da⟩ := W.da
      obtain ⟨eb, db⟩ := W.db
      refine ⟨_, rfl, ?_⟩
      simp [seq_eq, W.be, W.mn_, len_dict db]
      split
      · simp [W.fi, W.be, tyDict_ref da]
        obtain ⟨u, hu, hmem⟩ := vget_mem (hin q0.1 (by rw [hdrop]; exact .head _))
        obtain ⟨x, rfl⟩ := W.ea.st _ hmem
        refine pop_dict da hu fun ep1 => ?_
        have fb := W.eb.few
        have hi2 : i < kvs.length := by simpa using hi
        refine set_dict (by rw [upd_ne (Ne.symm W.ab)]; exact db) (by omega) fun ep2 => ?_
        refine n1 _ _ ⟨vout A q0.1, vstored B q0.1 (.str x), ⟨by simp [W.fi], by simp [W.be], by simp [W.wr], by simp [W.od_], by simp [W.mn_], ⟨ep1, by rw [upd_ne W.ab, upd_same]⟩, ⟨ep2, upd_same _ _ _⟩, ?_, W.ab, W.ea.out, W.eb.put (W.ea.ok (q0.1, .str x) hmem) (W.ea.le (q0.1, .str x) hmem)⟩, ?_, ?_⟩
        · rw [upd_ne hwb, upd_ne (Ne.symm haw)]; exact W.dw
        · rw [upd_ne (Ne.symm hbl), upd_ne (Ne.symm hal)]; exact hl'
        · intro y hy
          rw [vout_keys]
          refine ⟨?_, hin y (by rw [hdrop]; exact .tail _ hy)⟩
          rintro rfl
          have nd := S.e.nd
          have : ((kvs.map (·.1)).drop i).Nodup := nd.sublist (List.drop_sublist _ _)
          rw [hdrop, List.nodup_cons] at this
          exact this.1 hy
      · refine n1 _ _ ⟨A, B, ⟨by simp [W.fi], by simp [W.be], by simp [W.wr], by simp [W.od_], by simp [W.mn_], W.da, W.db, W.dw, W.ab, W.ea, { W.eb with few := Nat.le_succ_of_le W.eb.few }⟩, hl', fun y hy => hin y (by rw [hdrop]; exact .tail _ hy)⟩
    · rintro m σ ⟨A, B, W, _, _⟩
      obtain ⟨ea, da⟩ := W.da
      have fa := W.ea.few
      have fb := W.eb.few
      rw [List.length_map] at fb
      rw [kont_next, seq_eq]
      simp [W.fi, W.wr, W.od_]
      have r1 := Int.emod_nonneg (od / 5) (b := 10) (by decide)
      have r2 := Int.emod_lt_of_pos (od / 5) (b := 10) (by decide)
      generalize od / 5 % 10 = r at r1 r2 ⊢
      have wl : wrongs.length = 10 := rfl
      obtain ⟨y, hy⟩ : ∃ y, wrongs[r.toNat]? = some y := ⟨wrongs[r.toNat]'(by omega), List.getElem?_eq_getElem (by omega)⟩
      obtain ⟨y1, y2⟩ := wrongs_bad y (List.mem_of_getElem? hy)
      refine item_list (v := .str y) W.dw r1 (by rw [List.getElem?_map, hy]; rfl) ?_
      refine set_dict da (by omega) fun ep1 => ?_
      obtain ⟨eb, db⟩ := W.db
      rw [seq_eq]
      have db1 : upd σ a (.dict (vstored A y (.str (Str.ofString "x"))) ep1) b = some (.dict B eb) := by rw [upd_ne (Ne.symm W.ab)]; exact db
      simp [W.be, iter_dict db1]
      refine forL_inv (fun i m σ => m "_law_files" = some (.ref a) ∧ m "_law_behind" = some (.ref b) ∧ m "_law_odd" = some (.int od) ∧ σ b = some (.dict B eb) ∧ ∃ A' ep', σ a = some (.dict A' ep') ∧ (∀ q ∈ A', q.1.length ≤ 300) ∧ (∀ q ∈ A', ∃ x, q.2 = .str x) ∧ A'.length ≤ 71 + i ∧ y ∈ A'.map (·.1)) (fun _ _ _ => False) (fun i m σ h => h.2.2.2.1) _ ?_ ?_ (fun _ _ _ h => h.elim) _ _ ?_
      · rintro i v m σ Q' hv ⟨k1, k2, k3, k4, A', ep', k5, k6, k7, k8, k9⟩ n1 n2 n3
        rw [List.getElem?_map] at hv
        obtain ⟨q0, hq, rfl⟩ := Option.map_eq_some_iff.mp hv
        have hi := (List.getElem?_eq_some_iff.mp hq).1
        refine ⟨_, rfl, ?_⟩
        simp [seq_eq, k1, k2]
        obtain ⟨u, hu, hmem⟩ := vget_mem (List.mem_map.mpr ⟨q0, List.mem_of_getElem? hq, rfl⟩ : q0.1 ∈ B.map (·.1))
        obtain ⟨x, rfl⟩ := W.eb.st _ hmem
        refine item_dict k4 hu ?_
        refine set_dict k5 (by omega) fun ep2 => ?_
        have vl := vstored_len A' q0.1 (.str x)
        refine n1 _ _ ⟨by simp [k1], by simp [k2], by simp [k3], by rw [upd_ne (Ne.symm W.ab)]; exact k4, vstored A' q0.1 (.str x), ep2, upd_same _ _ _, ?_, ?_, by omega, ?_⟩
        · intro q h
          exact (vstored_mem h).elim (fun e => by rw [e]; exact W.eb.le (q0.1, .str x) hmem) (k6 q)
        · intro q h
          exact (vstored_mem h).elim (fun e => ⟨x, by rw [e]⟩) (k7 q)
        · rw [vstored_keys]; exact .inr k9
      · rintro m σ ⟨k1, k2, k3, k4, A', ep', k5, k6, k7, k8, k9⟩
        rw [List.length_map] at k8
        simp
        refine h m σ A' ep' k1 k3 k5 ⟨fun q hq => Nat.le_trans (k6 q hq) (by decide), k7, by omega, fun e => absurd h5 e, fun _ => ?_⟩
        obtain ⟨q, hq, e⟩ := List.mem_map.mp k9
        exact ⟨q, hq, by rw [e]; exact y1⟩
      · have vl := vstored_len A y (.str (Str.ofString "x"))
        refine ⟨W.fi, W.be, W.od_, db1, _, ep1, upd_same _ _ _, ?_, ?_, by omega, ?_⟩
        · intro q h
          exact (vstored_mem h).elim (fun e => by rw [e]; exact y2) (W.ea.le q)
        · intro q h
          exact (vstored_mem h).elim (fun e => ⟨_, by rw [e]⟩) (W.ea.st q)
        · rw [vstored_keys]; exact .inl rfl
    · refine ⟨kvs, [], ⟨by simp [S.fi], by simp, by simp, by simp [ho], by simp, ⟨ep, by rw [upd_ne hal]; exact xa⟩, ⟨epb, by rw [upd_ne hbl]; exact xb⟩, by rw [upd_ne hwl]; exact xw, hab, S.e, ⟨by simp, by simp, by simp, by simp, by simp⟩⟩, upd_same _ _ _, by simp⟩
  · rename_i h5
    exact h m σ kvs ep S.fi ho hd ⟨fun q hq => Nat.le_trans (S.e.le q hq) (by decide), S.e.st, Nat.le_trans S.e.few (by decide), fun _ => S.e.ok, fun e => absurd e h5⟩
theorem tup_eq {σ : View} {n : Nat} : ∀ (l : List (Str × V)), (∀ q ∈ l, ∃ x, q.2 = .str x) → all2 (veqN (n + 1) σ) (l.map fun q => .tup [.str q.1, q.2]) (l.map fun q => .tup [.str q.1, q.2]) = some true
  | [], _ => rfl
  | (k, v) :: r, h => by
    obtain ⟨x, rfl⟩ := h (k, v) (.head _)
    have ih := tup_eq (σ := σ) (n := n) r fun q hq => h q (.tail _ hq)
    have e : veqN (n + 1) σ (.tup [.str k, .str x]) (.tup [.str k, .str x]) = some true := by
      cases n <;> simp [veqN, all2, veq0]
    simp only [List.map_cons, all2, ih, e]; rfl
theorem s_law (ns : List Int) : ∀ vs σ Q, sp_law ns vs σ Q → vs.length = 1 ∧ T_law ns (bindM ["_law_script"] vs none') σ (fin Q) := by
  rintro vs σ Q ⟨rfl, hσ, q⟩
  refine ⟨rfl, ?_⟩
  unfold T_law
  rw [seq_eq]
  simp [T_law_1]
  rw [seq_eq]
  simp [T_law_2]
  intro a ep ha
  show sSeq _ _ _ _ _
  rw [seq_eq]
  refine f3 (a := a) (sh := cell ns 0) ⟨by simp, by simp, by simp, ⟨ep, upd_same _ _ _⟩, ⟨by simp, by simp, by simp, by simp, by simp⟩⟩ fun m σ kvs S => ?_
  rw [kont_next, seq_eq]
  refine f4 S fun m σ kvs S => ?_
  rw [kont_next, seq_eq]
  simp [T_law_5, S.sc]
  rw [seq_eq]
  refine f6 (a := a) (sh := cell ns 0) (od := cell ns 2) (kvs := kvs) ⟨by simp [S.sc], by simp [S.fi], by simp [S.sf], S.d, S.e⟩ (by simp) fun m σ kvs ep hf ho hd F3 => ?_
  rw [kont_next, seq_eq]
  simp [T_law_7, ho]
  rw [seq_eq]
  refine f8 (a := a) (kvs := kvs) (ep := ep) (d0 := !decide (cell ns 2 % 5 = 1)) (by simp [hf]) hd (by simp) F3.le fun m hf hu => ?_
  rw [kont_next, seq_eq]
  simp [T_law_9, hf]
  refine ⟨kvs, ⟨ep, hd⟩, fun c hc => ?_⟩
  show sSeq _ _ _ _ _
  have hac : a ≠ c := by rintro rfl; rw [hd] at hc; cases hc
  have hd2 : upd σ c (.list (kvs.map fun q => .tup [.str q.1, q.2])) a = some (.dict kvs ep) := by rw [upd_ne hac]; exact hd
  have hc2 := upd_same σ c (.list (kvs.map fun q => .tup [.str q.1, q.2]))
  generalize (upd σ c (.list (kvs.map fun q => .tup [.str q.1, q.2]))) = σ₁ at hd2 hc2 ⊢
  rw [seq_eq]
  simp [T_law_10, hf]
  refine ⟨a, kvs, ep, rfl, hd2, F3.le, fun σ₂ g => ?_⟩
  show sSeq _ _ _ _ _
  rw [seq_eq]
  have td := tree_due F3
  have hdn : decide (cell ns 2 % 5 ≠ 1) = !decide (cell ns 2 % 5 = 1) := by simp
  rw [hdn] at td
  rw [← td] at hu
  simp [T_law_11, hf, hu]
  refine ⟨kvs, ⟨ep, g _ _ hd2⟩, fun e he => ?_⟩
  have hce : c ≠ e := by rintro rfl; rw [g _ _ hc2] at he; cases he
  refine ⟨true, ?_, q _⟩
  simp only [veqN, upd_same, upd_ne hce, g _ _ hc2, if_true]
  exact tup_eq (n := 1) kvs F3.st
end Mine

end
section
namespace Mine
open PySem PySem.W PyProof.Rows PySem.Calls
theorem law_at {C : Cx} (G : Gl C hd.view_39) (g1 : GInt C "LONGEST_PART" 12) (g2 : GStr C "SIGNS" (Str.ofString "abcdefghijklmnopqrstuvwxyzABCDEFGHIJKLMNOPQRSTUVWXYZ0123456789.-_")) (g3 : GInt C "MOST_PARTS" 8) : FnAt C 3 "law" (sp_law C.ns) := by
  have h1 := f__law_cell_at G (s_cell C.ns)
  have h2 := f__law_sign_by G (s_sign C.ns)
  have h3 := f__law_name_by G h2 (s_name C.ns)
  have h4 := f__law_path_by G h3 (s_pathby C.ns)
  have h5 := f__law_line_by G (s_line C.ns)
  have h7 := f_is_part G g1 g2 (s_isp C.ns)
  have h8 := f_is_path G g3 h7 (s_path C.ns)
  have h9 := f_above G (s_above C.ns)
  have h10 := f_is_tree G h8 h9 (s_tree C.ns)
  apply f_law G <;> first | assumption | exact s_law C.ns
theorem hf_x : (["len", "range", "min", "max", "isinstance", "bool", "str", "int", "list", "dict", "set", "sorted", "tuple", "sum", "type"].all fun x : String => !(startupNames ++ (looseW hd.view_39 []) ++ (recsOf hd.view_39).map (·.name) ++ (litsOf hd.view_39).map (·.1) ++ (clssOf hd.view_39 (looseW hd.view_39 [])).map (·.name)).contains (Str.ofString x)) = true := by decide +kernel
theorem v1 : valOf hd.view_39 (Str.ofString "LONGEST_PART") = some (.int 12) := by rfl
theorem v2 : valOf hd.view_39 (Str.ofString "SIGNS") = some (.str (Str.ofString "abcdefghijklmnopqrstuvwxyzABCDEFGHIJKLMNOPQRSTUVWXYZ0123456789.-_")) := by rfl
theorem v3 : valOf hd.view_39 (Str.ofString "MOST_PARTS") = some (.int 8) := by rfl
theorem hi_x : importsNone hd.view_39 = true := by decide +kernel
end Mine
open PySem PySem.W PyProof.Rows PySem.Calls
set_option maxRecDepth 100000
set_option maxHeartbeats 8000000
theorem PySem.Challenge.cw_uf050007_03_holds : PySem.Challenge.rw_uf050007_03.Holds :=
  hd (by
  k_fill
  intro w s₀ s₁ mg mb G Y fa o pm cd doc dV kV ho hd hcd hD hmg hg args vals as hpre hlay hrd hwl hlo
  have KX := kIn_of Y
  have X := (Ground.X G).1
  have V := (Ground.X G).2
  refine Ground.open G ?_
  intro T B D TE TW
  try (refine guard_noD D (by decide +kernel) ?_; clear D)
  obtain ⟨_, _, M⟩ := bmod_of_top T
  wrow_args hpre hlay hrd hwl hlo
  all_goals first | refine callC_kw (enter_call ?_) | refine enter_call ?_ | refine callC_kw (enter_callW ?_) | refine enter_callW ?_ | w_how
  rename_i ns _ _ _ _ _ _ _ aS vs _ hL _ _ _ hI _ hn _
  have O : Mine.Cx.Ok ⟨PySem.Challenge.rw_uf050007_03.row.prog, w, s₁, aS, ns, mg, mb⟩ := Mine.Cx.ok_of T Mine.hi_x hL hI hn
  have GG := Mine.Gl.of T O Mine.hf_x
  have g1 : Mine.GInt ⟨PySem.Challenge.rw_uf050007_03.row.prog, w, s₁, aS, ns, mg, mb⟩ "LONGEST_PART" 12 := Mine.GInt.of T Mine.v1
  have g2 : Mine.GStr ⟨PySem.Challenge.rw_uf050007_03.row.prog, w, s₁, aS, ns, mg, mb⟩ "SIGNS" (Str.ofString "abcdefghijklmnopqrstuvwxyzABCDEFGHIJKLMNOPQRSTUVWXYZ0123456789.-_") := Mine.GStr.of T Mine.v2
  have g3 : Mine.GInt ⟨PySem.Challenge.rw_uf050007_03.row.prog, w, s₁, aS, ns, mg, mb⟩ "MOST_PARTS" 8 := Mine.GInt.of T Mine.v3
  obtain ⟨a, o', fd', e1, e2, e3, S⟩ := Mine.law_at GG g1 g2 g3
  have ea : a = fa := by
    have := e1.symm.trans hmg
    cases this; rfl
  subst ea
  exact Mine.law_ends S (by decide) hg (raisesW_false (by wrow_none_raised)) (by wrow_post))

end
