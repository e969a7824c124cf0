import PyProof.Rows.All
import Wide.All
import OpenK.AllK
import Wide.FinOn
import HandS.ForMost
import HandS.ForExc
import HandS.CallSlots
import KE.KDictKeyed
import KE.KeyNested
import KE.SortData
import HandS.TupAny
import HandS.Wide
import HandS.Text
import HandS.Deep
import HandS.TupMul
import HandS.TupLe
import HandS.Flow
import HandS.Style
import HandS.IsInst
import KE.KDictPairs
import HandS.DictTup
import PyProof.Transfer
import HandS.HeadHook3
import HandS.ExcInit
import HandS.ExcField
import HandS.ExcIs
import HandS.Words
import HandS.Defaults
import HandS.Codes
import HandS.TryOnly
import KE.KDflt
import HandS.Lambda
import HandS.HeadHook4
import HandS.HeadWalk
import HandS.Head2
import HandS.Set
import HandS.SetFor
import HandS.Strs
import PySem.Challenge.RW_headbook_k10_texts
set_option Elab.async false
set_option linter.all false
set_option maxRecDepth 100000
set_option maxHeartbeats 4000000
/-! CL1: the clean layer: pure values, the clean heap, the relation with the hand layer's heap, the readings tOf. -/
namespace CL
open PySem L2

/-! ### values -/
inductive PV where
  | non | bl (b : Bool) | int (i : Int) | str (x : Str) | tup (xs : List PV) | lst (xs : List PV) | loc (l : Nat) | clo (i : Nat) (caps : List PV)
  deriving Inhabited
namespace PV
mutual
def beq : PV → PV → Bool
  | .non, .non => true
  | .bl a, .bl b => a == b
  | .int a, .int b => decide (a = b)
  | .str a, .str b => decide (a = b)
  | .tup a, .tup b => beqs a b
  | .lst a, .lst b => beqs a b
  | .loc a, .loc b => decide (a = b)
  | .clo i a, .clo j b => decide (i = j) && beqs a b
  | _, _ => false
def beqs : List PV → List PV → Bool
  | [], [] => true
  | a :: as, b :: bs => beq a b && beqs as bs
  | _, _ => false
end
mutual
theorem beq_self : ∀ a : PV, beq a a = true
  | .non => rfl
  | .bl a => by simp [beq]
  | .int a => by simp [beq]
  | .str a => by simp [beq]
  | .loc a => by simp [beq]
  | .tup a => by rw [beq]; exact beqs_self a
  | .lst a => by rw [beq]; exact beqs_self a
  | .clo i a => by rw [beq, beqs_self a]; simp
theorem beqs_self : ∀ a : List PV, beqs a a = true
  | [] => rfl
  | a :: as => by rw [beqs, beq_self a, beqs_self as]; rfl
end
mutual
theorem eq_of_beq : ∀ a b : PV, beq a b = true → a = b
  | .non, b, h => by cases b <;> simp [beq] at h; rfl
  | .bl a, b, h => by cases b <;> simp [beq] at h; rw [h]
  | .int a, b, h => by cases b <;> simp [beq] at h; rw [h]
  | .str a, b, h => by cases b <;> simp [beq] at h; rw [h]
  | .loc a, b, h => by cases b <;> simp [beq] at h; rw [h]
  | .tup a, b, h => by
    cases b <;> simp only [beq, Bool.false_eq_true] at h
    rw [eq_of_beqs _ _ h]
  | .lst a, b, h => by
    cases b <;> simp only [beq, Bool.false_eq_true] at h
    rw [eq_of_beqs _ _ h]
  | .clo i a, b, h => by
    cases b <;> simp only [beq, Bool.false_eq_true, Bool.and_eq_true, decide_eq_true_eq] at h
    rw [h.1, eq_of_beqs _ _ h.2]
theorem eq_of_beqs : ∀ a b : List PV, beqs a b = true → a = b
  | [], b, h => by cases b <;> simp [beqs] at h; rfl
  | a :: as, b, h => by
    cases b <;> simp only [beqs, Bool.false_eq_true, Bool.and_eq_true] at h
    rw [eq_of_beq _ _ h.1, eq_of_beqs _ _ h.2]
end
instance : DecidableEq PV := fun a b => if h : beq a b = true then .isTrue (eq_of_beq a b h) else .isFalse fun e => h (e ▸ beq_self a)
end PV

inductive Cont where
  | list (xs : List PV) | dict (kvs : List (PV × PV))
/-- an object of the clean heap -/
inductive CO where
  | cont (c : Cont) | inst (cls : Nat) (fs : List (Str × PV)) | tbl
/-- an exception: its class, its field -/
structure PExc where
  cls : Nat
  arg : Option (Str × PV)
/-- what a slot holds -/
inductive SV where
  | emp | pv (p : PV) | own (c : Cont) | exn (x : PExc)
/-- what an expression gives -/
inductive RV where
  | pv (p : PV) | own (c : Cont) | als (i : Nat)
structure CSt where
  sl : List SV
  h : List CO
inductive CRes (α : Type) where
  | ok (a : α) (s : CSt) | exc (x : PExc) (s : CSt) | stuck
abbrev CM (α : Type) := CSt → CRes α
namespace CM
def pure {α : Type} (a : α) : CM α := fun s => .ok a s
def bind {α β : Type} (m : CM α) (f : α → CM β) : CM β := fun s => match m s with
  | .ok a s' => f a s'
  | .exc x s' => .exc x s'
  | .stuck => .stuck
end CM
instance : Monad CM where
  pure := CM.pure
  bind := CM.bind
def stuck {α : Type} : CM α := fun _ => .stuck
def getS : CM CSt := fun s => .ok s s
theorem bind_def {α β : Type} (m : CM α) (f : α → CM β) (s : CSt) : (m >>= f) s = match m s with
  | .ok a s' => f a s'
  | .exc x s' => .exc x s'
  | .stuck => .stuck := rfl

/-! ### the relation -/
/-- the classes' addresses; closures -/
structure G where
  P : Program
  w : World
  K : PySem.W.Frag
  ct : Nat → Addr
  Phi : Nat → Obj → Addr → Obj → Prop
  xa : Option (Addr × Value × Option Addr)
  tP : Addr
  lq : Str
variable {g : G} {μ μ' μ1 μ2 : List Addr} {H H' H1 H2 : Hp}
mutual
inductive PVRel (g : G) (μ : List Addr) (H : Hp) : PV → V → Prop
  | non : PVRel g μ H .non .non
  | bl (b : Bool) : PVRel g μ H (.bl b) (.bl b)
  | int (i : Int) : PVRel g μ H (.int i) (.int i)
  | str (x : Str) : PVRel g μ H (.str x) (.str x)
  | tup {a : Addr} {vs : List V} {xs : List PV} : SqT g.K H a vs → PVsRel g μ H xs vs → PVRel g μ H (.tup xs) (.ref a)
  | lst {a : Addr} {o : Obj} {vs : List V} {xs : List PV} : H a = some (.frz o (.lst vs)) → PVsRel g μ H xs vs → PVRel g μ H (.lst xs) (.ref a)
  | loc {l : Nat} {a : Addr} : μ[l]? = some a → PVRel g μ H (.loc l) (.ref a)
  | clo {i : Nat} {caps : List PV} {f c : Addr} {o oc : Obj} : g.Phi i o c oc → H f = some (.frz o (.own f)) → H c = some (.frz oc (.own c)) → (∀ (fd : FuncData) (T : Addr), o.data = .func fd → fd.defaults = .ref T → H T = some (.tup [.int 0])) → PVRel g μ H (.clo i caps) (.ref f)
inductive PVsRel (g : G) (μ : List Addr) (H : Hp) : List PV → List V → Prop
  | nil : PVsRel g μ H [] []
  | cons {p : PV} {ps : List PV} {v : V} {vs : List V} : PVRel g μ H p v → PVsRel g μ H ps vs → PVsRel g μ H (p :: ps) (v :: vs)
end
/-- things that never change stay -/
structure Stays (μ : List Addr) (H : Hp) (μ' : List Addr) (H' : Hp) : Prop where
  tup : ∀ a xs, H a = some (.tup xs) → H' a = some (.tup xs)
  frz : ∀ a o u, H a = some (.frz o u) → H' a = some (.frz o u)
  xd : ∀ a fs, H a = some (.xd fs) → H' a = some (.xd fs)
  ext : ∀ (l : Nat) (a : Addr), μ[l]? = some a → μ'[l]? = some a
theorem Stays.refl : Stays μ H μ H := ⟨fun _ _ h => h, fun _ _ _ h => h, fun _ _ h => h, fun _ _ h => h⟩
theorem Stays.trans {μ1 μ2 μ3 : List Addr} {H1 H2 H3 : Hp} (a : Stays μ1 H1 μ2 H2) (b : Stays μ2 H2 μ3 H3) : Stays μ1 H1 μ3 H3 :=
  ⟨fun c x h => b.tup c x (a.tup c x h), fun c o u h => b.frz c o u (a.frz c o u h), fun c o h => b.xd c o (a.xd c o h), fun l c h => b.ext l c (a.ext l c h)⟩
theorem Stays.sqT {K : PySem.W.Frag} {a : Addr} {vs : List V} (s : Stays μ H μ' H') (h : SqT K H a vs) : SqT K H' a vs := by
  rcases h with (h | ⟨o, h⟩) | h
  · exact .inl (.inl (s.tup _ _ h))
  · exact .inl (.inr ⟨o, s.frz _ _ _ h⟩)
  · exact .inr h
mutual
theorem PVRel.stays (s : Stays μ H μ' H') : ∀ {p : PV} {v : V}, PVRel g μ H p v → PVRel g μ' H' p v
  | _, _, .non => .non
  | _, _, .bl b => .bl b
  | _, _, .int i => .int i
  | _, _, .str x => .str x
  | _, _, .tup h r => .tup (s.sqT h) (PVsRel.stays s r)
  | _, _, .lst h r => .lst (s.frz _ _ _ h) (PVsRel.stays s r)
  | _, _, .loc h => .loc (s.ext _ _ h)
  | _, _, .clo h r q d => .clo h (s.frz _ _ _ r) (s.frz _ _ _ q) fun fd T e1 e2 => s.tup _ _ (d fd T e1 e2)
theorem PVsRel.stays (s : Stays μ H μ' H') : ∀ {p : List PV} {v : List V}, PVsRel g μ H p v → PVsRel g μ' H' p v
  | _, _, .nil => .nil
  | _, _, .cons h r => .cons (PVRel.stays s h) (PVsRel.stays s r)
end
theorem PVsRel.length : ∀ {ps : List PV} {vs : List V}, PVsRel g μ H ps vs → ps.length = vs.length
  | _, _, .nil => rfl
  | _, _, .cons _ r => by simp [PVsRel.length r]
theorem PVsRel.get : ∀ {ps : List PV} {vs : List V} {i : Nat} {p : PV}, PVsRel g μ H ps vs → ps[i]? = some p → ∃ v, vs[i]? = some v ∧ PVRel g μ H p v
  | _, _, _, _, .nil, h => by simp at h
  | _, _, 0, _, .cons r _, h => by simp at h; subst h; exact ⟨_, rfl, r⟩
  | _, _, i + 1, _, .cons _ t, h => by
    obtain ⟨v, h1, h2⟩ := PVsRel.get (i := i) t (by simpa using h)
    exact ⟨v, by simpa using h1, h2⟩
theorem PVsRel.getV {ps : List PV} {vs : List V} {i : Nat} {v : V} (r : PVsRel g μ H ps vs) (h : vs[i]? = some v) : ∃ p, ps[i]? = some p ∧ PVRel g μ H p v := by
  have hl : i < ps.length := by rw [r.length]; exact (List.getElem?_eq_some_iff.mp h).1
  obtain ⟨w, h1, h2⟩ := r.get (List.getElem?_eq_getElem hl)
  rw [h] at h1; cases h1
  exact ⟨_, List.getElem?_eq_getElem hl, h2⟩
theorem PVsRel.append : ∀ {ps qs : List PV} {vs ws : List V}, PVsRel g μ H ps vs → PVsRel g μ H qs ws → PVsRel g μ H (ps ++ qs) (vs ++ ws)
  | _, _, _, _, .nil, s => s
  | _, _, _, _, .cons r t, s => .cons r (PVsRel.append t s)
theorem PVsRel.take : ∀ {ps : List PV} {vs : List V} (n : Nat), PVsRel g μ H ps vs → PVsRel g μ H (ps.take n) (vs.take n)
  | _, _, 0, _ => .nil
  | _, _, _ + 1, .nil => .nil
  | _, _, n + 1, .cons r t => .cons r (PVsRel.take n t)
theorem PVsRel.drop : ∀ {ps : List PV} {vs : List V} (n : Nat), PVsRel g μ H ps vs → PVsRel g μ H (ps.drop n) (vs.drop n)
  | _, _, 0, r => r
  | _, _, _ + 1, .nil => .nil
  | _, _, n + 1, .cons _ t => PVsRel.drop n t
theorem PVsRel.set {p : PV} {v : V} (r : PVRel g μ H p v) : ∀ {ps : List PV} {vs : List V} (i : Nat), PVsRel g μ H ps vs → PVsRel g μ H (ps.set i p) (vs.set i v)
  | _, _, _, .nil => .nil
  | _, _, 0, .cons _ t => .cons r t
  | _, _, i + 1, .cons q t => .cons q (PVsRel.set r i t)

/-- an object of HandS that may be changed -/
inductive MutK : HO → Prop
  | lst (xs : List V) : MutK (.lst xs)
  | dK (kvs : List (Key × V)) : MutK (.dK kvs)
  | ext (φ : Heap → Prop) : MutK (.ext φ)
  | ins (C dx : Addr) (fs : List (Str × V)) : MutK (.ins C dx fs)
  | tbl (ps : Array Value) : MutK (.tbl ps)

/-! ### dict keys -/
def leafK : PV → Option Key
  | .int i => some (.inl i)
  | .str x => some (.inr x)
  | _ => none
mutual
def nk : PV → Option NestedKey
  | .non => some .none
  | .int i => some (.num i)
  | .str x => some (.text x)
  | .tup xs => (nks xs).map .tup
  | _ => none
def nks : List PV → Option (List NestedKey)
  | [] => some []
  | p :: ps => match nk p, nks ps with
    | some k, some ks => some (k :: ks)
    | _, _ => none
end
/-- a key that is a tuple, of depth eight at the most -/
def tupK (p : PV) : Option NestedKey := match p with
  | .tup _ => match nk p with
    | some k => if k.depth ≤ 8 then some k else none
    | none => none
  | _ => none
/-- an object told by itself -/
def rawO (a : Addr) (o : Obj) : HO := .ext fun h => h.get? a = some o
def KVRel (g : G) (μ : List Addr) (H : Hp) : List (PV × PV) → List (Key × V) → Prop :=
  Paired fun (p : PV × PV) (q : Key × V) => leafK p.1 = some q.1 ∧ PVRel g μ H p.2 q.2
def TRel (g : G) (μ : List Addr) (H : Hp) (kvs : List (PV × PV)) (o : Obj) : Prop :=
  kvs.length ≤ sizeLine ∧ ∃ xs : List (NestedKey × Addr × Value), o.ExactDict ∧ (∃ es ep, o.data = .dict es ep ∧ es.toList = xs.map (entryOfKey (nestedKind g.P g.w))) ∧ (xs.map (·.1)).Nodup ∧
    Paired (fun (p : PV × PV) (x : NestedKey × Addr × Value) => tupK p.1 = some x.1 ∧ PVRel g μ H p.1 (.ref x.2.1) ∧ ∃ v, RelV v x.2.2 ∧ PVRel g μ H p.2 v) kvs xs
def ContRel (g : G) (μ : List Addr) (H : Hp) (c : Cont) (a : Addr) : Prop := match c with
  | .list xs => ∃ vs, H a = some (.lst vs) ∧ PVsRel g μ H xs vs
  | .dict kvs => (∃ kv, H a = some (.dK kv) ∧ KVRel g μ H kvs kv) ∨ ∃ o, H a = some (rawO a o) ∧ (a == sysModules) = false ∧ TRel g μ H kvs o
def FldRel (g : G) (μ : List Addr) (H : Hp) : List (Str × PV) → List (Str × V) → Prop :=
  Paired fun (p : Str × PV) (q : Str × V) => p.1 = q.1 ∧ PVRel g μ H p.2 q.2
def ObjRel (g : G) (μ : List Addr) (H : Hp) (o : CO) (a : Addr) : Prop := match o with
  | .cont c => ContRel g μ H c a
  | .inst cls fs => ∃ dx fv, H a = some (.ins (g.ct cls) dx fv) ∧ FldRel g μ H fs fv
  | .tbl => a = g.tP ∧ ∃ ps : Array Value, H a = some (.tbl ps) ∧ TriplesOk ps.toList ∧ ∀ (pos : Pos) (cv : Value), codeAmong pos ps.toList = some cv → ∃ (c : Addr) (oc : Obj) (vs : Array Value) (t : Tok), cv = .ref c ∧ H c = some (.frz oc (.own c)) ∧ oc.data = .fields vs ∧ vs[1]? = some (.str g.lq t)
theorem Paired.imp {α β : Type} {F F' : α → β → Prop} : ∀ {l₁ : List α} {l₂ : List β}, Paired F l₁ l₂ → (∀ a b, F a b → F' a b) → Paired F' l₁ l₂
  | _, _, .nil, _ => .nil
  | _, _, .cons r t, f => .cons (f _ _ r) (Paired.imp t f)
theorem TRel.stays {kvs : List (PV × PV)} {o : Obj} (s : Stays μ H μ' H') (h : TRel g μ H kvs o) : TRel g μ' H' kvs o := by
  obtain ⟨z, xs, h1, h2, h3, h4⟩ := h
  exact ⟨z, xs, h1, h2, h3, Paired.imp h4 fun _ _ q => ⟨q.1, q.2.1.stays s, let ⟨v, a, b⟩ := q.2.2; ⟨v, a, b.stays s⟩⟩⟩
theorem ContRel.stays {c : Cont} {a : Addr} (s : Stays μ H μ' H') (k : ∀ o, H a = some o → H' a = some o) (h : ContRel g μ H c a) : ContRel g μ' H' c a := by
  cases c with
  | list xs =>
    obtain ⟨vs, h1, h2⟩ := h
    exact ⟨vs, k _ h1, h2.stays s⟩
  | dict kvs =>
    rcases h with ⟨kv, h1, h2⟩ | ⟨o, h1, h2, h3⟩
    · exact .inl ⟨kv, k _ h1, Paired.imp h2 fun _ _ q => ⟨q.1, q.2.stays s⟩⟩
    · exact .inr ⟨o, k _ h1, h2, h3.stays s⟩
theorem ObjRel.stays {c : CO} {a : Addr} (s : Stays μ H μ' H') (k : ∀ o, H a = some o → H' a = some o) (h : ObjRel g μ H c a) : ObjRel g μ' H' c a := by
  cases c with
  | cont c => exact ContRel.stays s k h
  | inst cls fs =>
    obtain ⟨dx, fv, h1, h2⟩ := h
    exact ⟨dx, fv, k _ h1, Paired.imp h2 fun _ _ q => ⟨q.1, q.2.stays s⟩⟩
  | tbl =>
    obtain ⟨e, ps, h1, h2, h3⟩ := h
    exact ⟨e, ps, k _ h1, h2, fun pos cv hc => let ⟨c, oc, vs, t, e1, e2, e3, e4⟩ := h3 pos cv hc; ⟨c, oc, vs, t, e1, s.frz _ _ _ e2, e3, e4⟩⟩
theorem ContRel.mut {c : Cont} {a : Addr} (h : ContRel g μ H c a) : ∃ o, H a = some o ∧ MutK o := by
  cases c with
  | list xs =>
    obtain ⟨vs, h1, _⟩ := h
    exact ⟨_, h1, .lst _⟩
  | dict kvs =>
    rcases h with ⟨kv, h1, _⟩ | ⟨o, h1, _⟩
    · exact ⟨_, h1, .dK _⟩
    · exact ⟨_, h1, .ext _⟩
theorem ObjRel.mut {c : CO} {a : Addr} (h : ObjRel g μ H c a) : ∃ o, H a = some o ∧ MutK o := by
  cases c with
  | cont c => exact ContRel.mut h
  | inst cls fs =>
    obtain ⟨dx, fv, h1, _⟩ := h
    exact ⟨_, h1, .ins _ _ _⟩
  | tbl =>
    obtain ⟨_, ps, h1, _⟩ := h
    exact ⟨_, h1, .tbl _⟩
theorem ContRel.canW {c : Cont} {a : Addr} (h : ContRel g μ H c a) : L2.Mut (H a) := by
  cases c with
  | list xs =>
    obtain ⟨vs, h1, _⟩ := h
    rw [h1]; exact True.intro
  | dict kvs =>
    rcases h with ⟨kv, h1, _⟩ | ⟨o, h1, _⟩
    · rw [h1]; exact True.intro
    · rw [h1]; exact True.intro

/-! ### exceptions -/
def ExcRel (g : G) (μ : List Addr) (H : Hp) (x : PExc) (cls : Value) (d : Option Addr) : Prop :=
  cls = .ref (g.ct x.cls) ∧ match x.arg with
    | none => d = none
    | some (f, p) => ∃ dx v, d = some dx ∧ H dx = some (.xd [(f, v)]) ∧ PVRel g μ H p v
theorem ExcRel.stays {x : PExc} {cls : Value} {d : Option Addr} (s : Stays μ H μ' H') (h : ExcRel g μ H x cls d) : ExcRel g μ' H' x cls d := by
  obtain ⟨c, arg⟩ := x
  cases arg with
  | none => exact ⟨h.1, h.2⟩
  | some z =>
    obtain ⟨dx, v, e1, e2, e3⟩ := h.2
    exact ⟨h.1, dx, v, e1, s.xd _ _ e2, e3.stays s⟩
/-! ### heap and slots -/
structure HRel (g : G) (μ : List Addr) (h : List CO) (H : Hp) : Prop where
  len : μ.length = h.length
  nd : μ.Nodup
  obj : ∀ (l : Nat) (o : CO) (a : Addr), h[l]? = some o → μ[l]? = some a → ObjRel g μ H o a
theorem HRel.mut (r : HRel g μ h H) {a : Addr} (ha : a ∈ μ) : ∃ o, H a = some o ∧ MutK o := by
  obtain ⟨l, hl, e⟩ := List.getElem_of_mem ha
  have h2 : μ[l]? = some a := by rw [List.getElem?_eq_getElem hl, e]
  have h3 : l < h.length := by rw [← r.len]; exact hl
  exact (r.obj l _ a (List.getElem?_eq_getElem h3) h2).mut
def SVRel (g : G) (μ : List Addr) (H : Hp) (s : SV) (v : Option V) : Prop := match s with
  | .emp => True
  | .pv p => ∃ x, v = some x ∧ PVRel g μ H p x
  | .own c => ∃ a, v = some (.ref a) ∧ ContRel g μ H c a ∧ a ∉ μ
  | .exn x => ∃ a cls d, g.xa = some (a, cls, d) ∧ v = some (.ref a) ∧ ExcRel g μ H x cls d
structure Rel (g : G) (μ : List Addr) (cs : CSt) (σ : St) (H : Hp) : Prop where
  hp : HRel g μ cs.h H
  len : cs.sl.length = σ.length
  sl : ∀ (i : Nat) (s : SV) (v : Option V), cs.sl[i]? = some s → σ[i]? = some v → SVRel g μ H s v
  ap : ∀ (i j : Nat) (c d : Cont) (a : Addr), cs.sl[i]? = some (.own c) → cs.sl[j]? = some (.own d) → σ[i]? = some (some (.ref a)) → σ[j]? = some (some (.ref a)) → i = j
/-- what may be changed -/
def Md (μ : List Addr) (sl : List SV) (σ : St) (a : Addr) : Prop := a ∈ μ ∨ ∃ (i : Nat) (c : Cont), sl[i]? = some (.own c) ∧ σ[i]? = some (some (.ref a))
structure Keep (M M' : Addr → Prop) (H H' : Hp) : Prop where
  k1 : ∀ a o, H a = some o → ¬ M a → H' a = some o
  k2 : ∀ a, M' a → M a ∨ H a = none
theorem Keep.refl {M : Addr → Prop} : Keep M M H H := ⟨fun _ _ h _ => h, fun _ h => .inl h⟩
theorem Keep.trans {M1 M2 M3 : Addr → Prop} {H1 H2 H3 : Hp} (a : Keep M1 M2 H1 H2) (b : Keep M2 M3 H2 H3) : Keep M1 M3 H1 H3 := by
  refine ⟨fun c o h n => b.k1 c o (a.k1 c o h n) fun h2 => ?_, fun c h => ?_⟩
  · rcases a.k2 c h2 with z | z
    · exact n z
    · rw [h] at z; cases z
  · rcases b.k2 c h with z | z
    · exact a.k2 c z
    · by_cases hm : M1 c
      · exact .inl hm
      · cases q : H1 c with
        | none => exact .inr rfl
        | some o => rw [a.k1 c o q hm] at z; cases z
theorem Rel.mut {cs : CSt} {σ : St} (r : Rel g μ cs σ H) {a : Addr} (ha : Md μ cs.sl σ a) : ∃ o, H a = some o ∧ MutK o := by
  rcases ha with ha | ⟨i, c, h1, h2⟩
  · exact r.hp.mut ha
  · obtain ⟨b, e, q, _⟩ := r.sl i _ _ h1 h2
    cases e
    exact q.mut
theorem Rel.stays {cs : CSt} {σ : St} {M' : Addr → Prop} (r : Rel g μ cs σ H) (k : Keep (Md μ cs.sl σ) M' H H') (e : ∀ (l : Nat) (a : Addr), μ[l]? = some a → μ'[l]? = some a) : Stays μ H μ' H' := by
  refine ⟨fun a xs h => k.k1 a _ h fun m => ?_, fun a o u h => k.k1 a _ h fun m => ?_, fun a o h => k.k1 a _ h fun m => ?_, e⟩
  · obtain ⟨o, q, mk⟩ := r.mut m
    rw [h] at q; cases q; cases mk
  · obtain ⟨o, q, mk⟩ := r.mut m
    rw [h] at q; cases q; cases mk
  · obtain ⟨o, q, mk⟩ := r.mut m
    rw [h] at q; cases q; cases mk
/-- a value of an expression; M, H: at the expression's start -/
def RVRel (g : G) (M : Addr → Prop) (H0 : Hp) (μ : List Addr) (cs : CSt) (σ : St) (H : Hp) (r : RV) (v : V) : Prop := match r with
  | .pv p => PVRel g μ H p v
  | .own c => ∃ a, v = .ref a ∧ ContRel g μ H c a ∧ ¬ Md μ cs.sl σ a ∧ (M a ∨ H0 a = none)
  | .als i => σ[i]? = some (some v)
/-! ### outcomes -/
/-- the facts behind a step from (μ, cs, H) -/
structure Fct (g : G) (M : Addr → Prop) (μ : List Addr) (H : Hp) (μ' : List Addr) (cs' : CSt) (σ : St) (H' : Hp) : Prop where
  rel : Rel g μ' cs' σ H'
  keep : Keep M (Md μ' cs'.sl σ) H H'
  ext : ∀ (l : Nat) (a : Addr), μ[l]? = some a → μ'[l]? = some a
def Out (g : G) (W : WX) (M : Addr → Prop) (μ : List Addr) (H : Hp) (σ : St) {α : Type} (r : CRes α) (R : α → CSt → List Addr → Hp → Prop) : Prop := match r with
  | .ok a cs' => ∀ μ' H', Fct g M μ H μ' cs' σ H' → R a cs' μ' H'
  | .exc x cs' => ∀ μ' H' cls d, Fct g M μ H μ' cs' σ H' → ExcRel g μ' H' x cls d → W cls d σ H'
  | .stuck => False
variable {W : WX} {M : Addr → Prop} {σ : St} {α β : Type}
theorem Fct.refl {cs : CSt} (r : Rel g μ cs σ H) : Fct g (Md μ cs.sl σ) μ H μ cs σ H := ⟨r, .refl, fun _ _ h => h⟩
theorem Fct.trans {cs1 cs2 : CSt} (a : Fct g M μ H μ1 cs1 σ H1) (b : Fct g (Md μ1 cs1.sl σ) μ1 H1 μ2 cs2 σ H2) : Fct g M μ H μ2 cs2 σ H2 :=
  ⟨b.rel, a.keep.trans b.keep, fun l c h => b.ext l c (a.ext l c h)⟩
theorem Out.mono {r : CRes α} {R R' : α → CSt → List Addr → Hp → Prop} (h : Out g W M μ H σ r R) (f : ∀ a cs' μ' H', r = .ok a cs' → Fct g M μ H μ' cs' σ H' → R a cs' μ' H' → R' a cs' μ' H') : Out g W M μ H σ r R' := by
  cases r with
  | ok a cs' => exact fun μ' H' k => f a cs' μ' H' rfl k (h μ' H' k)
  | exc x cs' => exact h
  | stuck => exact h
/-- two steps: the second with the start of the first -/
theorem Out.bind {m : CM α} {f : α → CM β} {cs : CSt} {R : β → CSt → List Addr → Hp → Prop} (h : Out g W M μ H σ ((m >>= f) cs) R) :
    Out g W M μ H σ (m cs) fun a cs1 μ1 H1 => Out g W M μ H σ (f a cs1) R := by
  rw [bind_def] at h
  cases e : m cs with
  | ok a cs' => rw [e] at h; exact fun μ' H' k => h
  | exc x cs' => rw [e] at h; exact h
  | stuck => rw [e] at h; exact h
/-- the second step from its own start -/
theorem Out.rebase {r : CRes α} {cs1 : CSt} {R : α → CSt → List Addr → Hp → Prop} (h : Out g W M μ H σ r R) (k : Fct g M μ H μ1 cs1 σ H1) : Out g W (Md μ1 cs1.sl σ) μ1 H1 σ r R := by
  cases r with
  | ok a cs' => exact fun μ' H' q => h μ' H' (k.trans q)
  | exc x cs' => exact fun μ' H' cls d q => h μ' H' cls d (k.trans q)
  | stuck => exact h
/-- an expression's reading -/
def tOf (g : G) (W : WX) (m : CM RV) : TE := fun σ H Q => ∃ μ cs, Rel g μ cs σ H ∧
  Out g W (Md μ cs.sl σ) μ H σ (m cs) fun rv cs' μ' H' => ∀ v, RVRel g (Md μ cs.sl σ) H μ' cs' σ H' rv v → Q v H'
def tOfB (g : G) (W : WX) (m : CM Bool) : TT := fun σ H Q => ∃ μ cs, Rel g μ cs σ H ∧
  Out g W (Md μ cs.sl σ) μ H σ (m cs) fun b cs' μ' H' => Q b H'
/-- arguments: values all -/
def tOfA (g : G) (W : WX) (m : CM (List PV)) : TA := fun σ H Q => ∃ μ cs, Rel g μ cs σ H ∧
  Out g W (Md μ cs.sl σ) μ H σ (m cs) fun ps cs' μ' H' => ∀ vs, PVsRel g μ' H' ps vs → Q vs H'
theorem PE.mono {X : Cx} {e : Expr} {t t' : TE} (h : PE X e t) (f : ∀ σ H Q, t' σ H Q → t σ H Q) : PE X e t' := ⟨fun pins s σ H Q I q => h.run pins s σ H Q I (f σ H Q q)⟩
theorem PT.mono {X : Cx} {e : Expr} {t t' : TT} (h : PT X e t) (f : ∀ σ H Q, t' σ H Q → t σ H Q) : PT X e t' := ⟨fun pins s σ H Q I q => h.run pins s σ H Q I (f σ H Q q)⟩
theorem PW.mono {X : Cx} {e : Expr} {t t' : TT} (h : PW X e t) (f : ∀ σ H Q, t' σ H Q → t σ H Q) : PW X e t' := ⟨fun wh pins s σ H Q I q => h.run wh pins s σ H Q I (f σ H Q q)⟩
theorem PA.mono {X : Cx} {e : List Expr} {t t' : TA} (h : PA X e t) (f : ∀ σ H Q, t' σ H Q → t σ H Q) : PA X e t' := ⟨fun pos pins s σ H Q I q => h.run pos pins s σ H Q I (f σ H Q q)⟩
/-- e gives m -/
abbrev SE (X : Cx) (g : G) (W : WX) (e : Expr) (m : CM RV) : Prop := PE X e (tOf g W m)
abbrev SB (X : Cx) (g : G) (W : WX) (e : Expr) (m : CM Bool) : Prop := PT X e (tOfB g W m)
abbrev SBW (X : Cx) (g : G) (W : WX) (e : Expr) (m : CM Bool) : Prop := PW X e (tOfB g W m)
abbrev SA (X : Cx) (g : G) (W : WX) (es : List Expr) (m : CM (List PV)) : Prop := PA X es (tOfA g W m)
end CL

/-! CL2: combining steps; names, constants, displays, operators. -/
namespace CL
open PySem L2
variable {g : G} {W : WX} {M : Addr → Prop} {μ μ' μ1 μ2 : List Addr} {H H' H0 H1 H2 : Hp} {σ : St} {cs cs' cs1 cs2 : CSt} {X : Cx}

/-! ### facts -/
theorem Fct.stays (k : Fct g (Md μ cs.sl σ) μ H μ' cs' σ H') (r : Rel g μ cs σ H) : Stays μ H μ' H' := r.stays k.keep k.ext
theorem md_some (r : Rel g μ cs σ H) {a : Addr} (h : Md μ cs.sl σ a) : H a ≠ none := fun e => by
  obtain ⟨o, q, _⟩ := r.mut h
  rw [q] at e; cases e
theorem avail (k : Keep M M' H0 H) {a : Addr} (h : H a = none) : M a ∨ H0 a = none := by
  by_cases hm : M a
  · exact .inl hm
  · cases q : H0 a with
    | none => exact .inr rfl
    | some o => rw [k.k1 a o q hm] at h; cases h
/-- a value goes along -/
theorem RVRel.step {r : RV} {v : V} (h : RVRel g M H0 μ1 cs1 σ H1 r v) (r1 : Rel g μ1 cs1 σ H1) (k : Fct g (Md μ1 cs1.sl σ) μ1 H1 μ2 cs2 σ H2) : RVRel g M H0 μ2 cs2 σ H2 r v := by
  have st := k.stays r1
  cases r with
  | pv p => exact PVRel.stays st h
  | own c =>
    obtain ⟨a, e, q, nm, av⟩ := h
    refine ⟨a, e, q.stays st fun o ho => k.keep.k1 a o ho nm, fun hm => ?_, av⟩
    rcases k.keep.k2 a hm with z | z
    · exact nm z
    · obtain ⟨o, q1, _⟩ := q.mut
      rw [q1] at z; cases z
  | als i => exact h
/-- .. to an elder start -/
theorem RVRel.base {M' : Addr → Prop} {r : RV} {v : V} (h : RVRel g M' H1 μ2 cs2 σ H2 r v) (k : Keep M M' H0 H1) : RVRel g M H0 μ2 cs2 σ H2 r v := by
  cases r with
  | pv p => exact h
  | own c =>
    obtain ⟨a, e, q, nm, av⟩ := h
    refine ⟨a, e, q, nm, ?_⟩
    rcases av with z | z
    · exact k.k2 a z
    · exact avail k z
  | als i => exact h
/-- a new thing that nobody changes -/
theorem Rel.fresh (r : Rel g μ cs σ H) {p : Addr} {o : HO} (hp : H p = none) : Rel g μ cs σ (upd H p o) := by
  have k : ∀ a u, H a = some u → upd H p o a = some u := fun a u h => by rw [upd_ne (ne_of_none h hp)]; exact h
  have st : Stays μ H μ (upd H p o) := ⟨fun a xs h => k a _ h, fun a o u h => k a _ h, fun a o h => k a _ h, fun _ _ h => h⟩
  refine ⟨⟨r.hp.len, r.hp.nd, fun l u a h1 h2 => (r.hp.obj l u a h1 h2).stays st fun u => k a u⟩, r.len, fun i s v h1 h2 => ?_, r.ap⟩
  have q := r.sl i s v h1 h2
  cases s with
  | emp => trivial
  | exn x => obtain ⟨a, cl, d, z1, z2, z3⟩ := q; exact ⟨a, cl, d, z1, z2, z3.stays st⟩
  | pv p => obtain ⟨x, e, q⟩ := q; exact ⟨x, e, q.stays st⟩
  | own c => obtain ⟨a, e, q, n⟩ := q; exact ⟨a, e, q.stays st fun u => k a u, n⟩
theorem Fct.fresh (k : Fct g M μ H μ' cs' σ H') {p : Addr} {o : HO} (hp : H' p = none) : Fct g M μ H μ' cs' σ (upd H' p o) :=
  ⟨k.rel.fresh hp, ⟨fun a u h n => by
    have q := k.keep.k1 a u h n
    rw [upd_ne (ne_of_none q hp)]; exact q, k.keep.k2⟩, k.ext⟩
theorem stays_fresh {p : Addr} {o : HO} (hp : H p = none) : Stays μ H μ (upd H p o) :=
  ⟨fun a xs h => by rw [upd_ne (ne_of_none h hp)]; exact h, fun a u x h => by rw [upd_ne (ne_of_none h hp)]; exact h, fun a u h => by rw [upd_ne (ne_of_none h hp)]; exact h, fun _ _ h => h⟩
/-- a new container as a value -/
theorem RVRel.new (k : Fct g M μ H μ' cs' σ H') {p : Addr} {o : HO} {c : Cont} (hp : H' p = none) (q : ContRel g μ' (upd H' p o) c p) : RVRel g M H μ' cs' σ (upd H' p o) (.own c) (.ref p) :=
  ⟨p, rfl, q, fun hm => md_some k.rel hm hp, avail k.keep hp⟩

/-! ### one and two parts -/
/-- a step of values: what the hand layer's r asks -/
def Pr1 (g : G) (r : V → Hp → VK → Prop) (f : RV → CM RV) : Prop := ∀ (W : WX) (M : Addr → Prop) (μ : List Addr) (H : Hp) (σ : St) (cs2 : CSt) (μ2 : List Addr) (H2 : Hp) (x : RV) (v : V) (Q : VK),
  Fct g M μ H μ2 cs2 σ H2 → RVRel g M H μ2 cs2 σ H2 x v → Out g W M μ H σ (f x cs2) (fun rv cs' μ' H' => ∀ v, RVRel g M H μ' cs' σ H' rv v → Q v H') → r v H2 Q
def Pr2 (g : G) (r : R2) (f : RV → RV → CM RV) : Prop := ∀ (W : WX) (M : Addr → Prop) (μ : List Addr) (H : Hp) (σ : St) (cs2 : CSt) (μ2 : List Addr) (H2 : Hp) (x y : RV) (v u : V) (Q : VK),
  Fct g M μ H μ2 cs2 σ H2 → RVRel g M H μ2 cs2 σ H2 x v → RVRel g M H μ2 cs2 σ H2 y u → Out g W M μ H σ (f x y cs2) (fun rv cs' μ' H' => ∀ v, RVRel g M H μ' cs' σ H' rv v → Q v H') → r v u H2 Q
theorem tOf1 {r : V → Hp → VK → Prop} {f : RV → CM RV} {ma : CM RV} (p : Pr1 g r f) {Q : VK} (h : tOf g W (ma >>= f) σ H Q) : tOf g W ma σ H fun v H1 => r v H1 Q := by
  obtain ⟨μ, cs, rel, o⟩ := h
  refine ⟨μ, cs, rel, (Out.bind o).mono fun x cs1 μ1 H1 _ k1 h1 v hv => p W _ μ H σ cs1 μ1 H1 x v Q k1 hv h1⟩
theorem tOf2 {r : R2} {f : RV → RV → CM RV} {ma mb : CM RV} (p : Pr2 g r f) {Q : VK} (h : tOf g W (ma >>= fun x => mb >>= fun y => f x y) σ H Q) :
    tOf g W ma σ H fun v H1 => tOf g W mb σ H1 fun u H2 => r v u H2 Q := by
  obtain ⟨μ, cs, rel, o⟩ := h
  refine ⟨μ, cs, rel, (Out.bind o).mono fun x cs1 μ1 H1 _ k1 h1 v hv => ⟨μ1, cs1, k1.rel, ((Out.bind h1).rebase k1).mono fun y cs2 μ2 H2 _ k2 h2 u hu => ?_⟩⟩
  exact p W _ μ H σ cs2 μ2 H2 x y v u Q (k1.trans k2) (hv.step k1.rel k2) (hu.base k1.keep) h2
def e1 (f : RV → CM RV) (a : CM RV) : CM RV := do
  let x ← a
  f x
def e2 (f : RV → RV → CM RV) (a b : CM RV) : CM RV := do
  let x ← a
  let y ← b
  f x y
theorem se_op {op : Operator} {r : R2} {f : RV → RV → CM RV} {a b : Expr} {ma mb : CM RV} {pos : Pos} (ho : OpR X (binaryOp op) r) (p : Pr2 g r f) (ha : SE X g W a ma) (hb : SE X g W b mb) : SE X g W (.BinOp a op b pos) (e2 f ma mb) :=
  PE.mono (pe_op ho ha hb) fun _ _ _ h => tOf2 p h
theorem se_cmp {op : CmpOp} {r : R2} {f : RV → RV → CM RV} {a b : Expr} {ma mb : CM RV} {pos : Pos} (ho : OpR X (compareOp op) r) (p : Pr2 g r f) (ha : SE X g W a ma) (hb : SE X g W b mb) (hm : behindInMarks op b = false := by rfl) :
    SE X g W (.Compare a [op] [b] pos) (e2 f ma mb) :=
  PE.mono (pe_cmpR ho ha hb hm) fun _ _ _ h => tOf2 p h
theorem se_un {op : UnaryOp} {r : V → Hp → VK → Prop} {f : RV → CM RV} {a : Expr} {ma : CM RV} {pos : Pos} (ho : UnR X (unaryOp op) r) (p : Pr1 g r f) (ha : SE X g W a ma) : SE X g W (.UnaryOp op a pos) (e1 f ma) :=
  PE.mono (pe_un ho ha) fun _ _ _ h => tOf1 p h
theorem se_ix {r : R2} {f : RV → RV → CM RV} {a b : Expr} {ma mb : CM RV} {pos : Pos} (ho : IxR X r) (p : Pr2 g r f) (ha : SE X g W a ma) (hb : SE X g W b mb) (hp : PlainIx b := by exact fun _ _ => rfl) : SE X g W (.Subscript a b pos) (e2 f ma mb) :=
  PE.mono (pe_ix ho ha hb hp) fun _ _ _ h => tOf2 p h
/-- two rules for one operator -/
theorem opR_or {f : Value → Value → Sem Value} {r r' : R2} (h : OpR X f r) (h' : OpR X f r') : OpR X f fun x y H Q => r x y H Q ∨ r' x y H Q := fun pins s σ H x y v u Q I rx ry q => by
  rcases q with q | q
  · exact h pins s σ H x y v u Q I rx ry q
  · exact h' pins s σ H x y v u Q I rx ry q
theorem pr2_or {r r' : R2} {f f' : RV → RV → CM RV} (c : RV → RV → CSt → Bool) (h : Pr2 g r f) (h' : Pr2 g r' f') :
    Pr2 g (fun x y H Q => r x y H Q ∨ r' x y H Q) (fun x y cs => if c x y cs then f x y cs else f' x y cs) := fun W M μ H σ cs2 μ2 H2 x y v u Q k hx hy o => by
  by_cases e : c x y cs2 = true
  · simp only [e, if_true] at o
    exact .inl (h W M μ H σ cs2 μ2 H2 x y v u Q k hx hy o)
  · have e' : c x y cs2 = false := by simpa using e
    simp only [e', Bool.false_eq_true, if_false] at o
    exact .inr (h' W M μ H σ cs2 μ2 H2 x y v u Q k hx hy o)

/-! ### names and constants -/
def kst (p : PV) : CM RV := fun cs => .ok (.pv p) cs
def rdVar (i : Nat) : CM RV := fun cs => match cs.sl[i]? with
  | some (.pv p) => .ok (.pv p) cs
  | some (.own _) => .ok (.als i) cs
  | _ => .stuck
theorem tOf_here {m : CM RV} {rv : RV} {v : V} {Q : VK} (h : tOf g W m σ H Q) (hm : ∀ μ cs, Rel g μ cs σ H → m cs = .ok rv cs ∧ RVRel g (Md μ cs.sl σ) H μ cs σ H rv v) : Q v H := by
  obtain ⟨μ, cs, rel, o⟩ := h
  obtain ⟨e, r⟩ := hm μ cs rel
  rw [e] at o
  exact o μ H (Fct.refl rel) v r
theorem se_int {i : Int} {j pos} : SE X g W (.Constant (.int i) j pos) (kst (.int i)) := PE.mono pe_int fun σ H Q h => tOf_here h fun μ cs r => ⟨rfl, PVRel.int i⟩
theorem se_bl {i : Bool} {j pos} : SE X g W (.Constant (.bool i) j pos) (kst (.bl i)) := PE.mono pe_bl fun σ H Q h => tOf_here h fun μ cs r => ⟨rfl, PVRel.bl i⟩
theorem se_non {j pos} : SE X g W (.Constant .none j pos) (kst .non) := PE.mono pe_non fun σ H Q h => tOf_here h fun μ cs r => ⟨rfl, PVRel.non⟩
theorem se_str {i : Str} {j pos} : SE X g W (.Constant (.str i) j pos) (kst (.str i)) := PE.mono pe_str fun σ H Q h => tOf_here h fun μ cs r => ⟨rfl, PVRel.str i⟩
theorem se_var (i : Nat) {x : Str} {pos : Pos} (hN : X.N[i]? = some x := by rfl) (hv : Vis X.env.scope x := by first | exact Or.inl rfl | exact Or.inr (Or.inl rfl) | exact Or.inr (Or.inr rfl)) (hd : (x == ("__debug__" : Str)) = false := by decide)
    (hcd : (x == ("__classdict__" : Str)) = false := by decide) : SE X g W (.Name x pos) (rdVar i) := PE.mono (pe_var hN hv hd hcd) fun σ H Q h => by
  obtain ⟨μ, cs, rel, o⟩ := h
  unfold rdVar at o
  have hl := rel.len
  cases e : cs.sl[i]? with
  | none => rw [e] at o; exact o.elim
  | some s =>
    have hi : i < σ.length := by rw [← hl]; exact (List.getElem?_eq_some_iff.mp e).1
    have es : σ[i]? = some (σ[i]'hi) := List.getElem?_eq_getElem hi
    have q := rel.sl i s _ e es
    rw [e] at o
    cases s with
    | emp => exact o.elim
    | exn x => exact o.elim
    | pv p =>
      obtain ⟨v, ev, r⟩ := q
      exact ⟨v, by rw [es, ev], o μ H (Fct.refl rel) v r⟩
    | own c =>
      obtain ⟨a, ev, r⟩ := q
      exact ⟨.ref a, by rw [es, ev], o μ H (Fct.refl rel) (.ref a) (show σ[i]? = some (some (.ref a)) by rw [es, ev])⟩
/-- a module's constant that is an int or a text -/
theorem se_glob {x : Str} {p : PV} {u : Value} {pos : Pos} (hm : X.mg x = some u) (hr : (∃ (i : Int) (t : Tok), p = .int i ∧ u = .int i t) ∨ ∃ (i : Str) (t : Tok), p = .str i ∧ u = .str i t) (hg : Gl X x := by rfl) (hd : (x == ("__debug__" : Str)) = false := by decide) :
    SE X g W (.Name x pos) (kst p) := by
  rcases hr with ⟨i, t, rfl, rfl⟩ | ⟨i, t, rfl, rfl⟩
  · exact PE.mono (pe_glob (v := .int i) hg hm ⟨t, rfl⟩ hd) fun σ H Q h => tOf_here h fun μ cs r => ⟨rfl, PVRel.int i⟩
  · exact PE.mono (pe_glob (v := .str i) hg hm ⟨t, rfl⟩ hd) fun σ H Q h => tOf_here h fun μ cs r => ⟨rfl, PVRel.str i⟩

/-! ### escape: a value that may be kept anywhere -/
/-- a list is frozen (the local that held it holds the frozen one) -/
def esc (r : RV) : CM PV := fun cs => match r with
  | .pv p => .ok p cs
  | .own (.list xs) => .ok (.lst xs) cs
  | .own (.dict _) => .stuck
  | .als i => match cs.sl[i]? with
    | some (.pv p) => .ok p cs
    | some (.own c) => (match c with
      | .list xs => .ok (.lst xs) { cs with sl := cs.sl.set i (.pv (.lst xs)) }
      | .dict _ => .stuck)
    | some .emp => .stuck
    | some (.exn _) => .stuck
    | none => .stuck

/-! ### changes of the state -/
theorem updK {a b : Addr} {o u : HO} (h : b ≠ a) (hu : H b = some u) : upd H a o b = some u := by rw [upd_ne h]; exact hu
theorem stays_upd {a : Addr} {o o' : HO} (h : H a = some o) (m : MutK o) : Stays μ H μ (upd H a o') := by
  refine ⟨fun b xs e => ?_, fun b u x e => ?_, fun b x e => ?_, fun _ _ e => e⟩
  · rw [upd_ne (fun z => by subst z; rw [h] at e; cases e; cases m)]; exact e
  · rw [upd_ne (fun z => by subst z; rw [h] at e; cases e; cases m)]; exact e
  · rw [upd_ne (fun z => by subst z; rw [h] at e; cases e; cases m)]; exact e
theorem Fct.at {a : Addr} {o' : HO} (k : Fct g M μ H μ1 cs1 σ H1) (av : M a ∨ H a = none) (rel : Rel g μ2 cs2 σ (upd H1 a o')) (md : ∀ b, Md μ2 cs2.sl σ b → Md μ1 cs1.sl σ b ∨ b = a) (ext : ∀ (l : Nat) (a : Addr), μ1[l]? = some a → μ2[l]? = some a) :
    Fct g M μ H μ2 cs2 σ (upd H1 a o') := by
  refine ⟨rel, ⟨fun b u h n => ?_, fun b h => ?_⟩, fun l c h => ext l c (k.ext l c h)⟩
  · rw [upd_ne (fun z => by
      subst z
      rcases av with z | z
      · exact n z
      · rw [h] at z; cases z)]
    exact k.keep.k1 b u h n
  · rcases md b h with z | z
    · exact k.keep.k2 b z
    · rw [z]; exact av
theorem Fct.same {a : Addr} (k : Fct g M μ H μ1 cs1 σ H1) (av : M a ∨ H a = none) (rel : Rel g μ2 cs2 σ H1) (md : ∀ b, Md μ2 cs2.sl σ b → Md μ1 cs1.sl σ b ∨ b = a) (ext : ∀ (l : Nat) (a : Addr), μ1[l]? = some a → μ2[l]? = some a) :
    Fct g M μ H μ2 cs2 σ H1 := by
  refine ⟨rel, ⟨k.keep.k1, fun b h => ?_⟩, fun l c h => ext l c (k.ext l c h)⟩
  rcases md b h with z | z
  · exact k.keep.k2 b z
  · rw [z]; exact av
/-- a thing that is not ours to change is another from now on -/
theorem Rel.updOut (r : Rel g μ cs σ H) {a : Addr} {o o' : HO} (h : H a = some o) (m : MutK o) (n : ¬ Md μ cs.sl σ a) : Rel g μ cs σ (upd H a o') := by
  have st : Stays μ H μ (upd H a o') := stays_upd h m
  refine ⟨⟨r.hp.len, r.hp.nd, fun l u b h1 h2 => (r.hp.obj l u b h1 h2).stays st fun w hw => ?_⟩, r.len, fun i s v h1 h2 => ?_, r.ap⟩
  · exact updK (fun z => n (by subst z; exact .inl (List.mem_of_getElem? h2))) hw
  · have q := r.sl i s v h1 h2
    cases s with
    | emp => trivial
    | exn x => obtain ⟨a, cl, d, z1, z2, z3⟩ := q; exact ⟨a, cl, d, z1, z2, z3.stays st⟩
    | pv p => obtain ⟨x, e, q⟩ := q; exact ⟨x, e, q.stays st⟩
    | own c =>
      obtain ⟨b, e, q, nb⟩ := q
      subst e
      exact ⟨b, rfl, q.stays st fun u hu => updK (fun z => n (by subst z; exact .inr ⟨i, c, h1, h2⟩)) hu, nb⟩
theorem Md.drop {i : Nat} {s : SV} (hs : ∀ c, s ≠ .own c) {b : Addr} (h : Md μ (cs.sl.set i s) σ b) : Md μ cs.sl σ b := by
  rcases h with h | ⟨j, c, h1, h2⟩
  · exact .inl h
  · by_cases e : i = j
    · subst e
      rw [List.getElem?_set] at h1
      split at h1
      · split at h1
        · cases h1; exact absurd rfl (hs c)
        · cases h1
      · contradiction
    · rw [List.getElem?_set_ne e] at h1
      exact .inr ⟨j, c, h1, h2⟩
/-- a slot holds a value -/
theorem Rel.setPv (r : Rel g μ cs σ H) {i : Nat} {p : PV} {v : V} (e : σ[i]? = some (some v)) (q : PVRel g μ H p v) : Rel g μ { cs with sl := cs.sl.set i (.pv p) } σ H := by
  refine ⟨r.hp, by rw [List.length_set]; exact r.len, fun j s w h1 h2 => ?_, fun j k c d a h1 h2 => ?_⟩
  · by_cases z : i = j
    · subst z
      rw [List.getElem?_set] at h1
      simp only [if_true] at h1
      split at h1
      · cases h1
        rw [e] at h2; cases h2
        exact ⟨v, rfl, q⟩
      · cases h1
    · rw [List.getElem?_set_ne z] at h1
      exact r.sl j s w h1 h2
  · have nj : ∀ {j : Nat} {c : Cont}, (cs.sl.set i (.pv p))[j]? = some (.own c) → cs.sl[j]? = some (.own c) := fun {j c} h => by
      by_cases z : i = j
      · subst z
        rw [List.getElem?_set] at h
        simp only [if_true] at h
        split at h <;> cases h
      · rwa [List.getElem?_set_ne z] at h
    exact r.ap j k c d a (nj h1) (nj h2)
theorem md_pv {i : Nat} {p : PV} {c : Cont} {a : Addr} (r : Rel g μ cs σ H) (h : cs.sl[i]? = some (.own c)) (e : σ[i]? = some (some (.ref a))) : ¬ Md μ (cs.sl.set i (.pv p)) σ a := by
  rintro (q | ⟨j, d, h1, h2⟩)
  · obtain ⟨b, eb, _, nb⟩ := r.sl i _ _ h e
    cases eb
    exact nb q
  · by_cases z : i = j
    · subst z
      rw [List.getElem?_set] at h1
      simp only [if_true] at h1
      split at h1 <;> cases h1
    · rw [List.getElem?_set_ne z] at h1
      exact z (r.ap i j c d a h h1 e h2)
/-- a heap's object is written -/
theorem Rel.heapSet (r : Rel g μ cs σ H) {l : Nat} {a : Addr} {o' : CO} {ho' : HO} (hl : μ[l]? = some a) (q : ObjRel g μ (upd H a ho') o' a) : Rel g μ { cs with h := cs.h.set l o' } σ (upd H a ho') := by
  obtain ⟨o, e, m⟩ := r.hp.mut (List.mem_of_getElem? hl)
  have st : Stays μ H μ (upd H a ho') := stays_upd e m
  refine ⟨⟨by rw [List.length_set]; exact r.hp.len, r.hp.nd, fun j u b h1 h2 => ?_⟩, r.len, fun i s v h1 h2 => ?_, r.ap⟩
  · by_cases z : l = j
    · subst z
      rw [hl] at h2; cases h2
      rw [List.getElem?_set] at h1
      simp only [if_true] at h1
      split at h1
      · cases h1; exact q
      · cases h1
    · rw [List.getElem?_set_ne z] at h1
      have nb : b ≠ a := fun z2 => by
        subst z2
        have h3 : l < μ.length := (List.getElem?_eq_some_iff.mp hl).1
        exact z ((List.getElem?_inj h3 r.hp.nd).mp (hl.trans h2.symm))
      exact (r.hp.obj j u b h1 h2).stays st fun w hw => by rw [upd_ne nb]; exact hw
  · have q := r.sl i s v h1 h2
    cases s with
    | emp => trivial
    | exn x => obtain ⟨a, cl, d, z1, z2, z3⟩ := q; exact ⟨a, cl, d, z1, z2, z3.stays st⟩
    | pv p => obtain ⟨x, e, q⟩ := q; exact ⟨x, e, q.stays st⟩
    | own c =>
      obtain ⟨b, e2, q, nb⟩ := q
      exact ⟨b, e2, q.stays st fun u hu => updK (fun z => nb (by subst z; exact List.mem_of_getElem? hl)) hu, nb⟩
/-- an own container is written -/
theorem Rel.slotOwn (r : Rel g μ cs σ H) {i : Nat} {a : Addr} {c c' : Cont} {ho' : HO} (hi : cs.sl[i]? = some (.own c)) (e : σ[i]? = some (some (.ref a))) (q : ContRel g μ (upd H a ho') c' a) : Rel g μ { cs with sl := cs.sl.set i (.own c') } σ (upd H a ho') := by
  obtain ⟨b, eb, qc, na⟩ := r.sl i _ _ hi e
  cases eb
  obtain ⟨o, eo, m⟩ := qc.mut
  have st : Stays μ H μ (upd H a ho') := stays_upd eo m
  have own : ∀ {j : Nat} {d : Cont}, (cs.sl.set i (.own c'))[j]? = some (.own d) → ∃ d', cs.sl[j]? = some (.own d') := fun {j d} h => by
    by_cases z : i = j
    · subst z; exact ⟨c, hi⟩
    · rw [List.getElem?_set_ne z] at h; exact ⟨d, h⟩
  refine ⟨⟨r.hp.len, r.hp.nd, fun l u b h1 h2 => (r.hp.obj l u b h1 h2).stays st fun w hw => ?_⟩, by rw [List.length_set]; exact r.len, fun j s v h1 h2 => ?_, fun j k d d' b h1 h2 h3 h4 => ?_⟩
  · exact updK (fun z => na (by subst z; exact List.mem_of_getElem? h2)) hw
  · by_cases z : i = j
    · subst z
      rw [List.getElem?_set] at h1
      simp only [if_true] at h1
      split at h1
      · cases h1
        rw [e] at h2; cases h2
        exact ⟨a, rfl, q, na⟩
      · cases h1
    · rw [List.getElem?_set_ne z] at h1
      have q := r.sl j s v h1 h2
      cases s with
      | emp => trivial
      | exn x => obtain ⟨a, cl, d, z1, z2, z3⟩ := q; exact ⟨a, cl, d, z1, z2, z3.stays st⟩
      | pv p => obtain ⟨x, e, q⟩ := q; exact ⟨x, e, q.stays st⟩
      | own d =>
        obtain ⟨b, e2, q, nb⟩ := q
        subst e2
        exact ⟨b, rfl, q.stays st fun u hu => updK (fun z2 => z (r.ap i j c d a hi h1 e (by subst z2; exact h2))) hu, nb⟩
  · obtain ⟨d1, h1'⟩ := own h1
    obtain ⟨d2, h2'⟩ := own h2
    exact r.ap j k d1 d2 b h1' h2' h3 h4
/-- a container is shared -/
theorem Rel.push (r : Rel g μ cs σ H) {a : Addr} {c : Cont} (q : ContRel g μ H c a) (n : ¬ Md μ cs.sl σ a) : Rel g (μ ++ [a]) { cs with h := cs.h ++ [.cont c] } σ H := by
  have ext : ∀ (l : Nat) (b : Addr), μ[l]? = some b → (μ ++ [a])[l]? = some b := fun l b h => by
    rw [List.getElem?_append_left (List.getElem?_eq_some_iff.mp h).1]; exact h
  have st : Stays μ H (μ ++ [a]) H := ⟨fun _ _ h => h, fun _ _ _ h => h, fun _ _ h => h, ext⟩
  refine ⟨⟨by simp [r.hp.len], ?_, fun l u b h1 h2 => ?_⟩, r.len, fun i s v h1 h2 => ?_, r.ap⟩
  · rw [List.nodup_append]
    refine ⟨r.hp.nd, by simp, fun x hx y hy z => ?_⟩
    rw [List.mem_singleton] at hy
    exact n (.inl (by rw [← hy, ← z]; exact hx))
  · by_cases hl : l < cs.h.length
    · rw [List.getElem?_append_left hl] at h1
      rw [List.getElem?_append_left (by rw [r.hp.len]; exact hl)] at h2
      exact (r.hp.obj l u b h1 h2).stays st fun _ z => z
    · have hl2 : cs.h.length ≤ l := Nat.le_of_not_lt hl
      rw [List.getElem?_append_right hl2] at h1
      rw [List.getElem?_append_right (by rw [r.hp.len]; exact hl2)] at h2
      rw [r.hp.len] at h2
      cases hz : l - cs.h.length with
      | zero =>
        rw [hz] at h1 h2
        simp at h1 h2
        subst h1; subst h2
        exact ContRel.stays st (fun _ z => z) q
      | succ m => rw [hz] at h1; simp at h1
  · have q2 := r.sl i s v h1 h2
    cases s with
    | emp => trivial
    | exn x => obtain ⟨a, cl, d, z1, z2, z3⟩ := q2; exact ⟨a, cl, d, z1, z2, z3.stays st⟩
    | pv p => obtain ⟨x, e, q⟩ := q2; exact ⟨x, e, q.stays st⟩
    | own d =>
      obtain ⟨b, e2, q3, nb⟩ := q2
      refine ⟨b, e2, q3.stays st fun _ z => z, fun hm => ?_⟩
      rcases List.mem_append.mp hm with z | z
      · exact nb z
      · rw [List.mem_singleton] at z
        subst z
        subst e2
        exact n (.inr ⟨i, d, h1, h2⟩)
end CL

/-! CL3: escaping values, arguments, displays, what containers hold, operators. -/
namespace CL
open PySem L2
variable {g : G} {W : WX} {M : Addr → Prop} {μ μ' μ1 μ2 : List Addr} {H H' H0 H1 H2 : Hp} {σ : St} {cs cs' cs1 cs2 : CSt} {X : Cx}

/-! ### escape -/
def tOfP (g : G) (W : WX) (m : CM PV) : TE := fun σ H Q => ∃ μ cs, Rel g μ cs σ H ∧
  Out g W (Md μ cs.sl σ) μ H σ (m cs) fun p cs' μ' H' => ∀ v, PVRel g μ' H' p v → Q v H'
abbrev SPv (X : Cx) (g : G) (W : WX) (e : Expr) (m : CM PV) : Prop := PE X e (tOfP g W m)
/-- what lies in the heap may be looked at otherwise -/
theorem pe_lock {e : Expr} {t : TE} (h : PE X e t) : PE X e fun σ H Q => t σ H fun v H1 => Q v H1 ∨ ∃ a xs, H1 a = some (.lst xs) ∧ ∀ od, Q v (upd H1 a (.frz od (.lst xs))) := ⟨fun pins s σ H Q I q => by
  refine thn (h.run pins s σ H _ I q) fun u s' ⟨v, H1, I1, r, z⟩ => ?_
  rcases z with z | ⟨a, xs, e, z⟩
  · exact ⟨v, H1, I1, r, z⟩
  · obtain ⟨od, I2⟩ := I1.lock e (by trivial)
    exact ⟨v, _, I2, r, z od⟩⟩
def ePv (m : CM RV) : CM PV := m >>= esc
theorem sp_esc {e : Expr} {m : CM RV} (h : SE X g W e m) : SPv X g W e (ePv m) := PE.mono (pe_lock h) fun σ H Q q => by
  obtain ⟨μ, cs, rel, o⟩ := q
  refine ⟨μ, cs, rel, (Out.bind o).mono fun x cs1 μ1 H1 _ k h1 v hv => ?_⟩
  cases x with
  | pv p => exact .inl (h1 μ1 H1 k v hv)
  | own c =>
    cases c with
    | dict kvs => exact h1.elim
    | list xs =>
      obtain ⟨a, rfl, ⟨vs, q1, q2⟩, nm, av⟩ := hv
      refine .inr ⟨a, _, q1, fun od => ?_⟩
      have r' : Rel g μ1 cs1 σ (upd H1 a (.frz od (.lst vs))) := k.rel.updOut q1 (.lst _) nm
      exact h1 μ1 _ (k.at av r' (fun b z => .inl z) fun _ _ z => z) _ (.lst upd_same (q2.stays (stays_upd q1 (.lst _))))
  | als i =>
    cases e1 : cs1.sl[i]? with
    | none => simp only [esc, e1] at h1; exact h1.elim
    | some sv =>
      simp only [esc, e1] at h1
      have es : σ[i]? = some (some v) := hv
      have q := k.rel.sl i sv _ e1 es
      cases sv with
      | emp => exact h1.elim
      | exn x => exact h1.elim
      | pv p =>
        obtain ⟨x, ex, q⟩ := q
        cases ex
        exact .inl (h1 μ1 H1 k _ q)
      | own c =>
        cases c with
        | dict kvs => exact h1.elim
        | list xs =>
          obtain ⟨a, ea, ⟨vs, q1, q2⟩, na⟩ := q
          cases ea
          refine .inr ⟨a, _, q1, fun od => ?_⟩
          have st : Stays μ1 H1 μ1 (upd H1 a (.frz od (.lst vs))) := stays_upd q1 (.lst _)
          have md := md_pv (p := .lst xs) k.rel e1 es
          have av : Md μ cs.sl σ a ∨ H a = none := k.keep.k2 a (.inr ⟨i, _, e1, es⟩)
          have r0 : Rel g μ1 { cs1 with sl := cs1.sl.set i .emp } σ H1 := by
            refine ⟨k.rel.hp, by rw [List.length_set]; exact k.rel.len, fun j s w h1 h2 => ?_, fun j l c d b z1 z2 z3 z4 => ?_⟩
            · by_cases z : i = j
              · subst z
                rw [List.getElem?_set] at h1
                simp only [if_true] at h1
                split at h1
                · cases h1; trivial
                · cases h1
              · rw [List.getElem?_set_ne z] at h1
                exact k.rel.sl j s w h1 h2
            · have nj : ∀ {j : Nat} {c : Cont}, (cs1.sl.set i .emp)[j]? = some (.own c) → cs1.sl[j]? = some (.own c) := fun {j c} h => by
                by_cases z : i = j
                · subst z
                  rw [List.getElem?_set] at h
                  simp only [if_true] at h
                  split at h <;> cases h
                · rwa [List.getElem?_set_ne z] at h
              exact k.rel.ap j l c d b (nj z1) (nj z2) z3 z4
          have md0 : ¬ Md μ1 (cs1.sl.set i .emp) σ a := by
            rintro (q | ⟨j, d, z1, z2⟩)
            · exact na q
            · by_cases z : i = j
              · subst z
                rw [List.getElem?_set] at z1
                simp only [if_true] at z1
                split at z1 <;> cases z1
              · rw [List.getElem?_set_ne z] at z1
                exact z (k.rel.ap i j _ d a e1 z1 es z2)
          have r1 : Rel g μ1 { cs1 with sl := cs1.sl.set i .emp } σ (upd H1 a (.frz od (.lst vs))) := r0.updOut q1 (.lst _) md0
          have pvr : PVRel g μ1 (upd H1 a (.frz od (.lst vs))) (.lst xs) (.ref a) := .lst upd_same (q2.stays st)
          have r2 : Rel g μ1 { cs1 with sl := cs1.sl.set i (.pv (.lst xs)) } σ (upd H1 a (.frz od (.lst vs))) := by
            have z := r1.setPv (i := i) es pvr
            simpa using z
          exact h1 μ1 _ (k.at av r2 (fun b z => .inl (Md.drop (fun c => by intro z; cases z) z)) fun _ _ z => z) _ pvr
/-- a value for sure -/
theorem sp_of {e : Expr} {m : CM PV} (h : SPv X g W e m) : SE X g W e (m >>= fun p => (fun cs => .ok (.pv p) cs : CM RV)) := PE.mono h fun σ H Q q => by
  obtain ⟨μ, cs, rel, o⟩ := q
  exact ⟨μ, cs, rel, (Out.bind o).mono fun p cs1 μ1 H1 _ k h1 v hv => h1 μ1 H1 k v hv⟩
/-- a container becomes one of the clean heap -/
def shr (r : RV) : CM PV := fun cs => match r with
  | .pv p => .ok p cs
  | .own c => .ok (.loc cs.h.length) { cs with h := cs.h ++ [.cont c] }
  | .als i => match cs.sl[i]? with
    | some (.pv p) => .ok p cs
    | some (.own c) => .ok (.loc cs.h.length) { sl := cs.sl.set i (.pv (.loc cs.h.length)), h := cs.h ++ [.cont c] }
    | _ => .stuck
def eSh (m : CM RV) : CM PV := m >>= shr
theorem Rel.dropSlot (r : Rel g μ cs σ H) (i : Nat) : Rel g μ { cs with sl := cs.sl.set i .emp } σ H := by
  refine ⟨r.hp, by rw [List.length_set]; exact r.len, fun j s w h1 h2 => ?_, fun j l c d b z1 z2 z3 z4 => ?_⟩
  · by_cases z : i = j
    · subst z
      rw [List.getElem?_set] at h1
      simp only [if_true] at h1
      split at h1
      · cases h1; trivial
      · cases h1
    · rw [List.getElem?_set_ne z] at h1
      exact r.sl j s w h1 h2
  · have nj : ∀ {j : Nat} {c : Cont}, (cs.sl.set i .emp)[j]? = some (.own c) → cs.sl[j]? = some (.own c) := fun {j c} h => by
      by_cases z : i = j
      · subst z
        rw [List.getElem?_set] at h
        simp only [if_true] at h
        split at h <;> cases h
      · rwa [List.getElem?_set_ne z] at h
    exact r.ap j l c d b (nj z1) (nj z2) z3 z4
theorem md_emp {i : Nat} {c : Cont} {a : Addr} (r : Rel g μ cs σ H) (h : cs.sl[i]? = some (.own c)) (e : σ[i]? = some (some (.ref a))) : ¬ Md μ (cs.sl.set i .emp) σ a := by
  rintro (q | ⟨j, d, h1, h2⟩)
  · obtain ⟨b, eb, _, nb⟩ := r.sl i _ _ h e
    cases eb
    exact nb q
  · by_cases z : i = j
    · subst z
      rw [List.getElem?_set] at h1
      simp only [if_true] at h1
      split at h1 <;> cases h1
    · rw [List.getElem?_set_ne z] at h1
      exact z (r.ap i j c d a h h1 e h2)
theorem md_push {a b : Addr} (h : Md (μ ++ [a]) cs.sl σ b) : Md μ cs.sl σ b ∨ b = a := by
  rcases h with h | h
  · rcases List.mem_append.mp h with z | z
    · exact .inl (.inl z)
    · exact .inr (List.mem_singleton.mp z)
  · exact .inl (.inr h)
theorem ext_push {a : Addr} : ∀ (l : Nat) (b : Addr), μ[l]? = some b → (μ ++ [a])[l]? = some b := fun l b h => by
  rw [List.getElem?_append_left (List.getElem?_eq_some_iff.mp h).1]; exact h
theorem get_push {a : Addr} (r : Rel g μ cs σ H) : (μ ++ [a])[cs.h.length]? = some a := by
  rw [← r.hp.len]; simp
theorem sp_shr {e : Expr} {m : CM RV} (h : SE X g W e m) : SPv X g W e (eSh m) := PE.mono h fun σ H Q q => by
  obtain ⟨μ, cs, rel, o⟩ := q
  refine ⟨μ, cs, rel, (Out.bind o).mono fun x cs1 μ1 H1 _ k h1 v hv => ?_⟩
  cases x with
  | pv p => exact h1 μ1 H1 k v hv
  | own c =>
    obtain ⟨a, rfl, q1, nm, av⟩ := hv
    have r' := k.rel.push q1 nm
    exact h1 (μ1 ++ [a]) H1 (k.same av r' (fun b z => md_push z) ext_push) _ (.loc (get_push k.rel))
  | als i =>
    cases e1 : cs1.sl[i]? with
    | none => simp only [shr, e1] at h1; exact h1.elim
    | some sv =>
      simp only [shr, e1] at h1
      have es : σ[i]? = some (some v) := hv
      have q := k.rel.sl i sv _ e1 es
      cases sv with
      | emp => exact h1.elim
      | exn x => exact h1.elim
      | pv p =>
        obtain ⟨x, ex, q⟩ := q
        cases ex
        exact h1 μ1 H1 k _ q
      | own c =>
        obtain ⟨a, ea, q1, na⟩ := q
        cases ea
        have av : Md μ cs.sl σ a ∨ H a = none := k.keep.k2 a (.inr ⟨i, _, e1, es⟩)
        have r1 := (k.rel.dropSlot i).push q1 (md_emp k.rel e1 es)
        have pvr : PVRel g (μ1 ++ [a]) H1 (.loc cs1.h.length) (.ref a) := .loc (get_push k.rel)
        have r2 := r1.setPv (i := i) es pvr
        simp only [List.set_set] at r2
        refine h1 (μ1 ++ [a]) H1 (k.same av r2 (fun b z => ?_) ext_push) _ pvr
        rcases z with z | ⟨j, c', z1, z2⟩
        · rcases List.mem_append.mp z with z | z
          · exact .inl (.inl z)
          · exact .inr (List.mem_singleton.mp z)
        · exact .inl (Md.drop (s := .pv (.loc cs1.h.length)) (fun c => by intro z; cases z) (.inr ⟨j, c', z1, z2⟩))

/-! ### arguments, displays -/
def aNil : CM (List PV) := fun cs => .ok [] cs
def aCons (a : CM PV) (r : CM (List PV)) : CM (List PV) := do
  let p ← a
  let ps ← r
  fun cs => .ok (p :: ps) cs
theorem sa_nil : SA X g W [] aNil := PA.mono pa_nil fun σ H Q h => by
  obtain ⟨μ, cs, rel, o⟩ := h
  exact o μ H (Fct.refl rel) [] .nil
theorem sa_cons {e : Expr} {es : List Expr} {a : CM PV} {r : CM (List PV)} (ha : SPv X g W e a) (hr : SA X g W es r) (hs : starEach (e :: es) X.env = (false, eval e X.env) :: starEach es X.env := by rfl) : SA X g W (e :: es) (aCons a r) :=
  PA.mono (pa_cons ha hr hs) fun σ H Q h => by
    obtain ⟨μ, cs, rel, o⟩ := h
    refine ⟨μ, cs, rel, (Out.bind o).mono fun p cs1 μ1 H1 _ k1 h1 v hv => ⟨μ1, cs1, k1.rel, ((Out.bind h1).rebase k1).mono fun ps cs2 μ2 H2 _ k2 h2 vs hvs => ?_⟩⟩
    exact h2 μ2 H2 (k1.trans k2) _ (.cons (hv.stays (k2.stays k1.rel)) hvs)
def eTup (m : CM (List PV)) : CM RV := do
  let ps ← m
  fun cs => if ps.length ≤ 16777216 then .ok (.pv (.tup ps)) cs else .stuck
def eLst (m : CM (List PV)) : CM RV := do
  let ps ← m
  fun cs => if ps.length ≤ 16777216 then .ok (.own (.list ps)) cs else .stuck
theorem se_tup {es : List Expr} {m : CM (List PV)} {x1 pos} (h : SA X g W es m) : SE X g W (.Tuple es x1 pos) (eTup m) := PE.mono (pe_tup h) fun σ H Q h => by
  obtain ⟨μ, cs, rel, o⟩ := h
  refine ⟨μ, cs, rel, (Out.bind o).mono fun ps cs1 μ1 H1 _ k h1 vs hvs => ?_⟩
  by_cases z : ps.length ≤ 16777216
  · simp only [z, if_true] at h1
    refine ⟨by rw [← hvs.length]; exact z, fun p hp => ?_⟩
    exact h1 μ1 _ (k.fresh hp) _ (.tup (.of upd_same) (hvs.stays (stays_fresh hp)))
  · simp only [z, if_false] at h1
    exact h1.elim
theorem se_lst {es : List Expr} {m : CM (List PV)} {pos} (h : SA X g W es m) : SE X g W (.List es pos) (eLst m) := PE.mono (pe_lst h) fun σ H Q h => by
  obtain ⟨μ, cs, rel, o⟩ := h
  refine ⟨μ, cs, rel, (Out.bind o).mono fun ps cs1 μ1 H1 _ k h1 vs hvs => ?_⟩
  by_cases z : ps.length ≤ 16777216
  · simp only [z, if_true] at h1
    refine ⟨by rw [← hvs.length]; exact z, fun p hp => ?_⟩
    exact h1 μ1 _ (k.fresh hp) _ (RVRel.new k hp ⟨vs, upd_same, hvs.stays (stays_fresh hp)⟩)
  · simp only [z, if_false] at h1
    exact h1.elim
def eDict0 : CM RV := fun cs => .ok (.own (.dict [])) cs
theorem se_dict0 {pos} : SE X g W (.Dict [] [] pos) eDict0 := PE.mono pe_dnewK fun σ H Q h p hp => by
  obtain ⟨μ, cs, rel, o⟩ := h
  exact o μ _ ((Fct.refl rel).fresh hp) _ (RVRel.new (Fct.refl rel) hp (.inl ⟨[], upd_same, .nil⟩))

/-! ### what a list holds -/
def listC (cs : CSt) : RV → Option (List PV)
  | .pv (.lst xs) => some xs
  | .pv (.loc l) => match cs.h[l]? with
    | some (.cont (.list xs)) => some xs
    | _ => none
  | .own (.list xs) => some xs
  | .als i => match cs.sl[i]? with
    | some (.own (.list xs)) => some xs
    | some (.pv (.lst xs)) => some xs
    | _ => none
  | _ => none
theorem locRel (r : Rel g μ cs σ H) {l : Nat} {o : CO} {v : V} (h : PVRel g μ H (.loc l) v) (e : cs.h[l]? = some o) : ∃ a, v = .ref a ∧ μ[l]? = some a ∧ ObjRel g μ H o a := by
  cases h with
  | loc h => exact ⟨_, rfl, h, r.hp.obj l o _ e h⟩
theorem listC_rel {rv : RV} {v : V} {xs : List PV} (r : Rel g μ cs σ H) (hv : RVRel g M H0 μ cs σ H rv v) (h : listC cs rv = some xs) : ∃ a vs, v = .ref a ∧ Rd H a (.lst vs) ∧ PVsRel g μ H xs vs := by
  cases rv with
  | pv p =>
    cases p with
    | lst ys =>
      cases h
      cases hv with
      | lst h1 h2 => exact ⟨_, _, rfl, .inr ⟨_, h1⟩, h2⟩
    | loc l =>
      simp only [listC] at h
      split at h
      · rename_i e
        cases h
        obtain ⟨a, rfl, _, vs, h1, h2⟩ := locRel r hv e
        exact ⟨a, vs, rfl, .inl h1, h2⟩
      · cases h
    | _ => cases h
  | own c =>
    cases c with
    | list ys =>
      cases h
      obtain ⟨a, rfl, ⟨vs, h1, h2⟩, _⟩ := hv
      exact ⟨a, vs, rfl, .inl h1, h2⟩
    | dict _ => cases h
  | als i =>
    simp only [listC] at h
    have es : σ[i]? = some (some v) := hv
    split at h
    · rename_i e
      cases h
      obtain ⟨a, ea, ⟨vs, h1, h2⟩, _⟩ := r.sl i _ _ e es
      cases ea
      exact ⟨a, vs, rfl, .inl h1, h2⟩
    · rename_i e
      cases h
      obtain ⟨x, ex, q⟩ := r.sl i _ _ e es
      cases ex
      cases q with
      | lst h1 h2 => exact ⟨_, _, rfl, .inr ⟨_, h1⟩, h2⟩
    · cases h
/-- the value, if it is one -/
def valC (cs : CSt) : RV → Option PV
  | .pv p => some p
  | .als i => match cs.sl[i]? with
    | some (.pv p) => some p
    | _ => none
  | _ => none
theorem valC_rel {rv : RV} {v : V} {p : PV} (r : Rel g μ cs σ H) (hv : RVRel g M H0 μ cs σ H rv v) (h : valC cs rv = some p) : PVRel g μ H p v := by
  cases rv with
  | pv q => cases h; exact hv
  | own c => cases h
  | als i =>
    simp only [valC] at h
    have es : σ[i]? = some (some v) := hv
    split at h
    · rename_i e
      cases h
      obtain ⟨x, ex, q⟩ := r.sl i _ _ e es
      cases ex
      exact q
    · cases h
section
variable {pins : List (Addr × Obj)} {s : Shared}
theorem _root_.L2.Inv.lstR {l : Addr} {xs : List V} (I : L2.Inv X pins σ H s) (hH : Rd H l (.lst xs)) : xs.length ≤ sizeLine ∧ ∃ (its : List Value) (n : Nat), Vals xs its ∧ xs.length = its.length ∧ s.heap.get? l = some { cls := .type "list", data := .seq its.toArray n } := by
  obtain ⟨z, its, n, r, e⟩ := hH.ok I.hok
  exact ⟨z, its, n, r, r.length, e⟩
end
/-! ### + -/
def rCatR : R2 := fun x y H Q => ∃ l b xs zs, x = .ref l ∧ y = .ref b ∧ Rd H l (.lst xs) ∧ Rd H b (.lst zs) ∧ xs.length + zs.length ≤ sizeLine ∧ ∀ p, H p = none → Q (.ref p) (upd H p (.lst (xs ++ zs)))
theorem op_catR : OpR X (binaryOp .Add) rCatR := by
  intro pins s σ H x y v u Q I rx ry h
  obtain ⟨l, b, xs, zs, rfl, rfl, hH, hB, hz, q⟩ := h
  cases rx
  cases ry
  obtain ⟨z, its, n, r, hl, e⟩ := I.lstR hH
  obtain ⟨z2, its2, n2, r2, hl2, e2⟩ := I.lstR hB
  refine PySem.P.add_list e e2 ?_ (by rw [List.size_toArray, List.size_toArray]; omega)
  have ea : its.toArray ++ its2.toArray = (its ++ its2).toArray := by simp
  rw [ea]
  exact ⟨.ref _, _, I.lnew (t' := s.toks) (r.append r2) (by rw [List.length_append]; omega), rfl, q _ I.fresh⟩
def opAddL (x y : RV) : CM RV := fun cs => match listC cs x, listC cs y with
  | some a, some b => if a.length + b.length ≤ 16777216 then .ok (.own (.list (a ++ b))) cs else .stuck
  | _, _ => .stuck
def opAdd (x y : RV) : CM RV := fun cs => match x, y with
  | .pv (.int a), .pv (.int b) => .ok (.pv (.int (a + b))) cs
  | .pv (.str a), .pv (.str b) => if a.length + b.length ≤ 16777216 then .ok (.pv (.str (a ++ b))) cs else .stuck
  | .pv (.tup a), .pv (.tup b) => if a.length + b.length ≤ 16777216 then .ok (.pv (.tup (a ++ b))) cs else .stuck
  | x, y => opAddL x y cs
theorem tup_inv {p : List PV} {v : V} (h : PVRel g μ H (.tup p) v) : ∃ a vs, v = .ref a ∧ SqT g.K H a vs ∧ PVsRel g μ H p vs := by
  cases h with
  | tup h1 h2 => exact ⟨_, _, rfl, h1, h2⟩
theorem pvs_nil {ps : List PV} (h : PVsRel g μ H ps []) : ps = [] := by cases h; rfl
def rAdd (K : PySem.W.Frag) : R2 := fun x y H Q => rI0 (fun i j => V.int (i + j)) x y H Q ∨ (∃ i j, x = V.str i ∧ y = V.str j ∧ i.length + j.length ≤ sizeLine ∧ Q (V.str (i ++ j)) H) ∨ rCatA K x y H Q ∨ rCatR x y H Q
theorem op_addA : OpR X (binaryOp .Add) (rAdd X.K) := opR_or op_add (opR_or op_add_str (opR_or op_catA op_catR))
theorem pr_addL : Pr2 g rCatR opAddL := fun W M μ H σ cs2 μ2 H2 x y v u Q k hx hy o => by
  unfold opAddL at o
  split at o
  · rename_i a b ea eb
    obtain ⟨l, xs, rfl, h1, h2⟩ := listC_rel k.rel hx ea
    obtain ⟨l', ys, rfl, h3, h4⟩ := listC_rel k.rel hy eb
    split at o
    · rename_i z
      refine ⟨l, l', xs, ys, rfl, rfl, h1, h3, by rw [← h2.length, ← h4.length]; exact z, fun p hp => ?_⟩
      exact o μ2 _ (k.fresh hp) _ (RVRel.new k hp ⟨_, upd_same, (h2.append h4).stays (stays_fresh hp)⟩)
    · exact o.elim
  · exact o.elim
theorem pr_add : Pr2 g (rAdd g.K) opAdd := fun W M μ H σ cs2 μ2 H2 x y v u Q k hx hy o => by
  unfold opAdd at o
  split at o
  · cases hx
    cases hy
    exact .inl ⟨_, _, rfl, rfl, o μ2 H2 k _ (.int _)⟩
  · rename_i a b
    cases hx
    cases hy
    split at o
    · rename_i z
      exact .inr (.inl ⟨_, _, rfl, rfl, z, o μ2 H2 k _ (.str _)⟩)
    · exact o.elim
  · rename_i a b
    obtain ⟨l, xs, rfl, h1, h2⟩ := tup_inv hx
    obtain ⟨l', ys, rfl, h3, h4⟩ := tup_inv hy
    split at o
    · rename_i z
      refine .inr (.inr (.inl ⟨l, l', xs, ys, rfl, rfl, h1, h3, by rw [← h2.length, ← h4.length]; exact z, fun e => ?_, fun _ e => ?_, fun _ _ p hp => ?_⟩))
      · subst e
        rw [pvs_nil h2] at o
        exact o μ2 H2 k _ hy
      · subst e
        rw [pvs_nil h4, List.append_nil] at o
        exact o μ2 H2 k _ hx
      · exact o μ2 _ (k.fresh hp) _ (.tup (.of upd_same) ((h2.append h4).stays (stays_fresh hp)))
    · exact o.elim
  · exact .inr (.inr (.inr (pr_addL W M μ H σ cs2 μ2 H2 x y v u Q k hx hy o)))
theorem se_add {a b : Expr} {ma mb : CM RV} {pos : Pos} (hg : g.K = X.K) (ha : SE X g W a ma) (hb : SE X g W b mb) : SE X g W (.BinOp a .Add b pos) (e2 opAdd ma mb) := se_op op_addA (hg ▸ pr_add) ha hb
end CL

/-! CL4: numbers, comparisons. -/
namespace CL
open PySem L2 PyProof.Rows
variable {g : G} {W : WX} {M : Addr → Prop} {μ μ' μ1 μ2 : List Addr} {H H' H0 H1 H2 : Hp} {σ : L2.St} {cs cs' cs1 cs2 : CSt} {X : Cx}

/-! ### ints -/
def opI2 (C : Int → Int → Bool) (f : Int → Int → PV) (x y : RV) : CM RV := fun cs => match x, y with
  | .pv (.int a), .pv (.int b) => if C a b then .ok (.pv (f a b)) cs else .stuck
  | _, _ => .stuck
theorem pr_I2 {C : Int → Int → Bool} {P : Int → Int → Prop} {f : Int → Int → PV} {fv : Int → Int → V} (hC : ∀ a b, C a b = true → P a b) (hf : ∀ a b μ H, PVRel g μ H (f a b) (fv a b)) : Pr2 g (rI P fv) (opI2 C f) := fun W M μ H σ cs2 μ2 H2 x y v u Q k hx hy o => by
  unfold opI2 at o
  split at o
  · rename_i a b
    cases hx
    cases hy
    by_cases z : C a b = true
    · simp only [z, if_true] at o
      exact ⟨_, _, rfl, rfl, hC _ _ z, o μ2 H2 k _ (hf _ _ _ _)⟩
    · simp only [z, Bool.false_eq_true, if_false] at o
      exact o.elim
  · exact o.elim
theorem pr_I20 {f : Int → Int → PV} {fv : Int → Int → V} (hf : ∀ a b μ H, PVRel g μ H (f a b) (fv a b)) : Pr2 g (rI0 fv) (opI2 (fun _ _ => true) f) := fun W M μ H σ cs2 μ2 H2 x y v u Q k hx hy o => by
  obtain ⟨i, j, e1, e2, _, q⟩ := pr_I2 (P := fun _ _ => True) (fun _ _ _ => trivial) hf W M μ H σ cs2 μ2 H2 x y v u Q k hx hy o
  exact ⟨i, j, e1, e2, q⟩
def opSub := opI2 (fun _ _ => true) fun a b => .int (a - b)
def opMod := opI2 (fun _ b => decide (0 < b)) fun a b => .int (a % b)
def opDiv := opI2 (fun _ b => decide (0 < b) && decide (b < 1073741824)) fun a b => .int (a / b)
def opPow := opI2 (fun a b => decide (0 ≤ b) && decide (b ≤ 1000000) && decide (a.natAbs < 2 ^ 64)) fun a b => .int (a ^ b.toNat)
def opMulI := opI2 (fun a b => (decide (-(2 ^ 64) < a) && decide (a < 2 ^ 64)) || (decide (-(2 ^ 64) < b) && decide (b < 2 ^ 64))) fun a b => .int (a * b)
section
variable {a b : Expr} {ma mb : CM RV} {pos : Pos}
theorem se_sub (ha : SE X g W a ma) (hb : SE X g W b mb) : SE X g W (.BinOp a .Sub b pos) (e2 opSub ma mb) := se_op op_sub (pr_I20 fun _ _ _ _ => .int _) ha hb
theorem se_mod (ha : SE X g W a ma) (hb : SE X g W b mb) : SE X g W (.BinOp a .Mod b pos) (e2 opMod ma mb) := se_op op_mod (pr_I2 (fun a b h => by simpa using h) fun _ _ _ _ => .int _) ha hb
theorem se_div (ha : SE X g W a ma) (hb : SE X g W b mb) : SE X g W (.BinOp a .FloorDiv b pos) (e2 opDiv ma mb) := se_op op_fdiv (pr_I2 (fun a b h => by simpa [CDiv] using h) fun _ _ _ _ => .int _) ha hb
theorem se_pow (ha : SE X g W a ma) (hb : SE X g W b mb) : SE X g W (.BinOp a .Pow b pos) (e2 opPow ma mb) := se_op op_pow (pr_I2 (fun a b h => by simp only [Bool.and_eq_true, decide_eq_true_eq] at h; exact ⟨h.1.1, h.1.2, h.2⟩) fun _ _ _ _ => .int _) ha hb
end
/-! ### int * int, list * int, tuple * int -/
def rRepR : R2 := fun x y H Q => ∃ l k xs, x = .ref l ∧ y = .int k ∧ Rd H l (.lst xs) ∧ -(2 ^ 63) ≤ k ∧ k < 2 ^ 63 ∧ xs.length * k.toNat ≤ sizeLine ∧
  ∀ p, H p = none → Q (.ref p) (upd H p (.lst (List.replicate k.toNat xs).flatten))
theorem op_repR : OpR X (binaryOp .Mult) rRepR := by
  intro pins s σ H x y v u Q I rx ry h
  obtain ⟨l, k, xs, rfl, rfl, hH, h1, h2, hz, q⟩ := h
  cases rx
  obtain ⟨t, rfl⟩ := ry
  obtain ⟨z, its, n, r, hl, e⟩ := I.lstR hH
  have hlen : its.toArray.size * k.toNat ≤ sizeLine := by rw [List.size_toArray, ← hl]; exact hz
  have hcap : ¬ its.toArray.size * k.toNat > (2 ^ 63 - 1) / 8 := by
    have : (sizeLine : Nat) ≤ (2 ^ 63 - 1) / 8 := by decide
    omega
  have hfit : ¬ (!Builtin.List.listFitsIndex k) = true := by
    rw [fitsIndex_both h1 h2]
    exact Bool.false_ne_true
  have hlong : ¬ Builtin.List.listTooLong (its.toArray.size * k.toNat) = true := by
    rw [notLongL hlen]
    exact Bool.false_ne_true
  have hnew : List.foldl (fun x1 x2 => x1 ++ x2) #[] (List.replicate (if its.toArray.isEmpty = true then 0 else k.toNat) its.toArray) = (List.replicate k.toNat its).flatten.toArray := by
    have f0 : ∀ m : Nat, List.foldl (fun x1 x2 => x1 ++ x2) #[] (List.replicate m its.toArray) = (List.replicate m its).flatten.toArray := fun m => by
      have := foldl_rep its m []
      rw [List.nil_append] at this
      exact this
    rw [f0]
    cases its with
    | nil => simp
    | cons a r' => rw [if_neg (by simp)]
  refine wpAny_binaryOp_repeat_ref (T := "list") (U := "int") (by decide) ⟨_, e, rfl⟩ (fun s' => typeIs_int s' k t) noFill_list_mul F.fills_int_mul F.slot_int_rmul repeat_list F.slot_int_index.lookup
    (call_meets F.slot_int_rmul (typeIs_int s k t) F.entry_int_rmul (F.args_int_rmul_2 _ _) (int___rmul___int_list k t l its.toArray n)
      ⟨e, rfl, ⟨_, e, rfl⟩, call_meets F.slot_list_mul ⟨_, e, rfl⟩ F.entry_list_mul (F.args_list_mul_2 _ _) (AutoListH.list___mul___list_int_3 l its.toArray n k t hfit hcap hlong) ⟨e, ?_⟩⟩)
  rw [hnew]
  exact ⟨.ref _, _, I.lnew (t' := s.toks) (r.rep k.toNat) (by rw [PyProof.Rows.lm_len_rep_flat, Nat.mul_comm]; exact hz), rfl, q _ I.fresh⟩
theorem PVsRel.rep {ps : List PV} {vs : List V} (r : PVsRel g μ H ps vs) : ∀ n : Nat, PVsRel g μ H (List.replicate n ps).flatten (List.replicate n vs).flatten
  | 0 => .nil
  | n + 1 => by
    simp only [List.replicate_succ, List.flatten_cons]
    exact r.append (PVsRel.rep r n)
def opMulL (x y : RV) : CM RV := fun cs => match listC cs x, y with
  | some xs, .pv (.int k) => if decide (-(2 ^ 63) ≤ k) && decide (k < 2 ^ 63) && decide (xs.length * k.toNat ≤ 16777216) then .ok (.own (.list (List.replicate k.toNat xs).flatten)) cs else .stuck
  | _, _ => .stuck
def opMulT (x y : RV) : CM RV := fun cs => match x, y with
  | .pv (.tup xs), .pv (.int k) => if (!xs.isEmpty) && decide (2 ≤ k) && decide (k ≤ 1000) && decide (xs.length ≤ 1000) then .ok (.pv (.tup (List.replicate k.toNat xs).flatten)) cs else .stuck
  | _, _ => .stuck
theorem pr_mulL : Pr2 g rRepR opMulL := fun W M μ H σ cs2 μ2 H2 x y v u Q k hx hy o => by
  unfold opMulL at o
  split at o
  · rename_i a n ea
    obtain ⟨l, xs, rfl, h1, h2⟩ := listC_rel k.rel hx ea
    cases hy
    split at o
    · rename_i z
      simp only [Bool.and_eq_true, decide_eq_true_eq] at z
      refine ⟨l, _, xs, rfl, rfl, h1, z.1.1, z.1.2, by rw [← h2.length]; exact z.2, fun p hp => ?_⟩
      exact o μ2 _ (k.fresh hp) _ (RVRel.new k hp ⟨_, upd_same, (h2.rep _).stays (stays_fresh hp)⟩)
    · exact o.elim
  · exact o.elim
theorem pr_mulT : Pr2 g (rRepT g.K) opMulT := fun W M μ H σ cs2 μ2 H2 x y v u Q k hx hy o => by
  unfold opMulT at o
  split at o
  · rename_i a n
    obtain ⟨l, xs, rfl, h1, h2⟩ := tup_inv hx
    cases hy
    split at o
    · rename_i z
      simp only [Bool.and_eq_true, decide_eq_true_eq, Bool.not_eq_true'] at z
      refine ⟨l, _, xs, rfl, rfl, h1, fun e => ?_, z.1.1.2, z.1.2, by rw [← h2.length]; exact z.2, fun p hp => ?_⟩
      · subst e
        rw [pvs_nil h2] at z
        simp at z
      · exact o μ2 _ (k.fresh hp) _ (.tup (.of upd_same) ((h2.rep _).stays (stays_fresh hp)))
    · exact o.elim
  · exact o.elim
section
variable {a b : Expr} {ma mb : CM RV} {pos : Pos}
theorem se_mul (ha : SE X g W a ma) (hb : SE X g W b mb) : SE X g W (.BinOp a .Mult b pos) (e2 opMulI ma mb) := se_op op_mul (pr_I2 (fun a b h => by simpa [CMul] using h) fun _ _ _ _ => .int _) ha hb
theorem se_mulL (ha : SE X g W a ma) (hb : SE X g W b mb) : SE X g W (.BinOp a .Mult b pos) (e2 opMulL ma mb) := se_op op_repR pr_mulL ha hb
theorem se_mulT (hg : g.K = X.K) (ha : SE X g W a ma) (hb : SE X g W b mb) : SE X g W (.BinOp a .Mult b pos) (e2 opMulT ma mb) := se_op op_repT (hg ▸ pr_mulT) ha hb
end
def opNeg (x : RV) : CM RV := fun cs => match x with
  | .pv (.int a) => .ok (.pv (.int (-a))) cs
  | _ => .stuck
theorem se_neg {a : Expr} {ma : CM RV} {pos} (ha : SE X g W a ma) : SE X g W (.UnaryOp .USub a pos) (e1 opNeg ma) := se_un un_neg (fun W M μ H σ cs2 μ2 H2 x v Q k hx o => by
  unfold opNeg at o
  split at o
  · cases hx
    exact ⟨_, rfl, o μ2 H2 k _ (.int _)⟩
  · exact o.elim) ha

/-! ### <, <=, >, >= of ints and texts -/
def strLt (a b : Str) : Bool := decide (a.cps.toList < b.cps.toList)
def ordV (fi : Int → Int → Bool) (fs : Str → Str → Bool) : RV → RV → Option Bool
  | .pv (.int a), .pv (.int b) => some (fi a b)
  | .pv (.str a), .pv (.str b) => some (fs a b)
  | _, _ => none
def optB : Option Bool → CM RV
  | some b => kst (.bl b)
  | none => stuck
def opOrd (fi : Int → Int → Bool) (fs : Str → Str → Bool) (x y : RV) : CM RV := optB (ordV fi fs x y)
def rOrd (fi : Int → Int → Bool) (fs : Str → Str → Bool) : R2 := fun x y H Q => rI0 (fun i j => .bl (fi i j)) x y H Q ∨ (∃ i j, x = .str i ∧ y = .str j ∧ Q (.bl (fs i j)) H)
theorem ordV_r {fi : Int → Int → Bool} {fs : Str → Str → Bool} {x y : RV} {v u : V} {b : Bool} {Q : VK} (hx : RVRel g M H0 μ cs σ H x v) (hy : RVRel g M H0 μ cs σ H y u) (e : ordV fi fs x y = some b) (q : Q (.bl b) H) : rOrd fi fs v u H Q := by
  unfold ordV at e
  split at e
  · cases hx
    cases hy
    cases e
    exact .inl ⟨_, _, rfl, rfl, q⟩
  · cases hx
    cases hy
    cases e
    exact .inr ⟨_, _, rfl, rfl, q⟩
  · cases e
theorem pr_ord {fi : Int → Int → Bool} {fs : Str → Str → Bool} : Pr2 g (rOrd fi fs) (opOrd fi fs) := fun W M μ H σ cs2 μ2 H2 x y v u Q k hx hy o => by
  unfold opOrd at o
  cases e : ordV fi fs x y with
  | none => rw [e] at o; exact o.elim
  | some b =>
    rw [e] at o
    exact ordV_r hx hy e (o μ2 H2 k _ (.bl b))
def opLt := opOrd (fun i j => decide (i < j)) strLt
def opLe := opOrd (fun i j => decide (i ≤ j)) fun a b => !strLt b a
def opGt := opOrd (fun i j => decide (j < i)) fun a b => strLt b a
def opGe := opOrd (fun i j => decide (j ≤ i)) fun a b => !strLt a b
theorem op_ltA : OpR X (compareOp .Lt) (rOrd (fun i j => decide (i < j)) strLt) := opR_or op_lt op_lt_str
theorem op_leA : OpR X (compareOp .LtE) (rOrd (fun i j => decide (i ≤ j)) fun a b => !strLt b a) := opR_or op_le op_le_str
theorem op_gtA : OpR X (compareOp .Gt) (rOrd (fun i j => decide (j < i)) fun a b => strLt b a) := opR_or op_gt op_gt_str
theorem op_geA : OpR X (compareOp .GtE) (rOrd (fun i j => decide (j ≤ i)) fun a b => !strLt a b) := opR_or op_ge op_ge_str
section
variable {a b c : Expr} {ma mb mc : CM RV} {pos : Pos}
theorem se_lt (ha : SE X g W a ma) (hb : SE X g W b mb) : SE X g W (.Compare a [.Lt] [b] pos) (e2 opLt ma mb) := se_cmp op_ltA pr_ord ha hb (nomark _)
theorem se_le (ha : SE X g W a ma) (hb : SE X g W b mb) : SE X g W (.Compare a [.LtE] [b] pos) (e2 opLe ma mb) := se_cmp op_leA pr_ord ha hb (nomark _)
theorem se_gt (ha : SE X g W a ma) (hb : SE X g W b mb) : SE X g W (.Compare a [.Gt] [b] pos) (e2 opGt ma mb) := se_cmp op_gtA pr_ord ha hb (nomark _)
theorem se_ge (ha : SE X g W a ma) (hb : SE X g W b mb) : SE X g W (.Compare a [.GtE] [b] pos) (e2 opGe ma mb) := se_cmp op_geA pr_ord ha hb (nomark _)
/-- a <= b <= c -/
def eChain (fi : Int → Int → Bool) (fs : Str → Str → Bool) (fi' : Int → Int → Bool) (fs' : Str → Str → Bool) (ma mb mc : CM RV) : CM RV := do
  let x ← ma
  let y ← mb
  match ordV fi fs x y with
  | some true => do
    let w ← mc
    opOrd fi' fs' y w
  | some false => kst (.bl false)
  | none => stuck
theorem se_chain {op op' : CmpOp} {fi fi' : Int → Int → Bool} {fs fs' : Str → Str → Bool} (ho : OpR X (compareOp op) (rOrd fi fs)) (ho' : OpR X (compareOp op') (rOrd fi' fs')) (ha : SE X g W a ma) (hb : SE X g W b mb) (hc : SE X g W c mc)
    (hm : lastMarks [op, op'] [b, c] = false := by rfl) : SE X g W (.Compare a [op, op'] [b, c] pos) (eChain fi fs fi' fs' ma mb mc) := PE.mono (pe_chain ho ho' ha hb hc hm) fun σ H Q h => by
  obtain ⟨μ, cs, rel, o⟩ := h
  refine ⟨μ, cs, rel, (Out.bind o).mono fun x cs1 μ1 H1 _ k1 h1 v hv => ⟨μ1, cs1, k1.rel, ((Out.bind h1).rebase k1).mono fun y cs2 μ2 H2 _ k2 h2 u hu => ?_⟩⟩
  have k := k1.trans k2
  have hx := hv.step k1.rel k2
  have hy := hu.base k1.keep
  cases e : ordV fi fs x y with
  | none => rw [e] at h2; exact h2.elim
  | some b =>
    rw [e] at h2
    refine ordV_r hx hy e ⟨b, rfl, ?_⟩
    cases b with
    | true =>
      refine iteT ⟨μ2, cs2, k2.rel, ((Out.bind h2).rebase k).mono fun w cs3 μ3 H3 _ k3 h3 t ht => ?_⟩
      exact pr_ord W _ μ H σ cs3 μ3 H3 y w u t Q (k.trans k3) (hy.step k.rel k3) (ht.base k.keep) h3
    | false => exact iteF (h2 μ2 H2 k _ (.bl false))
def eLeLe := eChain (fun i j => decide (i ≤ j)) (fun a b => !strLt b a) (fun i j => decide (i ≤ j)) fun a b => !strLt b a
theorem se_lele (ha : SE X g W a ma) (hb : SE X g W b mb) (hc : SE X g W c mc) (hm : lastMarks [.LtE, .LtE] [b, c] = false := by rfl) : SE X g W (.Compare a [.LtE, .LtE] [b, c] pos) (eLeLe ma mb mc) := se_chain op_leA op_leA ha hb hc hm
end

/-! ### ==, != -/
mutual
def toD : PV → Option PyData
  | .non => some .none
  | .bl b => some (.bool b)
  | .int i => some (.int i)
  | .str x => some (.str x)
  | .tup xs => (toDs xs).map .tuple
  | .lst xs => (toDs xs).map .list
  | .loc _ => none
  | .clo _ _ => none
def toDs : List PV → Option (List PyData)
  | [] => some []
  | p :: ps => match toD p, toDs ps with
    | some d, some ds => some (d :: ds)
    | _, _ => none
end
mutual
theorem toD_rel {K : PySem.W.Frag} (hK : g.K = K) : ∀ (p : PV) (v : V) (d : PyData), PVRel g μ H p v → toD p = some d → Dp K H v d
  | .non, _, _, .non, h => by simp only [toD, Option.some.injEq] at h; subst h; exact .non
  | .bl _, _, _, .bl _, h => by simp only [toD, Option.some.injEq] at h; subst h; exact .bl _
  | .int _, _, _, .int _, h => by simp only [toD, Option.some.injEq] at h; subst h; exact .int _
  | .str _, _, _, .str _, h => by simp only [toD, Option.some.injEq] at h; subst h; exact .str _
  | .tup xs, _, _, .tup h1 h2, h => by
    simp only [toD, Option.map_eq_some_iff] at h
    obtain ⟨ds, e, rfl⟩ := h
    exact .tup (hK ▸ h1) (toDs_rel hK xs _ ds h2 e)
  | .lst xs, _, _, .lst h1 h2, h => by
    simp only [toD, Option.map_eq_some_iff] at h
    obtain ⟨ds, e, rfl⟩ := h
    exact .lst (.inl (.inr ⟨_, h1⟩)) (toDs_rel hK xs _ ds h2 e)
  | .loc _, _, _, _, h => by simp [toD] at h
  | .clo _ _, _, _, _, h => by simp [toD] at h
theorem toDs_rel {K : PySem.W.Frag} (hK : g.K = K) : ∀ (ps : List PV) (vs : List V) (ds : List PyData), PVsRel g μ H ps vs → toDs ps = some ds → DpAll K H vs ds
  | [], _, _, .nil, h => by simp only [toDs, Option.some.injEq] at h; subst h; exact .nil
  | p :: ps, _, _, .cons h1 h2, h => by
    simp only [toDs] at h
    split at h
    · rename_i d ds e1 e2
      cases h
      exact .cons (toD_rel hK p _ d h1 e1) (toDs_rel hK ps _ ds h2 e2)
    · cases h
end
def dataC (cs : CSt) (r : RV) : Option PyData := match listC cs r with
  | some xs => (toDs xs).map .list
  | none => match valC cs r with
    | some p => toD p
    | none => none
theorem dataC_rel {K : PySem.W.Frag} {rv : RV} {v : V} {d : PyData} (hK : g.K = K) (r : Rel g μ cs σ H) (hv : RVRel g M H0 μ cs σ H rv v) (h : dataC cs rv = some d) : Dp K H v d := by
  unfold dataC at h
  split at h
  · rename_i xs e
    obtain ⟨a, vs, rfl, h1, h2⟩ := listC_rel r hv e
    simp only [Option.map_eq_some_iff] at h
    obtain ⟨ds, e2, rfl⟩ := h
    exact .lst (.inl h1) (toDs_rel hK xs vs ds h2 e2)
  · split at h
    · rename_i p e
      exact toD_rel hK p v d (valC_rel r hv e) h
    · cases h
def opEqB (neg : Bool) (x y : RV) : CM RV := fun cs => match dataC cs x, dataC cs y with
  | some d, some e => if SeqAt.shaped d && SeqAt.shaped e then .ok (.pv (.bl (if neg then !PyData.eqv d e else PyData.eqv d e))) cs else .stuck
  | _, _ => .stuck
def opEq := opEqB false
def opNe := opEqB true
theorem pr_eq : Pr2 g (rEqD g.K) opEq := fun W M μ H σ cs2 μ2 H2 x y v u Q k hx hy o => by
  unfold opEq opEqB at o
  split at o
  · rename_i d e ed ee
    split at o
    · rename_i z
      simp only [Bool.and_eq_true] at z
      exact ⟨d, e, dataC_rel rfl k.rel hx ed, dataC_rel rfl k.rel hy ee, z.1, z.2, o μ2 H2 k _ (.bl _)⟩
    · exact o.elim
  · exact o.elim
theorem pr_ne : Pr2 g (rNeD g.K) opNe := fun W M μ H σ cs2 μ2 H2 x y v u Q k hx hy o => by
  unfold opNe opEqB at o
  split at o
  · rename_i d e ed ee
    split at o
    · rename_i z
      simp only [Bool.and_eq_true] at z
      exact ⟨d, e, dataC_rel rfl k.rel hx ed, dataC_rel rfl k.rel hy ee, z.1, z.2, o μ2 H2 k _ (.bl _)⟩
    · exact o.elim
  · exact o.elim
def opIsN (neg : Bool) (x : RV) : CM RV := fun cs => match x with
  | .pv p => .ok (.pv (.bl (if neg then !decide (p = .non) else decide (p = .non)))) cs
  | .own _ => .ok (.pv (.bl neg)) cs
  | .als i => match cs.sl[i]? with
    | some (.pv p) => .ok (.pv (.bl (if neg then !decide (p = .non) else decide (p = .non)))) cs
    | some (.own _) => .ok (.pv (.bl neg)) cs
    | _ => .stuck
theorem pv_non {p : PV} {v : V} (h : PVRel g μ H p v) : decide (v = .non) = decide (p = .non) := by cases h <;> simp
section
variable {a b : Expr} {ma mb : CM RV} {pos : Pos}
theorem se_eq (hg : g.K = X.K) (hu : X.A.units + 64 < cLine) (ha : SE X g W a ma) (hb : SE X g W b mb) : SE X g W (.Compare a [.Eq] [b] pos) (e2 opEq ma mb) := se_cmp (op_eqD hu) (hg ▸ pr_eq) ha hb (nomark _)
theorem se_ne (hg : g.K = X.K) (hu : X.A.units + 64 < cLine) (ha : SE X g W a ma) (hb : SE X g W b mb) : SE X g W (.Compare a [.NotEq] [b] pos) (e2 opNe ma mb) := se_cmp (op_neD hu) (hg ▸ pr_ne) ha hb (nomark _)
theorem isN_val {x : RV} {v : V} (r : Rel g μ cs σ H) (hx : RVRel g M H0 μ cs σ H x v) {R : RV → CSt → List Addr → Hp → Prop} {neg : Bool} {M' : Addr → Prop} {μ' : List Addr} {H' : Hp} (o : Out g W M' μ' H' σ (opIsN neg x cs) R) :
    Out g W M' μ' H' σ (.ok (.pv (.bl (if neg then !decide (v = .non) else decide (v = .non)))) cs) R := by
  cases x with
  | pv p => rw [pv_non hx]; exact o
  | own c =>
    obtain ⟨a, rfl, _⟩ := hx
    have e : (if neg = true then !decide (V.ref a = .non) else decide (V.ref a = .non)) = neg := by cases neg <;> simp
    rw [e]; exact o
  | als i =>
    have es : σ[i]? = some (some v) := hx
    simp only [opIsN] at o
    split at o
    · rename_i p e
      obtain ⟨x, ex, q⟩ := r.sl i _ _ e es
      cases ex
      rw [pv_non q]; exact o
    · rename_i c e
      obtain ⟨a, ea, _⟩ := r.sl i _ _ e es
      cases ea
      have e : (if neg = true then !decide (V.ref a = .non) else decide (V.ref a = .non)) = neg := by cases neg <;> simp
      rw [e]; exact o
    · exact o.elim
theorem se_isN {j pos'} (ha : SE X g W a ma) : SE X g W (.Compare a [.Is] [.Constant .none j pos'] pos) (e1 (opIsN false) ma) := PE.mono (pe_cmp (pc_isN ha) rfl) fun σ H Q h => by
  obtain ⟨μ, cs, rel, o⟩ := h
  refine ⟨μ, cs, rel, (Out.bind o).mono fun x cs1 μ1 H1 _ k1 h1 v hv => ?_⟩
  exact isN_val k1.rel hv h1 μ1 H1 k1 _ (.bl _)
theorem se_notN {j pos'} (ha : SE X g W a ma) : SE X g W (.Compare a [.IsNot] [.Constant .none j pos'] pos) (e1 (opIsN true) ma) := PE.mono (pe_cmp (pc_notN ha) rfl) fun σ H Q h => by
  obtain ⟨μ, cs, rel, o⟩ := h
  refine ⟨μ, cs, rel, (Out.bind o).mono fun x cs1 μ1 H1 _ k1 h1 v hv => ?_⟩
  exact isN_val k1.rel hv h1 μ1 H1 k1 _ (.bl _)
end
end CL

/-! CL5: empty or not, in, and, or, not, tests, if-expressions, places, slices, fields. -/
namespace CL
open PySem L2 PyProof.Rows
variable {g : G} {W : WX} {M : Addr → Prop} {μ μ' μ1 μ2 : List Addr} {H H' H0 H1 H2 : Hp} {σ : L2.St} {cs cs' cs1 cs2 : CSt} {X : Cx}

/-! ### xs == [], xs != [] -/
def rEmp (neg : Bool) : R2 := fun x y H Q => ∃ l b xs, x = .ref l ∧ y = .ref b ∧ Rd H l (.lst xs) ∧ Rd H b (.lst []) ∧ Q (.bl (if neg then !xs.isEmpty else xs.isEmpty)) H
theorem op_eqEmp (hu : X.A.units < cLine) : OpR X (compareOp .Eq) (rEmp false) := by
  intro pins s σ H x y v u Q I rx ry h
  obtain ⟨l, b, xs, rfl, rfl, h1, h2, q⟩ := h
  cases rx
  cases ry
  obtain ⟨z, its, n, r, hl, e⟩ := I.lstR h1
  obtain ⟨z2, its2, n2, r2, hl2, e2⟩ := I.lstR h2
  cases r2
  cases r with
  | nil => exact SeqAt.eq_listAt (e := fun _ => true) ⟨_, e, rfl, _, rfl⟩ ⟨_, e2, rfl, _, rfl⟩ rfl hu (fun j h1 _ => absurd h1 (by simp)) ⟨.bl true, H, I, rfl, q⟩
  | cons r0 rs => exact SeqAt.eq_list_lengthsAt ⟨_, e, rfl, _, rfl⟩ ⟨_, e2, rfl, _, rfl⟩ (by simp) hu ⟨.bl false, H, I, rfl, q⟩
theorem op_neEmp (hu : X.A.units < cLine) : OpR X (compareOp .NotEq) (rEmp true) := by
  intro pins s σ H x y v u Q I rx ry h
  obtain ⟨l, b, xs, rfl, rfl, h1, h2, q⟩ := h
  cases rx
  cases ry
  obtain ⟨z, its, n, r, hl, e⟩ := I.lstR h1
  obtain ⟨z2, its2, n2, r2, hl2, e2⟩ := I.lstR h2
  cases r2
  cases r with
  | nil => exact SeqAt.RcNeAt.lists (e := fun _ => true) ⟨_, e, rfl, _, rfl⟩ ⟨_, e2, rfl, _, rfl⟩ rfl hu (fun j h1 _ => absurd h1 (by simp)) _ _ _ _ ⟨.bl false, H, I, rfl, q⟩
  | cons r0 rs => exact SeqAt.RcNeAt.lists_lengths ⟨_, e, rfl, _, rfl⟩ ⟨_, e2, rfl, _, rfl⟩ (by simp) hu _ _ _ _ ⟨.bl true, H, I, rfl, q⟩
def opEmp (neg : Bool) (x y : RV) : CM RV := fun cs => match listC cs x, y with
  | some xs, .own (.list []) => .ok (.pv (.bl (if neg then !xs.isEmpty else xs.isEmpty))) cs
  | _, _ => .stuck
theorem PVsRel.isEmpty {ps : List PV} {vs : List V} (r : PVsRel g μ H ps vs) : ps.isEmpty = vs.isEmpty := by cases r <;> rfl
theorem pr_emp {neg : Bool} : Pr2 g (rEmp neg) (opEmp neg) := fun W M μ H σ cs2 μ2 H2 x y v u Q k hx hy o => by
  unfold opEmp at o
  split at o
  · rename_i xs ea
    obtain ⟨l, vs, rfl, h1, h2⟩ := listC_rel k.rel hx ea
    obtain ⟨b, rfl, ⟨ws, h3, h4⟩, _⟩ := hy
    cases h4
    rw [h2.isEmpty] at o
    exact ⟨l, b, vs, rfl, rfl, h1, .inl h3, o μ2 H2 k _ (.bl _)⟩
  · exact o.elim
section
variable {a b c : Expr} {ma mb mc : CM RV} {pos : Pos}
theorem se_eqE (hu : X.A.units + 64 < cLine) (ha : SE X g W a ma) (hb : SE X g W b mb) : SE X g W (.Compare a [.Eq] [b] pos) (e2 (opEmp false) ma mb) := se_cmp (op_eqEmp (by omega)) pr_emp ha hb (nomark _)
theorem se_neE (hu : X.A.units + 64 < cLine) (ha : SE X g W a ma) (hb : SE X g W b mb) : SE X g W (.Compare a [.NotEq] [b] pos) (e2 (opEmp true) ma mb) := se_cmp (op_neEmp (by omega)) pr_emp ha hb (nomark _)

/-! ### in, not in: a list, a tuple, a text -/
def rInT (K : PySem.W.Frag) (neg : Bool) : R2 := fun x y H Q => ∃ d ds, Dp K H x d ∧ Dp K H y (.tuple ds) ∧ SeqAt.shaped d = true ∧ SeqAt.shaped (.tuple ds) = true ∧ Q (.bl (if neg then !ds.any fun z => PyData.eqv z d else ds.any fun z => PyData.eqv z d)) H
theorem op_inT (hu : X.A.units + 65 < cLine) : OpR X (compareOp .In) (rInT X.K false) := by
  intro pins s σ H x y v u Q I rx ry h
  obtain ⟨d, ds, hd, he, sd, se, q⟩ := h
  obtain ⟨as, r1⟩ := Dp.reads I d x v hd rx
  obtain ⟨bs, r2⟩ := Dp.reads I (.tuple ds) y u he ry
  exact SeqAt.in_tuple_reads r2 r1 (SeqAt.canLay_of_shaped se) (SeqAt.canLay_of_shaped sd) (room_in_shaped sd hu) ⟨.bl _, H, I, rfl, q⟩
theorem op_notInT (hu : X.A.units + 65 < cLine) : OpR X (compareOp .NotIn) (rInT X.K true) := by
  intro pins s σ H x y v u Q I rx ry h
  obtain ⟨d, ds, hd, he, sd, se, q⟩ := h
  obtain ⟨as, r1⟩ := Dp.reads I d x v hd rx
  obtain ⟨bs, r2⟩ := Dp.reads I (.tuple ds) y u he ry
  exact SeqAt.notIn_tuple_reads r2 r1 (SeqAt.canLay_of_shaped se) (SeqAt.canLay_of_shaped sd) (room_in_shaped sd hu) ⟨.bl _, H, I, rfl, q⟩
def rInA (K : PySem.W.Frag) (neg : Bool) : R2 := fun x y H Q => (∃ d ds, Dp K H x d ∧ Dp K H y (.list ds) ∧ SeqAt.shaped d = true ∧ SeqAt.shaped (.list ds) = true ∧ Q (.bl (if neg then !ds.any fun z => PyData.eqv z d else ds.any fun z => PyData.eqv z d)) H) ∨
  rInT K neg x y H Q ∨ (∃ (c : Nat) (z : Str), x = .str ⟨#[c]⟩ ∧ y = .str z ∧ Q (.bl (if neg then !decide (c ∈ z.cps.toList) else decide (c ∈ z.cps.toList))) H)
theorem op_inA (hu : X.A.units + 65 < cLine) : OpR X (compareOp .In) (rInA X.K false) := opR_or (op_inD hu) (opR_or (op_inT hu) op_in_sign)
theorem op_notInA (hu : X.A.units + 65 < cLine) : OpR X (compareOp .NotIn) (rInA X.K true) := opR_or (op_notInD hu) (opR_or (op_notInT hu) op_notIn_sign)
def opIn (neg : Bool) (x y : RV) : CM RV := fun cs => match dataC cs x, dataC cs y with
  | some d, some (.list ds) => if SeqAt.shaped d && SeqAt.shaped (.list ds) then .ok (.pv (.bl (if neg then !ds.any fun z => PyData.eqv z d else ds.any fun z => PyData.eqv z d))) cs else .stuck
  | some d, some (.tuple ds) => if SeqAt.shaped d && SeqAt.shaped (.tuple ds) then .ok (.pv (.bl (if neg then !ds.any fun z => PyData.eqv z d else ds.any fun z => PyData.eqv z d))) cs else .stuck
  | some (.str c), some (.str z) => match c.cps.toList with
    | [n] => .ok (.pv (.bl (if neg then !decide (n ∈ z.cps.toList) else decide (n ∈ z.cps.toList)))) cs
    | _ => .stuck
  | _, _ => .stuck
theorem dp_str {K : PySem.W.Frag} {v : V} {x : Str} (h : Dp K H v (.str x)) : v = .str x := by cases h; rfl
theorem str_one {c : Str} {n : Nat} (h : c.cps.toList = [n]) : c = ⟨#[n]⟩ := by
  cases c with
  | mk cps =>
    simp only at h
    have : cps = #[n] := by
      have q := congrArg List.toArray h
      simpa using q
    rw [this]
theorem pr_in {neg : Bool} : Pr2 g (rInA g.K neg) (opIn neg) := fun W M μ H σ cs2 μ2 H2 x y v u Q k hx hy o => by
  unfold opIn at o
  split at o
  · rename_i d ds ed ee
    split at o
    · rename_i z
      simp only [Bool.and_eq_true] at z
      exact .inl ⟨d, ds, dataC_rel rfl k.rel hx ed, dataC_rel rfl k.rel hy ee, z.1, z.2, o μ2 H2 k _ (.bl _)⟩
    · exact o.elim
  · rename_i d ds ed ee
    split at o
    · rename_i z
      simp only [Bool.and_eq_true] at z
      exact .inr (.inl ⟨d, ds, dataC_rel rfl k.rel hx ed, dataC_rel rfl k.rel hy ee, z.1, z.2, o μ2 H2 k _ (.bl _)⟩)
    · exact o.elim
  · rename_i c z ed ee
    have e1 := dp_str (dataC_rel (K := g.K) rfl k.rel hx ed)
    have e2 := dp_str (dataC_rel (K := g.K) rfl k.rel hy ee)
    split at o
    · rename_i n en
      subst e1; subst e2
      rw [str_one en]
      exact .inr (.inr ⟨n, z, rfl, rfl, o μ2 H2 k _ (.bl _)⟩)
    · exact o.elim
  · exact o.elim
theorem se_in (hg : g.K = X.K) (hu : X.A.units + 65 < cLine) (ha : SE X g W a ma) (hb : SE X g W b mb) (hm : behindInMarks .In b = false := by rfl) : SE X g W (.Compare a [.In] [b] pos) (e2 (opIn false) ma mb) := se_cmp (op_inA hu) (hg ▸ pr_in) ha hb hm
theorem se_notIn (hg : g.K = X.K) (hu : X.A.units + 65 < cLine) (ha : SE X g W a ma) (hb : SE X g W b mb) (hm : behindInMarks .NotIn b = false := by rfl) : SE X g W (.Compare a [.NotIn] [b] pos) (e2 (opIn true) ma mb) := se_cmp (op_notInA hu) (hg ▸ pr_in) ha hb hm

/-! ### not, and, or (of truth values); if -/
def eNot (m : CM RV) : CM RV := do
  let x ← m
  match x with
  | .pv (.bl b) => kst (.bl !b)
  | _ => stuck
def eAnd (ma mb : CM RV) : CM RV := do
  let x ← ma
  match x with
  | .pv (.bl true) => mb
  | .pv (.bl false) => kst (.bl false)
  | _ => stuck
def eOr (ma mb : CM RV) : CM RV := do
  let x ← ma
  match x with
  | .pv (.bl false) => mb
  | .pv (.bl true) => kst (.bl true)
  | _ => stuck
theorem se_not (ha : SE X g W a ma) : SE X g W (.UnaryOp .Not a pos) (eNot ma) := PE.mono (pe_not ha) fun σ H Q h => by
  obtain ⟨μ, cs, rel, o⟩ := h
  refine ⟨μ, cs, rel, (Out.bind o).mono fun x cs1 μ1 H1 _ k1 h1 v hv => ?_⟩
  cases x with
  | pv p =>
    cases p with
    | bl b => cases hv; exact ⟨b, rfl, h1 μ1 H1 k1 _ (.bl _)⟩
    | _ => exact h1.elim
  | _ => exact h1.elim
/-- what stands at the end is what the second gives, from its own start -/
theorem tOf_tail {m : CM RV} {Q : VK} (k : Fct g M μ H μ1 cs1 σ H1) (h : Out g W M μ H σ (m cs1) fun rv cs' μ' H' => ∀ v, RVRel g M H μ' cs' σ H' rv v → Q v H') : tOf g W m σ H1 Q :=
  ⟨μ1, cs1, k.rel, (h.rebase k).mono fun rv cs' μ' H' _ _ q v hv => q v (hv.base k.keep)⟩
variable {rest : List Expr}
theorem se_and (ha : SE X g W a ma) (hb : SE X g W (.BoolOp .And (b :: rest) pos) mb) : SE X g W (.BoolOp .And (a :: b :: rest) pos) (eAnd ma mb) := PE.mono (pe_and ha hb) fun σ H Q h => by
  obtain ⟨μ, cs, rel, o⟩ := h
  refine ⟨μ, cs, rel, (Out.bind o).mono fun x cs1 μ1 H1 _ k1 h1 v hv => ?_⟩
  cases x with
  | pv p =>
    cases p with
    | bl b =>
      cases hv
      refine ⟨b, rfl, ?_⟩
      cases b with
      | true => exact iteT (tOf_tail k1 h1)
      | false => exact iteF (h1 μ1 H1 k1 _ (.bl _))
    | _ => exact h1.elim
  | _ => exact h1.elim
theorem se_or (ha : SE X g W a ma) (hb : SE X g W (.BoolOp .Or (b :: rest) pos) mb) : SE X g W (.BoolOp .Or (a :: b :: rest) pos) (eOr ma mb) := PE.mono (pe_or ha hb) fun σ H Q h => by
  obtain ⟨μ, cs, rel, o⟩ := h
  refine ⟨μ, cs, rel, (Out.bind o).mono fun x cs1 μ1 H1 _ k1 h1 v hv => ?_⟩
  cases x with
  | pv p =>
    cases p with
    | bl b =>
      cases hv
      refine ⟨b, rfl, ?_⟩
      cases b with
      | false => exact iteF (tOf_tail k1 h1)
      | true => exact iteT (h1 μ1 H1 k1 _ (.bl _))
    | _ => exact h1.elim
  | _ => exact h1.elim
theorem se_one {op} (ha : SE X g W a ma) : SE X g W (.BoolOp op [a] pos) ma := pe_one ha
/-- x or y of numbers and None -/
def eOrN (ma mb : CM RV) : CM RV := do
  let x ← ma
  match x with
  | .pv .non => mb
  | .pv (.int i) => if i = 0 then mb else kst (.int i)
  | _ => stuck
theorem se_orN (ha : SE X g W a ma) (hb : SE X g W (.BoolOp .Or (b :: rest) pos) mb) : SE X g W (.BoolOp .Or (a :: b :: rest) pos) (eOrN ma mb) := PE.mono (pe_orT ha hb) fun σ H Q h => by
  obtain ⟨μ, cs, rel, o⟩ := h
  refine ⟨μ, cs, rel, (Out.bind o).mono fun x cs1 μ1 H1 _ k1 h1 v hv => ?_⟩
  cases x with
  | pv p =>
    cases p with
    | non => cases hv; exact ⟨false, rfl, iteF (tOf_tail k1 h1)⟩
    | int i =>
      cases hv
      by_cases z : i = 0
      · simp only [z, if_true] at h1
        exact ⟨false, by simp [TruV, z], iteF (tOf_tail k1 h1)⟩
      · simp only [z, if_false] at h1
        exact ⟨true, by simp [TruV, z], iteT (h1 μ1 H1 k1 _ (.int _))⟩
    | _ => exact h1.elim
  | _ => exact h1.elim

/-! ### tests -/
def tst (m : CM RV) : CM Bool := do
  let x ← m
  match x with
  | .pv (.bl b) => fun cs => .ok b cs
  | _ => stuck
theorem sb_val {e : Expr} {m : CM RV} (h : SE X g W e m) (he : ∀ whole, isTrue e X.env whole = (do let v ← whole; standAt e.pos; holding [v] (truthy v)) := by intro _; rfl) : SB X g W e (tst m) := PT.mono (pt_val h he) fun σ H Q h => by
  obtain ⟨μ, cs, rel, o⟩ := h
  refine ⟨μ, cs, rel, (Out.bind o).mono fun x cs1 μ1 H1 _ k1 h1 v hv => ?_⟩
  cases x with
  | pv p =>
    cases p with
    | bl b => cases hv; exact ⟨b, rfl, h1 μ1 H1 k1⟩
    | _ => exact h1.elim
  | _ => exact h1.elim
def bNot (m : CM Bool) : CM Bool := do
  let b ← m
  fun cs => .ok (!b) cs
def bAnd (ma mb : CM Bool) : CM Bool := do
  let b ← ma
  if b then mb else fun cs => .ok false cs
def bOr (ma mb : CM Bool) : CM Bool := do
  let b ← ma
  if b then fun cs => .ok true cs else mb
theorem tOfB_tail {m : CM Bool} {Q : Bool → Hp → Prop} (k : Fct g M μ H μ1 cs1 σ H1) (h : Out g W M μ H σ (m cs1) fun b cs' μ' H' => Q b H') : tOfB g W m σ H1 Q :=
  ⟨μ1, cs1, k.rel, h.rebase k⟩
variable {ba bb bc : CM Bool}
theorem sb_not (ha : SB X g W a ba) : SB X g W (.UnaryOp .Not a pos) (bNot ba) := PT.mono (pt_not ha) fun σ H Q h => by
  obtain ⟨μ, cs, rel, o⟩ := h
  exact ⟨μ, cs, rel, (Out.bind o).mono fun x cs1 μ1 H1 _ k1 h1 => h1 μ1 H1 k1⟩
theorem sb_and1 (ha : SB X g W a ba) : SBW X g W (.BoolOp .And [a] pos) ba := pw_and1 ha
theorem sb_or1 (ha : SB X g W a ba) : SBW X g W (.BoolOp .Or [a] pos) ba := pw_or1 ha
theorem sb_and (ha : SB X g W a ba) (hb : SBW X g W (.BoolOp .And (b :: rest) pos) bb) : SBW X g W (.BoolOp .And (a :: b :: rest) pos) (bAnd ba bb) := PW.mono (pw_and ha hb) fun σ H Q h => by
  obtain ⟨μ, cs, rel, o⟩ := h
  refine ⟨μ, cs, rel, (Out.bind o).mono fun x cs1 μ1 H1 _ k1 h1 => ?_⟩
  cases x with
  | true => exact iteT (tOfB_tail k1 h1)
  | false => exact iteF (h1 μ1 H1 k1)
theorem sb_or (ha : SB X g W a ba) (hb : SBW X g W (.BoolOp .Or (b :: rest) pos) bb) : SBW X g W (.BoolOp .Or (a :: b :: rest) pos) (bOr ba bb) := PW.mono (pw_or ha hb) fun σ H Q h => by
  obtain ⟨μ, cs, rel, o⟩ := h
  refine ⟨μ, cs, rel, (Out.bind o).mono fun x cs1 μ1 H1 _ k1 h1 => ?_⟩
  cases x with
  | true => exact iteT (h1 μ1 H1 k1)
  | false => exact iteF (tOfB_tail k1 h1)
theorem sb_w (h : SBW X g W a ba) : SB X g W a ba := PW.pt h
def eIf (t : CM Bool) (ma mb : CM RV) : CM RV := do
  let b ← t
  if b then ma else mb
theorem se_if (hc : SB X g W c bc) (ha : SE X g W a ma) (hb : SE X g W b mb) : SE X g W (.IfExp c a b pos) (eIf bc ma mb) := PE.mono (pe_ifExp hc ha hb) fun σ H Q h => by
  obtain ⟨μ, cs, rel, o⟩ := h
  refine ⟨μ, cs, rel, (Out.bind o).mono fun x cs1 μ1 H1 _ k1 h1 => ?_⟩
  cases x with
  | true => exact iteT (tOf_tail k1 h1)
  | false => exact iteF (tOf_tail k1 h1)

/-! ### places: lists, tuples, texts -/
def atP (xs : List PV) (i : Int) : Option PV := if 0 ≤ i then xs[i.toNat]? else if 0 ≤ i + xs.length then xs[(i + xs.length).toNat]? else none
end
end CL

/-! CL6: places of lists, tuples, texts; slices; fields of instances. -/
namespace CL
open PySem L2 PyProof.Rows
variable {g : G} {W : WX} {M : Addr → Prop} {μ μ' μ1 μ2 : List Addr} {H H' H0 H1 H2 : Hp} {σ : L2.St} {cs cs' cs1 cs2 : CSt} {X : Cx}

/-! ### xs[i] -/
theorem atI_rel {ps : List PV} {vs : List V} {i : Int} {p : PV} (r : PVsRel g μ H ps vs) (h : atI ps i = some p) : ∃ v, atI vs i = some v ∧ PVRel g μ H p v := by
  unfold atI at h ⊢
  rw [← r.length]
  cases e : ixN ps.length i with
  | none => rw [e] at h; cases h
  | some j =>
    rw [e] at h
    exact r.get h
/-- a list's, a tuple's place -/
def opIx (x y : RV) : CM RV := fun cs => match y with
  | .pv (.int i) => match listC cs x with
    | some xs => match atI xs i with
      | some p => .ok (.pv p) cs
      | none => .stuck
    | none => match valC cs x with
      | some (.tup xs) => match atI xs i with
        | some p => .ok (.pv p) cs
        | none => .stuck
      | some (.str z) => if z.length ≤ 16777216 then match atI z.cps.toList i with
        | some c => .ok (.pv (.str ⟨#[c]⟩)) cs
        | none => .stuck
        else .stuck
      | _ => .stuck
  | _ => .stuck
theorem ixR_or {r r' : R2} (h : IxR X r) (h' : IxR X r') : IxR X fun x y H Q => r x y H Q ∨ r' x y H Q := fun value slice pins s σ H x y v u Q I rx ry q e => by
  rcases q with q | q
  · exact h value slice pins s σ H x y v u Q I rx ry q e
  · exact h' value slice pins s σ H x y v u Q I rx ry q e
def rIxA (K : PySem.W.Frag) : R2 := fun x y H Q => rIxL K x y H Q ∨ rIxT K x y H Q ∨ rIxS x y H Q
theorem ix_all : IxR X (rIxA X.K) := ixR_or ix_list (ixR_or ix_tup ix_str)
theorem pr_ix : Pr2 g (rIxA g.K) opIx := fun W M μ H σ cs2 μ2 H2 x y v u Q k hx hy o => by
  unfold opIx at o
  split at o
  · rename_i i
    cases hy
    split at o
    · rename_i xs ea
      obtain ⟨a, vs, rfl, h1, h2⟩ := listC_rel k.rel hx ea
      split at o
      · rename_i p ep
        obtain ⟨w, e, r⟩ := atI_rel h2 ep
        exact .inl ⟨a, vs, _, w, rfl, rfl, .inl h1, e, o μ2 H2 k _ r⟩
      · exact o.elim
    · split at o
      · rename_i xs ea
        obtain ⟨a, vs, rfl, h1, h2⟩ := tup_inv (valC_rel k.rel hx ea)
        split at o
        · rename_i p ep
          obtain ⟨w, e, r⟩ := atI_rel h2 ep
          exact .inr (.inl ⟨a, vs, _, w, rfl, rfl, h1, e, o μ2 H2 k _ r⟩)
        · exact o.elim
      · rename_i z ea
        have q := valC_rel k.rel hx ea
        cases q
        split at o
        · rename_i hz
          split at o
          · rename_i c ec
            exact .inr (.inr ⟨z, _, c, rfl, rfl, hz, ec, o μ2 H2 k _ (.str _)⟩)
          · exact o.elim
        · exact o.elim
      · exact o.elim
  · exact o.elim
section
variable {a b c : Expr} {ma mb mc : CM RV} {pos : Pos}
theorem se_sub1 (hg : g.K = X.K) (ha : SE X g W a ma) (hb : SE X g W b mb) (hp : PlainIx b := by exact fun _ _ => rfl) : SE X g W (.Subscript a b pos) (e2 opIx ma mb) := se_ix ix_all (hg ▸ pr_ix) ha hb hp

/-! ### slices -/
def tOfO (g : G) (W : WX) (m : CM (Option Int)) : TO := fun σ H Q => ∃ μ cs, Rel g μ cs σ H ∧
  Out g W (Md μ cs.sl σ) μ H σ (m cs) fun o cs' μ' H' => Q o H'
theorem PO.mono {e : Option Expr} {t t' : TO} (h : PO X e t) (f : ∀ σ H Q, t' σ H Q → t σ H Q) : PO X e t' := ⟨fun pins s σ H Q I q => h.run pins s σ H Q I (f σ H Q q)⟩
abbrev SO (X : Cx) (g : G) (W : WX) (e : Option Expr) (m : CM (Option Int)) : Prop := PO X e (tOfO g W m)
def oNone : CM (Option Int) := fun cs => .ok none cs
def oSome (m : CM RV) : CM (Option Int) := do
  let x ← m
  match x with
  | .pv (.int i) => fun cs => .ok (some i) cs
  | _ => stuck
theorem so_none : SO X g W none oNone := PO.mono po_none fun σ H Q h => by
  obtain ⟨μ, cs, rel, o⟩ := h
  exact o μ H (Fct.refl rel)
theorem so_some (ha : SE X g W a ma) : SO X g W (some a) (oSome ma) := PO.mono (po_some ha) fun σ H Q h => by
  obtain ⟨μ, cs, rel, o⟩ := h
  refine ⟨μ, cs, rel, (Out.bind o).mono fun x cs1 μ1 H1 _ k1 h1 v hv => ?_⟩
  cases x with
  | pv p =>
    cases p with
    | int i => cases hv; exact ⟨i, rfl, h1 μ1 H1 k1⟩
    | _ => exact h1.elim
  | _ => exact h1.elim
def cutP (xs : List PV) (lo hi : Option Int) : List PV := (xs.drop (HT.sIx xs.length 0 lo)).take (HT.sIx xs.length xs.length hi - HT.sIx xs.length 0 lo)
theorem cut_rel {ps : List PV} {vs : List V} (r : PVsRel g μ H ps vs) (lo hi : Option Int) : PVsRel g μ H (cutP ps lo hi) (cutV vs lo hi) := by
  unfold cutP cutV
  rw [r.length]
  exact (r.drop _).take _
def opSl (x : RV) (lo hi : Option Int) : CM RV := fun cs => match listC cs x with
  | some xs => .ok (.own (.list (cutP xs lo hi))) cs
  | none => match valC cs x with
    | some (.tup xs) => .ok (.pv (.tup (cutP xs lo hi))) cs
    | some (.str z) => if z.length ≤ 16777216 then .ok (.pv (.str (cutS z lo hi))) cs else .stuck
    | _ => .stuck
def eSl (m : CM RV) (l h : CM (Option Int)) : CM RV := do
  let x ← m
  let lo ← l
  let hi ← h
  opSl x lo hi
def rSlAll (K : PySem.W.Frag) : V → Option Int → Option Int → Hp → VK → Prop := fun x lo hi H Q => rSlL K x lo hi H Q ∨ rSlA K x lo hi H Q ∨ rSlS x lo hi H Q
theorem slR_or {r r' : V → Option Int → Option Int → Hp → VK → Prop} (h : SlR X r) (h' : SlR X r') : SlR X fun x lo hi H Q => r x lo hi H Q ∨ r' x lo hi H Q := by
  intro pins s σ H x v vl vu lo hi sl Q I rx hs pl pu q
  rcases q with q | q
  · exact h pins s σ H x v vl vu lo hi sl Q I rx hs pl pu q
  · exact h' pins s σ H x v vl vu lo hi sl Q I rx hs pl pu q
theorem sl_all : SlR X (rSlAll X.K) := slR_or sl_list (slR_or sl_tupA sl_str)
theorem se_sl {l h : Option Expr} {ml mh : CM (Option Int)} {p2 : Pos} (hg : g.K = X.K) (ha : SE X g W a ma) (hl : SO X g W l ml) (hh : SO X g W h mh) : SE X g W (.Subscript a (.Slice l h none p2) pos) (eSl ma ml mh) := PE.mono (pe_slice sl_all ha hl hh) fun σ H Q q => by
  obtain ⟨μ, cs, rel, o⟩ := q
  refine ⟨μ, cs, rel, (Out.bind o).mono fun x cs1 μ1 H1 _ k1 h1 v hv => ⟨μ1, cs1, k1.rel, ((Out.bind h1).rebase k1).mono fun lo cs2 μ2 H2 _ k2 h2 => ⟨μ2, cs2, k2.rel, ((Out.bind h2).rebase (k1.trans k2)).mono fun hi cs3 μ3 H3 _ k3 h3 => ?_⟩⟩⟩
  have k := (k1.trans k2).trans k3
  have hx := (hv.step k1.rel k2).step k2.rel k3
  unfold opSl at h3
  split at h3
  · rename_i xs ea
    obtain ⟨b, vs, rfl, z1, z2⟩ := listC_rel k.rel hx ea
    refine .inl ⟨b, vs, rfl, .inl z1, fun p hp => ?_⟩
    exact h3 μ3 _ (k.fresh hp) _ (RVRel.new k hp ⟨_, upd_same, (cut_rel z2 lo hi).stays (stays_fresh hp)⟩)
  · split at h3
    · rename_i xs ea
      have hv' := valC_rel k.rel hx ea
      obtain ⟨b, vs, rfl, z1, z2⟩ := tup_inv hv'
      refine .inr (.inl ⟨b, vs, rfl, hg ▸ z1, fun hw => ?_, fun _ p hp => ?_⟩)
      · have e : cutP xs lo hi = xs := by
          unfold cutP
          rw [z2.length, hw.1, hw.2, List.drop_zero, Nat.sub_zero, ← z2.length, List.take_length]
        rw [e] at h3
        exact h3 μ3 H3 k _ hv'
      · exact h3 μ3 _ (k.fresh hp) _ (.tup (.of upd_same) ((cut_rel z2 lo hi).stays (stays_fresh hp)))
    · rename_i z ea
      have q := valC_rel k.rel hx ea
      cases q
      split at h3
      · rename_i hz
        exact .inr (.inr ⟨z, rfl, hz, h3 μ3 H3 k _ (.str _)⟩)
      · exact h3.elim
    · exact h3.elim

/-! ### fields -/
def opFld (cls : Nat) (f : Str) (x : RV) : CM RV := fun cs => match valC cs x with
  | some (.loc l) => match cs.h[l]? with
    | some (.inst c fs) => if c = cls then match fs.lookup f with
      | some p => .ok (.pv p) cs
      | none => .stuck
      else .stuck
    | _ => .stuck
  | _ => .stuck
theorem fld_look {fs : List (Str × PV)} {fv : List (Str × V)} (r : FldRel g μ H fs fv) {f : Str} {p : PV} (h : fs.lookup f = some p) : ∃ v, fv.lookup f = some v ∧ PVRel g μ H p v := by
  induction r with
  | nil => cases h
  | @cons a b as bs q t ih =>
    obtain ⟨k, p'⟩ := a
    obtain ⟨k', v'⟩ := b
    obtain ⟨e, r⟩ := q
    simp only at e r
    subst e
    simp only [List.lookup_cons] at h ⊢
    cases z : f == k with
    | true => rw [z] at h; cases h; exact ⟨v', rfl, r⟩
    | false => rw [z] at h; exact ih h
theorem se_fld {cls : Nat} {f : Str} (cl : Cls X.K (g.ct cls)) (na : NoAttr X.K (g.ct cls) f) (ha : SE X g W a ma) (hb : attributeBase a f X.env (eval a X.env) = eval a X.env := by rfl) : SE X g W (.Attribute a f pos) (e1 (opFld cls f) ma) := PE.mono (pe_fld ha hb) fun σ H Q h => by
  obtain ⟨μ, cs, rel, o⟩ := h
  refine ⟨μ, cs, rel, (Out.bind o).mono fun x cs1 μ1 H1 _ k1 h1 v hv => ?_⟩
  unfold opFld at h1
  split at h1
  · rename_i l el
    split at h1
    · rename_i c fs ef
      split at h1
      · rename_i ec
        subst ec
        split at h1
        · rename_i p ep
          obtain ⟨b, rfl, _, dx, fv, e1, e2⟩ := locRel k1.rel (valC_rel k1.rel hv el) ef
          obtain ⟨w, e3, r⟩ := fld_look e2 ep
          exact ⟨b, _, dx, fv, w, rfl, e1, cl, na, e3, h1 μ1 H1 k1 _ r⟩
        · exact h1.elim
      · exact h1.elim
    · exact h1.elim
  · exact h1.elim
end
end CL

/-! CL7: statements. -/
namespace CL
open PySem L2 PyProof.Rows
variable {g : G} {W : WX} {M : Addr → Prop} {μ μ' μ1 μ2 : List Addr} {H H' H0 H1 H2 : Hp} {σ σ1 σ2 : L2.St} {cs cs' cs1 cs2 : CSt} {X : Cx}

inductive Fl where
  | nx | rt (r : RV)
def OutS (g : G) (W : WX) (M : Addr → Prop) (μ : List Addr) (H : Hp) (r : CRes Fl) (D : Ends) : Prop := match r with
  | .ok .nx cs' => ∀ μ' σ' H', Fct g M μ H μ' cs' σ' H' → D.nx σ' H'
  | .ok (.rt rv) cs' => ∀ μ' σ' H' v, Fct g M μ H μ' cs' σ' H' → RVRel g M H μ' cs' σ' H' rv v → D.rt v H'
  | .exc x cs' => ∀ μ' σ' H' cls d, Fct g M μ H μ' cs' σ' H' → ExcRel g μ' H' x cls d → W cls d σ' H'
  | .stuck => False
theorem Fct.trans' (a : Fct g M μ H μ1 cs1 σ1 H1) (b : Fct g (Md μ1 cs1.sl σ1) μ1 H1 μ2 cs2 σ2 H2) : Fct g M μ H μ2 cs2 σ2 H2 :=
  ⟨b.rel, a.keep.trans b.keep, fun l c h => b.ext l c (a.ext l c h)⟩
theorem RVRel.base' {M' : Addr → Prop} {r : RV} {v : V} (h : RVRel g M' H1 μ2 cs2 σ2 H2 r v) (k : Keep M M' H0 H1) : RVRel g M H0 μ2 cs2 σ2 H2 r v := h.base k
theorem OutS.rebase {r : CRes Fl} {D : Ends} (h : OutS g W M μ H r D) (k : Fct g M μ H μ1 cs1 σ1 H1) : OutS g W (Md μ1 cs1.sl σ1) μ1 H1 r D := by
  cases r with
  | ok a cs' =>
    cases a with
    | nx => exact fun μ' σ' H' q => h μ' σ' H' (k.trans' q)
    | rt rv => exact fun μ' σ' H' v q rv => h μ' σ' H' v (k.trans' q) (rv.base' k.keep)
  | exc x cs' => exact fun μ' σ' H' cls d q => h μ' σ' H' cls d (k.trans' q)
  | stuck => exact h
/-- an expression, then what a statement does with it -/
theorem OutS.bindE {α : Type} {m : CM α} {f : α → CM Fl} {D : Ends} (h : OutS g W M μ H ((m >>= f) cs) D) : Out g W M μ H σ (m cs) fun a cs1 μ1 H1 => OutS g W M μ H (f a cs1) D := by
  rw [bind_def] at h
  cases e : m cs with
  | ok a cs' => rw [e] at h; exact fun μ' H' k => h
  | exc x cs' => rw [e] at h; exact fun μ' H' cls d k => h μ' σ H' cls d k
  | stuck => rw [e] at h; exact h
def tOfS (g : G) (W : WX) (m : CM Fl) : TS := fun D σ H => ∃ μ cs, Rel g μ cs σ H ∧ OutS g W (Md μ cs.sl σ) μ H (m cs) D
theorem PS.mono {st : Stmt} {t t' : TS} (h : PS X st t) (f : ∀ D σ H, t' D σ H → t D σ H) : PS X st t' := ⟨fun pins s σ H D I q => h.run pins s σ H D I (f D σ H q)⟩
theorem PSs.mono {st : List Stmt} {t t' : TS} (h : PSs X st t) (f : ∀ D σ H, t' D σ H → t D σ H) : PSs X st t' := ⟨fun pins s σ H D I q => h.run pins s σ H D I (f D σ H q)⟩
theorem PG.mono {e : Expr} {t t' : TG} (h : PG X e t) (f : ∀ v σ H Q, t' v σ H Q → t v σ H Q) : PG X e t' := ⟨fun pins s σ H v u Q I r q => h.run pins s σ H v u Q I r (f v σ H Q q)⟩
abbrev SS (X : Cx) (g : G) (W : WX) (st : Stmt) (m : CM Fl) : Prop := PS X st (tOfS g W m)
abbrev SSs (X : Cx) (g : G) (W : WX) (st : List Stmt) (m : CM Fl) : Prop := PSs X st (tOfS g W m)
/-- the same, where the end's base is given -/
theorem tOfS_tail {m : CM Fl} {D : Ends} (k : Fct g M μ H μ1 cs1 σ1 H1) (h : OutS g W M μ H (m cs1) D) : tOfS g W m D σ1 H1 := ⟨μ1, cs1, k.rel, h.rebase k⟩

/-! ### blocks -/
def sNil : CM Fl := fun cs => .ok .nx cs
def sSeq (a b : CM Fl) : CM Fl := do
  let f ← a
  match f with
  | .nx => b
  | .rt r => fun cs => .ok (.rt r) cs
theorem ss_nil : SSs X g W [] sNil := PSs.mono pss_nil fun D σ H h => by
  obtain ⟨μ, cs, rel, o⟩ := h
  exact o μ σ H (Fct.refl rel)
theorem ss_cons {st : Stmt} {rest : List Stmt} {a b : CM Fl} (ha : SS X g W st a) (hb : SSs X g W rest b) : SSs X g W (st :: rest) (sSeq a b) := PSs.mono (pss_cons ha hb) fun D σ H h => by
  obtain ⟨μ, cs, rel, o⟩ := h
  refine ⟨μ, cs, rel, ?_⟩
  unfold sSeq at o
  rw [bind_def] at o
  cases e : a cs with
  | ok f cs1 =>
    rw [e] at o
    cases f with
    | nx => exact fun μ1 σ1 H1 k => tOfS_tail k o
    | rt r => exact fun μ1 σ1 H1 v k rv => o μ1 σ1 H1 v k rv
  | exc x cs1 => rw [e] at o; exact o
  | stuck => rw [e] at o; exact o
theorem ss_one {st : Stmt} {a : CM Fl} (ha : SS X g W st a) : SSs X g W [st] a := pss_one ha

/-! ### simple statements -/
def sExpr (m : CM RV) : CM Fl := do
  let _ ← m
  fun cs => .ok .nx cs
def sRet (m : CM RV) : CM Fl := do
  let r ← m
  fun cs => .ok (.rt r) cs
def sRetN : CM Fl := fun cs => .ok (.rt (.pv .non)) cs
section
variable {e : Expr} {m : CM RV} {pos : Pos}
theorem ss_expr (he : SE X g W e m) (hs : swapsWith e none pos.line X.env = pure false := by rfl) : SS X g W (.Expr e pos) (sExpr m) := PS.mono (ps_expr he hs) fun D σ H h => by
  obtain ⟨μ, cs, rel, o⟩ := h
  exact ⟨μ, cs, rel, (OutS.bindE o).mono fun x cs1 μ1 H1 _ k h1 v _ => h1 μ1 σ H1 k⟩
theorem ss_ret (he : SE X g W e m) : SS X g W (.Return (some e) pos) (sRet m) := PS.mono (ps_ret he) fun D σ H h => by
  obtain ⟨μ, cs, rel, o⟩ := h
  exact ⟨μ, cs, rel, (OutS.bindE o).mono fun x cs1 μ1 H1 _ k h1 v hv => h1 μ1 σ H1 v k hv⟩
theorem ss_retN : SS X g W (.Return none pos) sRetN := PS.mono ps_retN fun D σ H h => by
  obtain ⟨μ, cs, rel, o⟩ := h
  exact o μ σ H _ (Fct.refl rel) .non
theorem ss_pass : SS X g W (.Pass pos) sNil := PS.mono ps_pass fun D σ H h => by
  obtain ⟨μ, cs, rel, o⟩ := h
  exact o μ σ H (Fct.refl rel)
def sIf (c : CM Bool) (a b : CM Fl) : CM Fl := do
  let x ← c
  if x then a else b
theorem ss_if {c : Expr} {sa sb : List Stmt} {mc : CM Bool} {ma mb : CM Fl} (hc : SB X g W c mc) (ha : SSs X g W sa ma) (hb : SSs X g W sb mb) : SS X g W (.If c sa sb pos) (sIf mc ma mb) := PS.mono (ps_if hc ha hb) fun D σ H h => by
  obtain ⟨μ, cs, rel, o⟩ := h
  refine ⟨μ, cs, rel, (OutS.bindE o).mono fun x cs1 μ1 H1 _ k h1 => ?_⟩
  cases x with
  | true => exact iteT (tOfS_tail k h1)
  | false => exact iteF (tOfS_tail k h1)
end

/-! ### targets -/
/-- Q: of slots and heap -/
def OutG (g : G) (W : WX) (M : Addr → Prop) (μ : List Addr) (H : Hp) {α : Type} (r : CRes α) (R : α → CSt → List Addr → L2.St → Hp → Prop) : Prop := match r with
  | .ok a cs' => ∀ μ' σ' H', Fct g M μ H μ' cs' σ' H' → R a cs' μ' σ' H'
  | .exc x cs' => ∀ μ' σ' H' cls d, Fct g M μ H μ' cs' σ' H' → ExcRel g μ' H' x cls d → W cls d σ' H'
  | .stuck => False
theorem OutG.rebase {α : Type} {r : CRes α} {R : α → CSt → List Addr → L2.St → Hp → Prop} (h : OutG g W M μ H r R) (k : Fct g M μ H μ1 cs1 σ1 H1) : OutG g W (Md μ1 cs1.sl σ1) μ1 H1 r R := by
  cases r with
  | ok a cs' => exact fun μ' σ' H' q => h μ' σ' H' (k.trans' q)
  | exc x cs' => exact fun μ' σ' H' cls d q => h μ' σ' H' cls d (k.trans' q)
  | stuck => exact h
theorem OutG.bind {α β : Type} {m : CM α} {f : α → CM β} {R : β → CSt → List Addr → L2.St → Hp → Prop} (h : OutG g W M μ H ((m >>= f) cs) R) : OutG g W M μ H (m cs) fun a cs1 μ1 σ1 H1 => OutG g W M μ H (f a cs1) R := by
  rw [bind_def] at h
  cases e : m cs with
  | ok a cs' => rw [e] at h; exact fun _ _ _ _ => h
  | exc x cs' => rw [e] at h; exact h
  | stuck => rw [e] at h; exact h
theorem OutG.bindE {α β : Type} {m : CM α} {f : α → CM β} {R : β → CSt → List Addr → L2.St → Hp → Prop} (h : OutG g W M μ H ((m >>= f) cs) R) : Out g W M μ H σ (m cs) fun a cs1 μ1 H1 => OutG g W M μ H (f a cs1) R := by
  rw [bind_def] at h
  cases e : m cs with
  | ok a cs' => rw [e] at h; exact fun _ _ _ => h
  | exc x cs' => rw [e] at h; exact fun μ' H' cls d k => h μ' σ H' cls d k
  | stuck => rw [e] at h; exact h
theorem OutG.mono {α : Type} {r : CRes α} {R R' : α → CSt → List Addr → L2.St → Hp → Prop} (h : OutG g W M μ H r R) (f : ∀ a cs' μ' σ' H', r = .ok a cs' → Fct g M μ H μ' cs' σ' H' → R a cs' μ' σ' H' → R' a cs' μ' σ' H') : OutG g W M μ H r R' := by
  cases r with
  | ok a cs' => exact fun μ' σ' H' k => f a cs' μ' σ' H' rfl k (h μ' σ' H' k)
  | exc x cs' => exact h
  | stuck => exact h
/-- σ' is σ but for the slots ts -/
structure Off (ts : List Nat) (σ σ' : L2.St) : Prop where
  len : σ'.length = σ.length
  at_ : ∀ i, i ∉ ts → σ'[i]? = σ[i]?
theorem Off.refl {ts : List Nat} : Off ts σ σ := ⟨rfl, fun _ _ => rfl⟩
theorem Off.app {ts us : List Nat} (a : Off ts σ σ1) (b : Off us σ1 σ2) : Off (ts ++ us) σ σ2 :=
  ⟨b.len.trans a.len, fun i h => (b.at_ i fun z => h (List.mem_append_right _ z)).trans (a.at_ i fun z => h (List.mem_append_left _ z))⟩
def tOfG (g : G) (W : WX) (ts : List Nat) (m : PV → CM Unit) : TG := fun v σ H Q => ∃ μ cs p, Rel g μ cs σ H ∧ PVRel g μ H p v ∧ OutG g W (Md μ cs.sl σ) μ H (m p cs) fun _ cs' μ' σ' H' => Off ts σ σ' → Q σ' H'
def tOfGs (g : G) (W : WX) (ts : List Nat) (m : List PV → CM Unit) : TGs := fun vs σ H Q => ∃ μ cs ps, Rel g μ cs σ H ∧ PVsRel g μ H ps vs ∧ OutG g W (Md μ cs.sl σ) μ H (m ps cs) fun _ cs' μ' σ' H' => Off ts σ σ' → Q σ' H'
abbrev SG (X : Cx) (g : G) (W : WX) (ts : List Nat) (e : Expr) (m : PV → CM Unit) : Prop := PG X e (tOfG g W ts m)
theorem PGs.mono {es : List Expr} {t t' : TGs} (h : PGs X es t) (f : ∀ v σ H Q, t' v σ H Q → t v σ H Q) : PGs X es t' := ⟨fun pins s σ H v u Q I r q => h.run pins s σ H v u Q I r (f v σ H Q q)⟩
abbrev SGs (X : Cx) (g : G) (W : WX) (ts : List Nat) (es : List Expr) (m : List PV → CM Unit) : Prop := PGs X es (tOfGs g W ts m)
/-- a slot is set -/
def setSl (i : Nat) (s : SV) : CM Unit := fun cs => .ok () { cs with sl := cs.sl.set i s }
theorem md_set {i : Nat} {s : SV} {v : V} {b : Addr} (h : Md μ (cs.sl.set i s) (σ.set i (some v)) b) : Md μ cs.sl σ b ∨ ((∃ c, s = .own c) ∧ v = .ref b) := by
  rcases h with h | ⟨j, c, h1, h2⟩
  · exact .inl (.inl h)
  · by_cases z : i = j
    · subst z
      rw [List.getElem?_set] at h1 h2
      simp only [if_true] at h1 h2
      split at h1
      · split at h2
        · cases h1; cases h2; exact .inr ⟨⟨_, rfl⟩, rfl⟩
        · cases h2
      · cases h1
    · rw [List.getElem?_set_ne z] at h1 h2
      exact .inl (.inr ⟨j, c, h1, h2⟩)
theorem Rel.setSlot (r : Rel g μ cs σ H) {i : Nat} {s : SV} {v : V} (q : SVRel g μ H s (some v)) (n : ∀ c a, s = .own c → v = .ref a → ¬ Md μ cs.sl σ a) : Rel g μ { cs with sl := cs.sl.set i s } (σ.set i (some v)) H := by
  refine ⟨r.hp, by rw [List.length_set, List.length_set]; exact r.len, fun j t w h1 h2 => ?_, fun j k c d a h1 h2 h3 h4 => ?_⟩
  · by_cases z : i = j
    · subst z
      rw [List.getElem?_set] at h1 h2
      simp only [if_true] at h1 h2
      split at h1
      · split at h2
        · cases h1; cases h2; exact q
        · cases h2
      · cases h1
    · rw [List.getElem?_set_ne z] at h1 h2
      exact r.sl j t w h1 h2
  · by_cases z : i = j
    · by_cases y : i = k
      · rw [← z, ← y]
      · subst z
        rw [List.getElem?_set] at h1 h3
        simp only [if_true] at h1 h3
        rw [List.getElem?_set_ne y] at h2 h4
        split at h1
        · split at h3
          · cases h1; cases h3
            exact absurd (.inr ⟨k, d, h2, h4⟩) (n c a rfl rfl)
          · cases h3
        · cases h1
    · by_cases y : i = k
      · subst y
        rw [List.getElem?_set] at h2 h4
        simp only [if_true] at h2 h4
        rw [List.getElem?_set_ne z] at h1 h3
        split at h2
        · split at h4
          · cases h2; cases h4
            exact absurd (.inr ⟨j, c, h1, h3⟩) (n d a rfl rfl)
          · cases h4
        · cases h2
      · rw [List.getElem?_set_ne z] at h1 h3
        rw [List.getElem?_set_ne y] at h2 h4
        exact r.ap j k c d a h1 h2 h3 h4
theorem fct_set {i : Nat} {p : PV} {v : V} (r : Rel g μ cs σ H) (q : PVRel g μ H p v) : Fct g (Md μ cs.sl σ) μ H μ { cs with sl := cs.sl.set i (.pv p) } (σ.set i (some v)) H :=
  ⟨r.setSlot ⟨v, rfl, q⟩ (fun c a z => by cases z), ⟨fun a o h _ => h, fun a h => by
    rcases md_set h with z | ⟨⟨c, z⟩, _⟩
    · exact .inl z
    · cases z⟩, fun _ _ h => h⟩
def gNm (i : Nat) (p : PV) : CM Unit := setSl i (.pv p)
theorem sg_name {i : Nat} {x : Str} {pos : Pos} (hN : X.N.Nodup) (hi : X.N[i]? = some x := by rfl) (hx : L2.Loc X.env.scope x := by first | exact Or.inl rfl | exact Or.inr rfl) (hf : X.fn x = true ∨ X.env.scope.names.lookup x = some .local := by first | exact .inl rfl | exact .inr rfl) :
    SG X g W [i] (.Name x pos) (gNm i) := PG.mono (pg_name hN hi hx hf) fun v σ H Q h => by
  obtain ⟨μ, cs, p, rel, q, o⟩ := h
  exact o μ _ H (fct_set rel q) ⟨by simp, fun j h => List.getElem?_set_ne (fun z => h (by simp [z]))⟩
def gsNil : List PV → CM Unit
  | [] => fun cs => .ok () cs
  | _ => stuck
def gsCons (a : PV → CM Unit) (r : List PV → CM Unit) : List PV → CM Unit
  | p :: ps => do
    a p
    r ps
  | [] => stuck
theorem sg_nil : SGs X g W [] [] gsNil := PGs.mono pgs_nil fun v σ H Q h => by
  obtain ⟨μ, cs, p, rel, q, o⟩ := h
  cases q with
  | nil => exact ⟨rfl, o μ σ H (Fct.refl rel) .refl⟩
  | cons _ _ => exact o.elim
theorem sg_cons {ts us : List Nat} {e : Expr} {es : List Expr} {a : PV → CM Unit} {r : List PV → CM Unit} (ha : SG X g W ts e a) (hr : SGs X g W us es r) (hs : (assignEach (e :: es) X.env).map (·.2) = assign e X.env :: (assignEach es X.env).map (·.2) := by rfl) : SGs X g W (ts ++ us) (e :: es) (gsCons a r) :=
  PGs.mono (pgs_cons ha hr hs) fun v σ H Q h => by
    obtain ⟨μ, cs, p, rel, q, o⟩ := h
    cases q with
    | nil => exact o.elim
    | @cons p ps v vs q qs =>
      refine ⟨v, vs, rfl, μ, cs, p, rel, q, (OutG.bind o).mono fun _ cs1 μ1 σ1 H1 _ k h1 o1 => ⟨μ1, cs1, ps, k.rel, qs.stays (rel.stays k.keep k.ext), (h1.rebase k).mono fun _ cs2 μ2 σ2 H2 _ _ h2 o2 => h2 (o1.app o2)⟩⟩
/-- a, b = .. -/
def gTp (n : Nat) (r : List PV → CM Unit) : PV → CM Unit
  | .tup ps => if ps.length = n then r ps else stuck
  | _ => stuck
theorem sg_tup {ts : List Nat} {es : List Expr} {r : List PV → CM Unit} {n k : Nat} {pos : Pos} (hg : g.K = X.K) (hc : X.calm = true) (h : SGs X g W ts es r) (hn : (assignEach es X.env).length = n := by rfl) (hs : (assignEach es X.env).findIdx? (·.1) = none := by rfl) :
    SG X g W ts (.Tuple es k pos) (gTp n r) := PG.mono (pg_tup hc h hn hs) fun v σ H Q h => by
  obtain ⟨μ, cs, p, rel, q, o⟩ := h
  cases p with
  | tup ps =>
    obtain ⟨a, vs, rfl, h1, h2⟩ := tup_inv q
    simp only [gTp] at o
    split at o
    · rename_i z
      exact ⟨a, vs, rfl, hg ▸ h1, by rw [← h2.length]; exact z, μ, cs, ps, rel, h2, o⟩
    · exact o.elim
  | _ => exact o.elim

/-! ### assignments -/
def sAsg (m : CM PV) (t : PV → CM Unit) : CM Fl := do
  let p ← m
  t p
  fun cs => .ok .nx cs
theorem OutS.toG {m : CM Unit} {D : Ends} (h : OutS g W M μ H ((m >>= fun _ => (fun cs => .ok .nx cs : CM Fl)) cs) D) : OutG g W M μ H (m cs) fun _ cs' μ' σ' H' => D.nx σ' H' := by
  rw [bind_def] at h
  cases e : m cs with
  | ok a cs' => rw [e] at h; exact h
  | exc x cs' => rw [e] at h; exact h
  | stuck => rw [e] at h; exact h
section
variable {e tg : Expr} {m : CM RV} {mp : CM PV} {t : PV → CM Unit} {pos : Pos}
theorem ss_asg {ts : List Nat} (he : SPv X g W e mp) (ht : SG X g W ts tg t) (hs : swapsWithSole [tg] e pos.line X.env = pure false := by rfl) (hw : swappedStores [tg] e X.env = pure none := by rfl) (hx : (assignEach [tg] X.env).map (·.2) = [assign tg X.env] := by rfl) :
    SS X g W (.Assign [tg] e pos) (sAsg mp t) := PS.mono (ps_asg he ht hs hw hx) fun D σ H h => by
  obtain ⟨μ, cs, rel, o⟩ := h
  exact ⟨μ, cs, rel, (OutS.bindE o).mono fun p cs1 μ1 H1 _ k h1 v hv => ⟨μ1, cs1, p, k.rel, hv, ((OutS.toG h1).rebase k).mono fun _ _ _ _ _ _ _ q _ => q⟩⟩
/-- a container of the local's own -/
def sOwn (i : Nat) (m : CM RV) : CM Fl := do
  let r ← m
  match r with
  | .own c => fun cs => .ok .nx { cs with sl := cs.sl.set i (.own c) }
  | .pv p => fun cs => .ok .nx { cs with sl := cs.sl.set i (.pv p) }
  | .als _ => stuck
theorem ss_own {i : Nat} {x : Str} {p' : Pos} (hN : X.N.Nodup) (he : SE X g W e m) (hi : X.N[i]? = some x := by rfl) (hx : L2.Loc X.env.scope x := by first | exact Or.inl rfl | exact Or.inr rfl) (hf : X.fn x = true ∨ X.env.scope.names.lookup x = some .local := by first | exact .inl rfl | exact .inr rfl)
    (hs : swapsWithSole [.Name x p'] e pos.line X.env = pure false := by rfl) (hw : swappedStores [.Name x p'] e X.env = pure none := by rfl) (hx' : (assignEach [.Name x p'] X.env).map (·.2) = [assign (.Name x p') X.env] := by rfl) :
    SS X g W (.Assign [.Name x p'] e pos) (sOwn i m) := PS.mono (ps_asg he (pg_name hN hi hx hf) hs hw hx') fun D σ H h => by
  obtain ⟨μ, cs, rel, o⟩ := h
  refine ⟨μ, cs, rel, (OutS.bindE o).mono fun r cs1 μ1 H1 _ k h1 v hv => ?_⟩
  cases r with
  | pv p => exact h1 μ1 _ H1 (k.trans' (fct_set k.rel hv))
  | own c =>
    obtain ⟨a, rfl, q, nm, av⟩ := hv
    refine h1 μ1 _ H1 ⟨k.rel.setSlot ⟨a, rfl, q, fun z => nm (.inl z)⟩ (fun c' b e1 e2 => by cases e2; exact nm), ⟨k.keep.k1, fun b hb => ?_⟩, k.ext⟩
    rcases md_set hb with z | ⟨_, z⟩
    · exact k.keep.k2 b z
    · cases z; exact av
  | als j => exact h1.elim
end
end CL

/-! CL8: what is walked; for, while; comprehensions. -/
namespace CL
open PySem L2 PyProof.Rows
variable {g : G} {W : WX} {M : Addr → Prop} {μ μ' μ1 μ2 : List Addr} {H H' H0 H1 H2 : Hp} {σ σ1 σ2 : L2.St} {cs cs' cs1 cs2 : CSt} {X : Cx}

/-! ### sources -/
abbrev Src := List PV × (CSt → Bool)
/-- J walks xs while chk holds -/
def SrcOk (g : G) (J : It) (s : Src) (μ : List Addr) (H : Hp) : Prop := ∀ (μ' : List Addr) (cs' : CSt) (σ' : L2.St) (H' : Hp), Stays μ H μ' H' → Rel g μ' cs' σ' H' → s.2 cs' = true →
  (∀ (i : Nat) (p : PV), s.1[i]? = some p → J.go i H' ∧ ∀ (x : V) (H'' : Hp), J.yld i H' x H'' → (H'' = H' ∨ ∃ (T : Addr) (o : HO), H' T = none ∧ H'' = upd H' T o) ∧ PVRel g μ' H'' p x) ∧ J.stop s.1.length H'
def tOfI (g : G) (W : WX) (m : CM Src) : TI := fun σ H R => ∃ μ cs, Rel g μ cs σ H ∧
  Out g W (Md μ cs.sl σ) μ H σ (m cs) fun s cs' μ' H' => ∀ J, SrcOk g J s μ' H' → R J H'
abbrev SI (X : Cx) (g : G) (W : WX) (tg e : Expr) (m : CM Src) : Prop := PI X tg e (tOfI g W m)
theorem PI.mono {tg e : Expr} {w w' : TI} (h : PI X tg e w) (f : ∀ σ H R, w' σ H R → w σ H R) : PI X tg e w' := ⟨fun pins s σ H R I q => h.run pins s σ H R I (f σ H R q)⟩
theorem pi_or {tg e : Expr} {w w' : TI} (h : PI X tg e w) (h' : PI X tg e w') : PI X tg e fun σ H R => w σ H R ∨ w' σ H R := ⟨fun pins s σ H R I q => by
  rcases q with q | q
  · exact h.run pins s σ H R I q
  · exact h'.run pins s σ H R I q⟩
def yes : CSt → Bool := fun _ => true
def signs (z : Str) : List PV := z.cps.toList.map fun c => .str ⟨#[c]⟩
def heapList (cs : CSt) (l : Nat) : Option (List PV) := match cs.h[l]? with
  | some (.cont (.list xs)) => some xs
  | _ => none
def itemsOf (cs : CSt) : PV → Option Src
  | .lst xs => some (xs, yes)
  | .tup xs => some (xs, yes)
  | .str z => some (signs z, yes)
  | .loc l => match heapList cs l with
    | some xs => some (xs, fun cs' => decide (heapList cs' l = some xs))
    | none => none
  | _ => none
def iSeq (m : CM PV) : CM Src := do
  let p ← m
  fun cs => match itemsOf cs p with
    | some s => .ok s cs
    | none => .stuck
theorem src_list {a : Addr} {vs : List V} {xs : List PV} {o : Obj} (h : H a = some (.frz o (.lst vs))) (r : PVsRel g μ H xs vs) : SrcOk g (Itl g.K a) (xs, yes) μ H := fun μ' cs' σ' H' st rel _ => by
  have h' := st.frz _ _ _ h
  have r' := r.stays st
  have sq : SqL g.K H' a vs := .inl (.inr ⟨o, h'⟩)
  refine ⟨fun i p e => ?_, ⟨vs, sq, by rw [r.length]; exact Nat.le_refl _⟩⟩
  obtain ⟨v, ev, rv⟩ := r'.get e
  refine ⟨⟨vs, v, sq, ev⟩, fun x H'' hy => ?_⟩
  obtain ⟨rfl, hx⟩ := hy
  have z := hx vs sq
  rw [ev] at z; cases z
  exact ⟨.inl rfl, rv⟩
theorem src_tup {a : Addr} {vs : List V} {xs : List PV} (h : SqT g.K H a vs) (r : PVsRel g μ H xs vs) : SrcOk g (Itt g.K a) (xs, yes) μ H := fun μ' cs' σ' H' st rel _ => by
  have sq := st.sqT h
  have r' := r.stays st
  refine ⟨fun i p e => ?_, ⟨vs, sq, by rw [r.length]; exact Nat.le_refl _⟩⟩
  obtain ⟨v, ev, rv⟩ := r'.get e
  refine ⟨⟨vs, v, sq, ev⟩, fun x H'' hy => ?_⟩
  obtain ⟨rfl, hx⟩ := hy
  have z := hx vs sq
  rw [ev] at z; cases z
  exact ⟨.inl rfl, rv⟩
theorem src_str {z : Str} : SrcOk g (Its z) (signs z, yes) μ H := fun μ' cs' σ' H' st rel _ => by
  refine ⟨fun i p e => ?_, by show z.cps.size ≤ _; simp [signs]⟩
  unfold signs at e
  rw [List.getElem?_map, Option.map_eq_some_iff] at e
  obtain ⟨c, ec, rfl⟩ := e
  rw [Array.getElem?_toList] at ec
  refine ⟨(Array.getElem?_eq_some_iff.mp ec).1, fun x H'' hy => ?_⟩
  obtain ⟨rfl, c', ec', rfl⟩ := hy
  rw [ec] at ec'; cases ec'
  exact ⟨.inl rfl, .str _⟩
theorem heapList_some {l : Nat} {xs : List PV} (h : heapList cs l = some xs) : cs.h[l]? = some (.cont (.list xs)) := by
  unfold heapList at h
  split at h
  · rename_i ys e
    cases h; exact e
  · cases h
theorem src_loc {a : Addr} {l : Nat} {xs : List PV} (h : μ[l]? = some a) : SrcOk g (Itl g.K a) (xs, fun cs' => decide (heapList cs' l = some xs)) μ H := fun μ' cs' σ' H' st rel hc => by
  have e := heapList_some (of_decide_eq_true hc)
  have h' := st.ext _ _ h
  obtain ⟨vs, h1, h2⟩ : ObjRel g μ' H' (.cont (.list xs)) a := rel.hp.obj l _ a e h'
  have sq : SqL g.K H' a vs := .inl (.inl h1)
  refine ⟨fun i p e => ?_, ⟨vs, sq, by rw [h2.length]; exact Nat.le_refl _⟩⟩
  obtain ⟨v, ev, rv⟩ := h2.get e
  refine ⟨⟨vs, v, sq, ev⟩, fun x H'' hy => ?_⟩
  obtain ⟨rfl, hx⟩ := hy
  have z := hx vs sq
  rw [ev] at z; cases z
  exact ⟨.inl rfl, rv⟩
theorem si_seq {tg e : Expr} {m : CM PV} (hg : g.K = X.K) (h : SPv X g W e m) : SI X g W tg e (iSeq m) := PI.mono (pi_or (pi_list h) (pi_or (pi_tup h) (pi_str h))) fun σ H R q => by
  obtain ⟨μ, cs, rel, o⟩ := q
  -- which of the three is told by the value
  have key := Out.bind o
  cases e : m cs with
  | stuck => rw [e] at key; exact key.elim
  | exc x cs' =>
    rw [e] at key
    exact .inl ⟨μ, cs, rel, by rw [e]; exact key⟩
  | ok p cs' =>
    rw [e] at key
    cases ei : itemsOf cs' p with
    | none =>
      refine .inl ⟨μ, cs, rel, by
        rw [e]
        intro μ' H' k
        have z := key μ' H' k
        simp only [ei] at z
        exact z.elim⟩
    | some s =>
      cases p with
      | lst xs =>
        simp only [itemsOf, Option.some.injEq] at ei
        subst ei
        refine .inl ⟨μ, cs, rel, by
          rw [e]
          intro μ' H' k v hv
          cases hv with
          | @lst a o vs _ h1 h2 => exact ⟨a, rfl, ⟨vs, .inl (.inr ⟨o, h1⟩)⟩, key μ' H' k μ' H' k _ (hg ▸ src_list h1 h2)⟩⟩
      | tup xs =>
        simp only [itemsOf, Option.some.injEq] at ei
        subst ei
        refine .inr (.inl ⟨μ, cs, rel, by
          rw [e]
          intro μ' H' k v hv
          cases hv with
          | @tup a vs _ h1 h2 => exact ⟨a, rfl, ⟨vs, hg ▸ h1⟩, key μ' H' k μ' H' k _ (hg ▸ src_tup h1 h2)⟩⟩)
      | str z =>
        simp only [itemsOf, Option.some.injEq] at ei
        subst ei
        refine .inr (.inr ⟨μ, cs, rel, by
          rw [e]
          intro μ' H' k v hv
          cases hv
          exact ⟨z, rfl, key μ' H' k μ' H' k _ src_str⟩⟩)
      | loc l =>
        simp only [itemsOf] at ei
        cases eh : heapList cs' l with
        | none => rw [eh] at ei; cases ei
        | some xs =>
          rw [eh] at ei
          simp only [Option.some.injEq] at ei
          subst ei
          refine .inl ⟨μ, cs, rel, by
            rw [e]
            intro μ' H' k v hv
            have key2 := key μ' H' k
            simp only [itemsOf, eh] at key2
            cases hv with
            | @loc _ a h1 =>
              obtain ⟨vs, h2, h3⟩ : ObjRel g μ' H' (.cont (.list xs)) a := k.rel.hp.obj l _ a (heapList_some eh) h1
              exact ⟨a, rfl, ⟨vs, .inl (.inl h2)⟩, key2 μ' H' k _ (hg ▸ src_loc h1)⟩⟩
      | _ => simp [itemsOf] at ei

def rangeP (lo : Int) (n : Nat) : List PV := (List.range n).map fun (i : Nat) => .int (lo + (i : Int))
theorem src_range {lo : Int} {n : Nat} : SrcOk g (Itr lo n) (rangeP lo n, yes) μ H := fun μ' cs' σ' H' st rel _ => by
  refine ⟨fun i p e => ?_, by show n ≤ _; simp [rangeP]⟩
  unfold rangeP at e
  rw [List.getElem?_map, Option.map_eq_some_iff] at e
  obtain ⟨j, ej, rfl⟩ := e
  obtain ⟨hj, e⟩ := List.getElem?_eq_some_iff.mp ej
  rw [List.getElem_range] at e
  subst e
  have hj' : i < n := by simpa using hj
  refine ⟨hj', fun x H'' hy => ?_⟩
  obtain ⟨rfl, rfl⟩ := hy
  exact ⟨.inl rfl, .int _⟩
@[irreducible] def inR (j : Int) : Bool := decide (-(2 ^ 62) ≤ j) && decide (j < 2 ^ 62)
def iRange1 (m : CM (List PV)) : CM Src := do
  let ps ← m
  match ps with
  | [.int j] => fun cs => if inR j then .ok (rangeP 0 j.toNat, yes) cs else .stuck
  | _ => stuck
def iRange2 (m : CM (List PV)) : CM Src := do
  let ps ← m
  match ps with
  | [.int i, .int j] => fun cs => if inR i && inR j then .ok (rangeP i (j - i).toNat, yes) cs else .stuck
  | _ => stuck
theorem si_range1 {tg a : Expr} {m : CM (List PV)} {p pos : Pos} (hm : X.mg "range" = none) (ha : SA X g W [a] m) (hg : Gl X "range" := by rfl) (hs : starEach [a] X.env = [(false, eval a X.env)] := by rfl) : SI X g W tg (.Call (.Name "range" p) [a] [] pos) (iRange1 m) :=
  PI.mono (pi_range1 hg hm ha hs) fun σ H R q => by
    obtain ⟨μ, cs, rel, o⟩ := q
    refine ⟨μ, cs, rel, (Out.bind o).mono fun ps cs1 μ1 H1 _ k h1 vs hv => ?_⟩
    cases hv with
    | nil => exact h1.elim
    | cons hp hr =>
      cases hp with
      | int j =>
        cases hr with
        | nil =>
          simp only at h1
          split at h1
          · rename_i z
            simp only [inR, Bool.and_eq_true, decide_eq_true_eq] at z
            exact ⟨j, rfl, z.1, z.2, h1 μ1 H1 k _ src_range⟩
          · exact h1.elim
        | cons _ _ => exact h1.elim
      | _ => exact h1.elim
theorem si_range2 {tg a b : Expr} {m : CM (List PV)} {p pos : Pos} (hm : X.mg "range" = none) (ha : SA X g W [a, b] m) (hg : Gl X "range" := by rfl) (hs : starEach [a, b] X.env = [(false, eval a X.env), (false, eval b X.env)] := by rfl) (hs2 : starEach [b] X.env = [(false, eval b X.env)] := by rfl) : SI X g W tg (.Call (.Name "range" p) [a, b] [] pos) (iRange2 m) :=
  PI.mono (pi_range2 hg hm ha hs hs2) fun σ H R q => by
    obtain ⟨μ, cs, rel, o⟩ := q
    refine ⟨μ, cs, rel, (Out.bind o).mono fun ps cs1 μ1 H1 _ k h1 vs hv => ?_⟩
    cases hv with
    | nil => exact h1.elim
    | cons hp hr =>
      cases hp with
      | int i =>
        cases hr with
        | nil => exact h1.elim
        | cons hq hr =>
          cases hq with
          | int j =>
            cases hr with
            | nil =>
              simp only at h1
              split at h1
              · rename_i z
                simp only [inR, Bool.and_eq_true, decide_eq_true_eq] at z
                exact ⟨i, j, rfl, ⟨z.1.1, z.1.2, z.2.1, z.2.2⟩, h1 μ1 H1 k _ src_range⟩
              · exact h1.elim
            | cons _ _ => exact h1.elim
          | _ => exact h1.elim
      | _ => exact h1.elim
/-- enumerate of a list that stays -/
def enumP (xs : List PV) : List PV := (List.range xs.length).map fun (i : Nat) => .tup [.int (i : Int), xs.getD i .non]
theorem src_enum {a : Addr} {vs : List V} {xs : List PV} {o : Obj} (h : H a = some (.frz o (.lst vs))) (r : PVsRel g μ H xs vs) : SrcOk g (Ite g.K a) (enumP xs, yes) μ H := fun μ' cs' σ' H' st rel _ => by
  have h' := st.frz _ _ _ h
  have r' := r.stays st
  have sq : SqL g.K H' a vs := .inl (.inr ⟨o, h'⟩)
  refine ⟨fun i p e => ?_, ⟨vs, sq, by simp [enumP, r.length]⟩⟩
  unfold enumP at e
  rw [List.getElem?_map, Option.map_eq_some_iff] at e
  obtain ⟨j, ej, rfl⟩ := e
  obtain ⟨hj, e⟩ := List.getElem?_eq_some_iff.mp ej
  rw [List.getElem_range] at e
  subst e
  have hi : i < xs.length := by simpa using hj
  obtain ⟨v, ev, rv⟩ := r'.get (List.getElem?_eq_getElem hi)
  refine ⟨⟨vs, v, sq, ev⟩, fun x H'' hy => ?_⟩
  obtain ⟨T, w, rfl, hT, rfl, hx⟩ := hy
  have z := hx vs sq
  rw [ev] at z; cases z
  refine ⟨.inr ⟨T, _, hT, rfl⟩, .tup (.of upd_same) (.cons (.int _) (.cons ?_ .nil))⟩
  have eg : xs.getD i .non = xs[i] := by rw [List.getD_eq_getElem?_getD, List.getElem?_eq_getElem hi]; rfl
  rw [eg]
  exact rv.stays (stays_fresh hT)
def iEnu (m : CM (List PV)) : CM Src := do
  let ps ← m
  match ps with
  | [.lst xs] => fun cs => .ok (enumP xs, yes) cs
  | _ => stuck
theorem si_enum {elts : List Expr} {kk : Nat} {tpos : Pos} {a : Expr} {m : CM (List PV)} {p pos : Pos} (hk : g.K = X.K) (hm : X.mg "enumerate" = none) (ha : SA X g W [a] m) (hg : Gl X "enumerate" := by rfl) (hs : starEach [a] X.env = [(false, eval a X.env)] := by rfl) :
    SI X g W (.Tuple elts kk tpos) (.Call (.Name "enumerate" p) [a] [] pos) (iEnu m) :=
  PI.mono (pi_enum hg hm ha hs) fun σ H R q => by
    obtain ⟨μ, cs, rel, o⟩ := q
    refine ⟨μ, cs, rel, (Out.bind o).mono fun ps cs1 μ1 H1 _ k h1 vs hv => ?_⟩
    cases hv with
    | nil => exact h1.elim
    | cons hp hr =>
      cases hp with
      | @lst a o ws _ z1 z2 =>
        cases hr with
        | nil => exact ⟨a, ws, rfl, .inl (.inr ⟨o, z1⟩), h1 μ1 H1 k _ (hk ▸ src_enum z1 z2)⟩
        | cons _ _ => exact h1.elim
      | _ => exact h1.elim

/-! ### for -/
def andThen (b : CM Fl) (c : CM Fl) : CM Fl := do
  let f ← b
  match f with
  | .nx => c
  | .rt r => fun cs => .ok (.rt r) cs
theorem andThen_eq (a b : CM Fl) : andThen a b = sSeq a b := rfl
def forL (chk : CSt → Bool) (t : PV → CM Unit) (b : CM Fl) : List PV → CM Fl
  | [] => fun cs => if chk cs then .ok .nx cs else .stuck
  | p :: ps => fun cs => if chk cs then (t p >>= fun _ => andThen b (forL chk t b ps)) cs else .stuck
def sFor (m : CM Src) (t : PV → CM Unit) (b : CM Fl) : CM Fl := do
  let s ← m
  forL s.2 t b s.1
theorem OutS.body {b c : CM Fl} {D : Ends} {N bk ct : L2.St → Hp → Prop} (h : OutS g W M μ H (andThen b c cs1) D) (k : Fct g M μ H μ1 cs1 σ1 H1) (f : ∀ cs' μ' σ' H', Fct g M μ H μ' cs' σ' H' → Fct g (Md μ1 cs1.sl σ1) μ1 H1 μ' cs' σ' H' → OutS g W M μ H (c cs') D → N σ' H') :
    tOfS g W b { nx := N, rt := D.rt, bk := bk, ct := ct } σ1 H1 := by
  refine ⟨μ1, cs1, k.rel, ?_⟩
  unfold andThen at h
  rw [bind_def] at h
  cases e : b cs1 with
  | ok fl cs2 =>
    rw [e] at h
    cases fl with
    | nx => exact fun μ' σ' H' q => f cs2 μ' σ' H' (k.trans' q) q h
    | rt r => exact fun μ' σ' H' v q rv => h μ' σ' H' v (k.trans' q) (rv.base' k.keep)
  | exc x cs2 => rw [e] at h; exact fun μ' σ' H' cls d q => h μ' σ' H' cls d (k.trans' q)
  | stuck => rw [e] at h; exact h
theorem OutS.first {m : CM Unit} {c : CM Fl} {D : Ends} (h : OutS g W M μ H ((m >>= fun _ => c) cs) D) : OutG g W M μ H (m cs) fun _ cs' μ' σ' H' => OutS g W M μ H (c cs') D := by
  rw [bind_def] at h
  cases e : m cs with
  | ok a cs' => rw [e] at h; exact fun _ _ _ _ => h
  | exc x cs' => rw [e] at h; exact h
  | stuck => rw [e] at h; exact h
theorem ss_for {ts : List Nat} {tg iter : Expr} {body : List Stmt} {m : CM Src} {t : PV → CM Unit} {b : CM Fl} {pos : Pos} (hp : PassesOwn (model X.prog X.w) X.A X.env X.xe) (hc : X.calm = true) (hi : SI X g W tg iter m) (ht : SG X g W ts tg t) (hb : SSs X g W body b)
    (hf : ∀ x : Value, foldedSetIterable iter X.env x = pure x := by exact fun _ => rfl) : SS X g W (.For tg iter body [] pos) (sFor m t b) := PS.mono (ps_for hp hc hi ht hb hf) fun D σ H h => by
  obtain ⟨μ, cs, rel, o⟩ := h
  refine ⟨μ, cs, rel, (OutS.bindE o).mono fun s cs1 μ1 H1 _ k1 h1 J hJ => ?_⟩
  refine ⟨fun i n σ' H' => ∃ μi csi, i + n = s.1.length ∧ Fct g (Md μ cs.sl σ) μ H μi csi σ' H' ∧ Stays μ1 H1 μi H' ∧ OutS g W (Md μ cs.sl σ) μ H (forL s.2 t b (s.1.drop i) csi) D, ⟨s.1.length, μ1, cs1, by omega, k1, .refl, by rw [List.drop_zero]; exact h1⟩, ?_⟩
  rintro i n σ' H' ⟨μi, csi, hn, k, st, oi⟩
  have hchk : s.2 csi = true := by
    cases e : s.1.drop i with
    | nil =>
      rw [e] at oi
      simp only [forL] at oi
      split at oi
      · assumption
      · exact oi.elim
    | cons p ps =>
      rw [e] at oi
      simp only [forL] at oi
      split at oi
      · assumption
      · exact oi.elim
  obtain ⟨hgo, hst⟩ := hJ μi csi σ' H' st k.rel hchk
  by_cases hl : i < s.1.length
  · have ep : s.1[i]? = some s.1[i] := List.getElem?_eq_getElem hl
    obtain ⟨g1, g2⟩ := hgo i _ ep
    refine .inr ⟨g1, fun σ2 H2 => ∃ m', m' < n ∧ ∃ μi csi, (i + 1) + m' = s.1.length ∧ Fct g (Md μ cs.sl σ) μ H μi csi σ2 H2 ∧ Stays μ1 H1 μi H2 ∧ OutS g W (Md μ cs.sl σ) μ H (forL s.2 t b (s.1.drop (i + 1)) csi) D, fun σ2 H2 q => q, fun x H'' hy => ?_⟩
    obtain ⟨hH, rx⟩ := g2 x H'' hy
    have k' : Fct g (Md μ cs.sl σ) μ H μi csi σ' H'' := by
      rcases hH with rfl | ⟨T, ho, hT, rfl⟩
      · exact k
      · exact k.fresh hT
    have st' : Stays μi H' μi H'' := by
      rcases hH with rfl | ⟨T, ho, hT, rfl⟩
      · exact .refl
      · exact stays_fresh hT
    rw [List.drop_eq_getElem_cons hl] at oi
    simp only [forL, hchk, if_true] at oi
    refine ⟨μi, csi, s.1[i], k'.rel, rx, ((OutS.first oi).rebase k').mono fun _ cs2 μ2 σ2 H2 _ q2 o2 _ => ?_⟩
    have k2 := k'.trans' q2
    refine OutS.body o2 k2 fun cs3 μ3 σ3 H3 k3 q3 o3 => ⟨s.1.length - (i + 1), by omega, μ3, cs3, by omega, k3, ?_, o3⟩
    exact ((st.trans st').trans (k'.rel.stays q2.keep q2.ext)).trans (k2.rel.stays q3.keep q3.ext)
  · have e : s.1.drop i = [] := List.drop_eq_nil_of_le (Nat.le_of_not_lt hl)
    rw [e] at oi
    simp only [forL, hchk, if_true] at oi
    have hl' : i = s.1.length := by omega
    exact .inl ⟨by rw [hl']; exact hst, oi μi σ' H' k⟩

/-! ### while -/
def whileL (c : CM Bool) (b : CM Fl) : Nat → CM Fl
  | 0 => stuck
  | n + 1 => do
    let x ← c
    if x then andThen b (whileL c b n) else fun cs => .ok .nx cs
theorem ss_while {c : Expr} {body : List Stmt} {mc : CM Bool} {b : CM Fl} {pos : Pos} (n : Nat) (hp : PassesOwn (model X.prog X.w) X.A X.env X.xe) (hc : SB X g W c mc) (hb : SSs X g W body b) : SS X g W (.While c body [] pos) (whileL mc b n) := PS.mono (ps_while hp hc hb) fun D σ H h => by
  obtain ⟨μ, cs, rel, o⟩ := h
  refine ⟨fun n σ' H' => ∃ μi csi, Fct g (Md μ cs.sl σ) μ H μi csi σ' H' ∧ OutS g W (Md μ cs.sl σ) μ H (whileL mc b n csi) D, ⟨n, μ, cs, Fct.refl rel, o⟩, ?_⟩
  rintro m σ' H' ⟨μi, csi, k, oi⟩
  cases m with
  | zero => exact oi.elim
  | succ m =>
    refine ⟨μi, csi, k.rel, ((OutS.bindE (f := fun x => if x then andThen b (whileL mc b m) else fun cs => .ok .nx cs) oi).rebase k).mono fun x cs1 μ1 H1 _ k1 h1 => ?_⟩
    have k2 := k.trans' k1
    cases x with
    | true =>
      refine iteT ⟨fun σ2 H2 => ∃ m', m' < m + 1 ∧ ∃ μi csi, Fct g (Md μ cs.sl σ) μ H μi csi σ2 H2 ∧ OutS g W (Md μ cs.sl σ) μ H (whileL mc b m' csi) D, fun _ _ q => q, ?_⟩
      exact OutS.body h1 k2 fun cs3 μ3 σ3 H3 k3 _ o3 => ⟨m, Nat.lt_succ_self m, μ3, cs3, k3, o3⟩
    | false => exact iteF (h1 μ1 σ' H1 k2)

/-! ### comprehensions -/
def wipeC (sl : List SV) : List Nat → List SV
  | [] => sl
  | v :: vs => (wipeC sl vs).set v .emp
def noexc {α : Type} (m : CM α) : CM α := fun cs => match m cs with
  | .exc _ _ => .stuck
  | r => r
def W0 : WX := fun _ _ _ _ => False
def compL (vs : List Nat) (chk : CSt → Bool) (t : PV → CM Unit) (c : CM Bool) (e : CM PV) : List PV → List PV → CM (List PV)
  | [], acc => fun cs => if chk cs then .ok acc cs else .stuck
  | p :: ps, acc => fun cs => if chk cs then (noexc (t p) >>= fun _ => noexc c >>= fun b => if b then (noexc e >>= fun q => (fun cs' => .ok () { cs' with sl := wipeC cs'.sl vs } : CM Unit) >>= fun _ => compL vs chk t c e ps (acc ++ [q])) else ((fun cs' => .ok () { cs' with sl := wipeC cs'.sl vs } : CM Unit) >>= fun _ => compL vs chk t c e ps acc)) cs else .stuck
def eComp (vs : List Nat) (m : CM Src) (t : PV → CM Unit) (c : CM Bool) (e : CM PV) : CM RV := do
  let s ← m
  (fun cs => if s.1.length ≤ 16777216 then .ok () { cs with sl := wipeC cs.sl vs } else .stuck : CM Unit)
  let ys ← compL vs s.2 t c e s.1 []
  fun cs => .ok (.own (.list ys)) cs
theorem wipeC_len (sl : List SV) : ∀ vs : List Nat, (wipeC sl vs).length = sl.length
  | [] => rfl
  | v :: vs => by simp [wipeC, wipeC_len sl vs]
theorem wipe_at (sl : List SV) (σ : L2.St) : ∀ (vs : List Nat) (i : Nat), sl.length = σ.length → (i ∈ vs ∧ i < sl.length ∧ (wipeC sl vs)[i]? = some .emp ∧ (wipe σ vs)[i]? = some none) ∨ ((wipeC sl vs)[i]? = sl[i]? ∧ (wipe σ vs)[i]? = σ[i]?)
  | [], i, _ => .inr ⟨rfl, rfl⟩
  | v :: vs, i, hl => by
    have l1 := wipeC_len sl vs
    have l2 := wipe_length σ vs
    by_cases e : v = i
    · subst e
      by_cases h : v < sl.length
      · refine .inl ⟨List.mem_cons_self, h, ?_, ?_⟩
        · show ((wipeC sl vs).set v .emp)[v]? = _
          rw [List.getElem?_set_self (by rw [l1]; exact h)]
        · show ((wipe σ vs).set v none)[v]? = _
          rw [List.getElem?_set_self (by rw [l2, ← hl]; exact h)]
      · refine .inr ⟨?_, ?_⟩
        · show ((wipeC sl vs).set v .emp)[v]? = _
          rw [List.getElem?_eq_none (by simp [l1]; omega), List.getElem?_eq_none (by omega)]
        · show ((wipe σ vs).set v none)[v]? = _
          rw [List.getElem?_eq_none (by simp [l2]; omega), List.getElem?_eq_none (by omega)]
    · have e1 : (wipeC sl (v :: vs))[i]? = (wipeC sl vs)[i]? := List.getElem?_set_ne e
      have e2 : (wipe σ (v :: vs))[i]? = (wipe σ vs)[i]? := List.getElem?_set_ne e
      rw [e1, e2]
      rcases wipe_at sl σ vs i hl with ⟨h1, h2, h3, h4⟩ | h
      · exact .inl ⟨List.mem_cons_of_mem _ h1, h2, h3, h4⟩
      · exact .inr h
theorem wipe_none (σ : L2.St) : ∀ (vs : List Nat) (i : Nat) (a : V), (wipe σ vs)[i]? = some (some a) → σ[i]? = some (some a)
  | [], _, _, h => h
  | v :: vs, i, a, h => by
    by_cases e : v = i
    · subst e
      have h' : ((wipe σ vs).set v none)[v]? = some (some a) := h
      rw [List.getElem?_set] at h'
      simp only [if_true] at h'
      split at h' <;> cases h'
    · have e2 : (wipe σ (v :: vs))[i]? = (wipe σ vs)[i]? := List.getElem?_set_ne e
      rw [e2] at h
      exact wipe_none σ vs i a h
theorem wipeC_own (sl : List SV) : ∀ (vs : List Nat) (i : Nat) (c : Cont), (wipeC sl vs)[i]? = some (.own c) → sl[i]? = some (.own c)
  | [], _, _, h => h
  | v :: vs, i, a, h => by
    by_cases e : v = i
    · subst e
      have h' : ((wipeC sl vs).set v .emp)[v]? = some (.own a) := h
      rw [List.getElem?_set] at h'
      simp only [if_true] at h'
      split at h' <;> cases h'
    · have e2 : (wipeC sl (v :: vs))[i]? = (wipeC sl vs)[i]? := List.getElem?_set_ne e
      rw [e2] at h
      exact wipeC_own sl vs i a h
/-- σ, σ' differ at the wiped places alone -/
theorem Rel.rewipe {vs : List Nat} (r : Rel g μ cs σ H) (he : wipe σ vs = wipe σ1 vs) (hl : σ.length = σ1.length) : Rel g μ { cs with sl := wipeC cs.sl vs } σ1 H := by
  have key : ∀ (i : Nat) (s : SV) (v : Option V), (wipeC cs.sl vs)[i]? = some s → σ1[i]? = some v → s ≠ .emp → cs.sl[i]? = some s ∧ σ[i]? = some v := fun i s v h1 h2 hne => by
    rcases wipe_at cs.sl σ vs i r.len with ⟨_, _, z, _⟩ | ⟨z1, z2⟩
    · rw [z] at h1; cases h1; exact absurd rfl hne
    · rcases wipe_at cs.sl σ1 vs i (r.len.trans hl) with ⟨_, _, y, _⟩ | ⟨y1, y2⟩
      · rw [y] at h1; cases h1; exact absurd rfl hne
      · refine ⟨z1 ▸ h1, ?_⟩
        rw [← z2, he, y2]; exact h2
  refine ⟨r.hp, by rw [wipeC_len]; exact r.len.trans hl, fun i s v h1 h2 => ?_, fun i j c d a h1 h2 h3 h4 => ?_⟩
  · cases s with
    | emp => trivial
    | exn x =>
      obtain ⟨a, b⟩ := key i _ v h1 h2 (fun z => by cases z)
      exact r.sl i _ v a b
    | pv p =>
      obtain ⟨a, b⟩ := key i _ v h1 h2 (fun z => by cases z)
      exact r.sl i _ v a b
    | own c =>
      obtain ⟨a, b⟩ := key i _ v h1 h2 (fun z => by cases z)
      exact r.sl i _ v a b
  · obtain ⟨a1, b1⟩ := key i _ _ h1 h3 (fun z => by cases z)
    obtain ⟨a2, b2⟩ := key j _ _ h2 h4 (fun z => by cases z)
    exact r.ap i j c d a a1 a2 b1 b2
theorem md_rewipe {vs : List Nat} {b : Addr} (r : Rel g μ cs σ H) (he : wipe σ vs = wipe σ1 vs) (hl : σ.length = σ1.length) (h : Md μ (wipeC cs.sl vs) σ1 b) : Md μ cs.sl σ b := by
  rcases h with h | ⟨i, c, h1, h2⟩
  · exact .inl h
  · rcases wipe_at cs.sl σ vs i r.len with ⟨_, _, z, _⟩ | ⟨z1, z2⟩
    · rw [z] at h1; cases h1
    · rcases wipe_at cs.sl σ1 vs i (r.len.trans hl) with ⟨_, _, y, _⟩ | ⟨y1, y2⟩
      · rw [y] at h1; cases h1
      · refine .inr ⟨i, c, z1 ▸ h1, ?_⟩
        rw [← z2, he, y2]; exact h2
theorem Fct.rewipe {vs : List Nat} (k : Fct g M μ H μ1 cs1 σ H1) (he : wipe σ vs = wipe σ1 vs) (hl : σ.length = σ1.length) : Fct g M μ H μ1 { cs1 with sl := wipeC cs1.sl vs } σ1 H1 :=
  ⟨k.rel.rewipe he hl, ⟨k.keep.k1, fun b h => k.keep.k2 b (md_rewipe k.rel he hl h)⟩, k.ext⟩
theorem wipe_get (σ : L2.St) : ∀ (vs : List Nat) (i : Nat), (wipe σ vs)[i]? = if i ∈ vs then (if i < σ.length then some none else none) else σ[i]?
  | [], i => by simp [wipe]
  | v :: vs, i => by
    show ((wipe σ vs).set v none)[i]? = _
    rw [List.getElem?_set, wipe_length, wipe_get σ vs i]
    by_cases e : v = i
    · subst e; simp
    · have e' : ¬ i = v := fun z => e z.symm
      simp [e, e']
theorem wipe_off {vs : List Nat} {σ σ' : L2.St} (h : Off vs σ σ') : wipe σ' vs = wipe σ vs := by
  refine List.ext_getElem? fun i => ?_
  rw [wipe_get, wipe_get, h.len]
  split
  · rfl
  · rename_i n; exact h.at_ i n
theorem off_wipe {vs : List Nat} : Off vs σ (wipe σ vs) := ⟨wipe_length σ vs, fun i h => by rw [wipe_get, if_neg h]⟩
theorem Off.trans {vs : List Nat} {σ3 : L2.St} (a : Off vs σ σ1) (b : Off vs σ1 σ3) : Off vs σ σ3 := ⟨b.len.trans a.len, fun i h => (b.at_ i h).trans (a.at_ i h)⟩
theorem Off.symm {vs : List Nat} (a : Off vs σ σ1) : Off vs σ1 σ := ⟨a.len.symm, fun i h => (a.at_ i h).symm⟩
theorem Fct.off {vs : List Nat} (k : Fct g M μ H μ1 cs1 σ H1) (h : Off vs σ σ1) : Fct g M μ H μ1 { cs1 with sl := wipeC cs1.sl vs } σ1 H1 := k.rewipe (wipe_off h).symm h.len.symm
theorem noexc_out {α : Type} {m : CM α} {R : α → CSt → List Addr → Hp → Prop} (h : Out g W M μ H σ (noexc m cs) R) : Out g W0 M μ H σ (m cs) R := by
  unfold noexc at h
  cases e : m cs with
  | ok a cs' => rw [e] at h; exact h
  | exc x cs' => rw [e] at h; exact h.elim
  | stuck => rw [e] at h; exact h.elim
theorem noexc_outG {α : Type} {m : CM α} {R : α → CSt → List Addr → L2.St → Hp → Prop} (h : OutG g W M μ H (noexc m cs) R) : OutG g W0 M μ H (m cs) R := by
  unfold noexc at h
  cases e : m cs with
  | ok a cs' => rw [e] at h; exact h
  | exc x cs' => rw [e] at h; exact h.elim
  | stuck => rw [e] at h; exact h.elim
theorem wipe_wipe (σ : L2.St) (vs : List Nat) : wipe (wipe σ vs) vs = wipe σ vs := wipe_off off_wipe
theorem wipeC_get (sl : List SV) : ∀ (vs : List Nat) (i : Nat), (wipeC sl vs)[i]? = if i ∈ vs then (if i < sl.length then some .emp else none) else sl[i]?
  | [], i => by simp [wipeC]
  | v :: vs, i => by
    show ((wipeC sl vs).set v .emp)[i]? = _
    rw [List.getElem?_set, wipeC_len, wipeC_get sl vs i]
    by_cases e : v = i
    · subst e; simp
    · have e' : ¬ i = v := fun z => e z.symm
      simp [e, e']
theorem wipeC_idem (sl : List SV) (vs : List Nat) : wipeC (wipeC sl vs) vs = wipeC sl vs := by
  refine List.ext_getElem? fun i => ?_
  rw [wipeC_get, wipeC_get, wipeC_len]
  split <;> simp_all
def bTrue : CM Bool := fun cs => .ok true cs
theorem st_nil {X : Cx} : PTs X [] (tOfB g W bTrue) := ⟨fun pins s σ H Q I h => by
  obtain ⟨μ, cs, rel, o⟩ := h
  exact pts_nil.run pins s σ H Q I (o μ H (Fct.refl rel))⟩
theorem st_one {X : Cx} {c : Expr} {m : CM Bool} (h : SB X g W c m) : PTs X [c] (tOfB g W m) := pts_one h
theorem comp_read {vs : List Nat} {m : CM Src} {t : PV → CM Unit} {c : CM Bool} {e : CM PV} {Q : VK} (h : tOf g W (eComp vs m t c e) σ H Q) : tLc (tOfI g W m) (tOfG g W0 vs t) (tOfB g W0 c) (tOfP g W0 e) vs σ H Q := by
  obtain ⟨μ, cs, rel, o⟩ := h
  refine ⟨μ, cs, rel, (Out.bind o).mono fun s cs1 μ1 H1 _ k1 h1 J hJ D hD => ?_⟩
  rw [bind_def] at h1
  by_cases hlen : s.1.length ≤ 16777216
  case neg =>
    simp only [hlen, if_false] at h1
    exact h1.elim
  simp only [hlen, if_true] at h1
  refine ⟨fun i n H' => ∃ μi csi acc ws, i + n = s.1.length ∧ Fct g (Md μ cs.sl σ) μ H μi csi (wipe σ vs) H' ∧ Stays μ1 H1 μi H' ∧ H' D = some (.lst ws) ∧ PVsRel g μi H' acc ws ∧ acc.length ≤ i ∧ ¬ Md μi csi.sl (wipe σ vs) D ∧ csi.sl = wipeC csi.sl vs ∧
      Out g W (Md μ cs.sl σ) μ H σ ((compL vs s.2 t c e (s.1.drop i) acc >>= fun ys => (fun cs => .ok (.own (.list ys)) cs : CM RV)) csi) (fun rv cs' μ' H' => ∀ v, RVRel g (Md μ cs.sl σ) H μ' cs' σ H' rv v → Q v H'), ?_, ?_⟩
  · have k2 : Fct g (Md μ cs.sl σ) μ H μ1 { cs1 with sl := wipeC cs1.sl vs } (wipe σ vs) H1 := k1.off off_wipe
    refine ⟨s.1.length, μ1, _, [], [], by omega, k2.fresh hD, stays_fresh hD, upd_same, .nil, Nat.le_refl _, fun hm => md_some k2.rel hm hD, (wipeC_idem _ _).symm, ?_⟩
    rw [List.drop_zero]
    exact h1
  · rintro i n H' ⟨μi, csi, acc, ws, hn, k, st, hDi, racc, hacc, nmd, hw, oi⟩
    have avD : Md μ cs.sl σ D ∨ H D = none := avail k1.keep hD
    have hchk : s.2 csi = true := by
      cases e0 : s.1.drop i with
      | nil =>
        rw [e0, bind_def] at oi
        simp only [compL] at oi
        by_cases z : s.2 csi = true
        · exact z
        · simp only [z, Bool.false_eq_true, if_false] at oi
          exact oi.elim
      | cons p ps =>
        rw [e0, bind_def] at oi
        simp only [compL] at oi
        by_cases z : s.2 csi = true
        · exact z
        · simp only [z, Bool.false_eq_true, if_false] at oi
          exact oi.elim
    obtain ⟨hgo, hst⟩ := hJ μi csi _ H' st k.rel hchk
    by_cases hl : i < s.1.length
    case neg =>
      have e0 : s.1.drop i = [] := List.drop_eq_nil_of_le (Nat.le_of_not_lt hl)
      rw [e0, bind_def] at oi
      simp only [compL, hchk, if_true] at oi
      have hl' : i = s.1.length := by omega
      have k3 : Fct g (Md μ cs.sl σ) μ H μi csi σ H' := by
        have z := k.off (off_wipe (vs := vs) (σ := σ)).symm
        rw [← hw] at z
        exact z
      refine .inl ⟨by rw [hl']; exact hst, oi μi H' k3 _ ⟨D, rfl, ⟨ws, hDi, racc⟩, fun hm => nmd ?_, avD⟩⟩
      rcases hm with hm | ⟨j, c', z1, z2⟩
      · exact .inl hm
      · refine .inr ⟨j, c', z1, ?_⟩
        rw [hw, wipeC_get] at z1
        rw [wipe_get]
        split at z1
        · split at z1 <;> cases z1
        · rename_i nj
          rw [if_neg nj]
          exact z2
    case pos =>
      have ep : s.1[i]? = some s.1[i] := List.getElem?_eq_getElem hl
      obtain ⟨g1, g2⟩ := hgo i _ ep
      refine .inr ⟨g1, _, fun H2 q => q, fun x H'' hy => ?_⟩
      obtain ⟨hH, rx⟩ := g2 x H'' hy
      have k' : Fct g (Md μ cs.sl σ) μ H μi csi (wipe σ vs) H'' := by
        rcases hH with rfl | ⟨T, ho, hT, rfl⟩
        · exact k
        · exact k.fresh hT
      have st' : Stays μi H' μi H'' := by
        rcases hH with rfl | ⟨T, ho, hT, rfl⟩
        · exact .refl
        · exact stays_fresh hT
      have hD2 : H'' D = some (.lst ws) := by
        rcases hH with rfl | ⟨T, ho, hT, rfl⟩
        · exact hDi
        · exact updK (ne_of_none hDi hT) hDi
      rw [List.drop_eq_getElem_cons hl, bind_def] at oi
      simp only [compL, hchk, if_true] at oi
      rw [bind_def] at oi
      cases et : t s.1[i] csi with
      | exc x' cs' => simp only [noexc, et] at oi; exact oi.elim
      | stuck => simp only [noexc, et] at oi; exact oi.elim
      | ok u csA =>
        simp only [noexc, et] at oi
        rw [bind_def] at oi
        refine ⟨μi, csi, s.1[i], k'.rel, rx, ?_⟩
        rw [et]
        intro μA σA HA kA offA
        refine ⟨by rw [wipe_off offA, wipe_wipe], ?_⟩
        cases ec : c csA with
        | exc x' cs' => simp only [noexc, ec] at oi; exact oi.elim
        | stuck => simp only [noexc, ec] at oi; exact oi.elim
        | ok b csB =>
          simp only [noexc, ec] at oi
          refine ⟨μA, csA, kA.rel, ?_⟩
          rw [ec]
          intro μB HB kB
          have kB' := kA.trans' kB
          have kBase := k'.trans' kB'
          have offW : Off vs σA (wipe σ vs) := offA.symm
          cases b with
          | false =>
            refine iteF ?_
            simp only [Bool.false_eq_true, if_false] at oi
            rw [bind_def] at oi
            simp only at oi
            have kW := kBase.off offW
            have stB := (st.trans st').trans (k'.rel.stays kB'.keep kB'.ext)
            have hDB : HB D = some (.lst ws) := kB'.keep.k1 D _ hD2 nmd
            refine ⟨s.1.length - (i + 1), by omega, μB, _, acc, ws, by omega, kW, stB, hDB, (racc.stays st').stays (k'.rel.stays kB'.keep kB'.ext), by omega, fun hm => ?_, (wipeC_idem _ _).symm, oi⟩
            rcases kB'.keep.k2 D (md_rewipe kBase.rel (wipe_off offW).symm offW.len.symm hm) with z | z
            · exact nmd z
            · rw [hD2] at z; cases z
          | true =>
            refine iteT ?_
            simp only [if_true] at oi
            rw [bind_def] at oi
            cases ee : e csB with
            | exc x' cs' => simp only [noexc, ee] at oi; exact oi.elim
            | stuck => simp only [noexc, ee] at oi; exact oi.elim
            | ok q csC =>
              simp only [noexc, ee] at oi
              rw [bind_def] at oi
              simp only at oi
              refine ⟨μB, csB, kB.rel, ?_⟩
              rw [ee]
              intro μC HC kC v hv
              have kC' := kB'.trans' kC
              have kBase := k'.trans' kC'
              have stC := (st.trans st').trans (k'.rel.stays kC'.keep kC'.ext)
              have hDC : HC D = some (.lst ws) := kC'.keep.k1 D _ hD2 nmd
              have nC : ¬ Md μC csC.sl σA D := fun hm => by
                rcases kC'.keep.k2 D hm with z | z
                · exact nmd z
                · rw [hD2] at z; cases z
              have nW : ¬ Md μC (wipeC csC.sl vs) (wipe σ vs) D := fun hm => nC (md_rewipe kBase.rel (wipe_off offW).symm offW.len.symm hm)
              have kW := kBase.off offW
              have hDr : kW.rel = kW.rel := rfl
              have kU : Fct g (Md μ cs.sl σ) μ H μC { csC with sl := wipeC csC.sl vs } (wipe σ vs) (upd HC D (.lst (ws ++ [v]))) :=
                kW.at avD (kW.rel.updOut hDC (.lst _) nW) (fun b z => .inl z) fun _ _ z => z
              have su : Stays μC HC μC (upd HC D (.lst (ws ++ [v]))) := stays_upd hDC (.lst _)
              have racc' : PVsRel g μC HC acc ws := (racc.stays st').stays (k'.rel.stays kC'.keep kC'.ext)
              refine ⟨ws, hDC, by rw [← racc.length]; show acc.length < 16777216; omega, s.1.length - (i + 1), by omega, μC, _, acc ++ [q], ws ++ [v], by omega, kU, stC.trans su, upd_same, (racc'.append (.cons hv .nil)).stays su, by simp; omega, nW, (wipeC_idem _ _).symm, oi⟩
theorem se_comp {elt tg iter : Expr} {ifs : List Expr} {scope : Scope} {own : List (Str × Nat)} {pos : Pos} {m : CM Src} {t : PV → CM Unit} {c : CM Bool} {e : CM PV} (hc : X.calm = true) (hN : X.N.Nodup) (hi : SI X g W tg iter m) (hblk : BlkOk X.N X.env.scope scope own)
    (ht : ∀ (s : Shared) (H : Hp) (C : Addr) (cl : List (Str × Addr)) (fp : List Addr), SG (X.blk s H scope (compEnvC scope cl C X.env) fp) g W0 (own.map (·.2)) tg t)
    (htt : ∀ (s : Shared) (H : Hp) (C : Addr) (cl : List (Str × Addr)) (fp : List Addr), PTs (X.blk s H scope (compEnvC scope cl C X.env) fp) ifs (tOfB g W0 c))
    (he : ∀ (s : Shared) (H : Hp) (C : Addr) (cl : List (Str × Addr)) (fp : List Addr), SPv (X.blk s H scope (compEnvC scope cl C X.env) fp) g W0 elt e)
    (hf : ∀ x : Value, foldedSetIterable iter X.env x = pure x := by exact fun _ => rfl) :
    SE X g W (.ListComp elt [{ target := tg, iter := iter, ifs := ifs, is_async := 0 }] scope pos) (eComp (own.map (·.2)) m t c e) := PE.mono (pe_lc hc hN hi hblk ht htt he hf) fun σ H Q h => comp_read h

end CL

/-! CL9: defs: what they do to values and the clean heap; their calls. -/
namespace CL
open PySem L2 PyProof.Rows
variable {g : G} {W : WX} {M : Addr → Prop} {μ μ' μ1 μ2 : List Addr} {H H' H0 H1 H2 : Hp} {σ σ1 σ2 : L2.St} {cs cs' cs1 cs2 : CSt} {X : Cx}

inductive FV where
  | pv (p : PV) | own (c : Cont)
inductive FRes where
  | ok (v : FV) (h : List CO) | exc (x : PExc) (h : List CO) | stuck
/-- a def: arguments, heap -/
abbrev FSem := List PV → List CO → FRes
structure FFct (g : G) (μ : List Addr) (H : Hp) (μ' : List Addr) (h' : List CO) (H' : Hp) : Prop where
  rel : HRel g μ' h' H'
  keep : Keep (fun a => a ∈ μ) (fun a => a ∈ μ') H H'
  ext : ∀ (l : Nat) (a : Addr), μ[l]? = some a → μ'[l]? = some a
def FVRel (g : G) (μ : List Addr) (H : Hp) (μ' : List Addr) (H' : Hp) (r : FV) (v : V) : Prop := match r with
  | .pv p => PVRel g μ' H' p v
  | .own c => ∃ a, v = .ref a ∧ ContRel g μ' H' c a ∧ a ∉ μ' ∧ (a ∈ μ ∨ H a = none)
def OutF (g : G) (μ : List Addr) (H : Hp) (r : FRes) (Q : VK) (E : XK) : Prop := match r with
  | .ok rv h' => ∀ μ' H' v, FFct g μ H μ' h' H' → FVRel g μ H μ' H' rv v → Q v H'
  | .exc x h' => ∀ μ' H' cls d, FFct g μ H μ' h' H' → ExcRel g μ' H' x cls d → E cls d H'
  | .stuck => False
/-- the promise of a def that does F -/
def spOf (g : G) (n : Nat) (F : FSem) : Sp := fun vs H Q E => vs.length = n ∧ ∃ μ h ps, HRel g μ h H ∧ PVsRel g μ H ps vs ∧ OutF g μ H (F ps h) Q E

/-! ### a body -/
def startC (n : Nat) (ps : List PV) : List SV := ps.map .pv ++ List.replicate (n - ps.length) .emp
def finF : CRes Fl → FRes
  | .ok .nx cs => .ok (.pv .non) cs.h
  | .ok (.rt (.pv p)) cs => .ok (.pv p) cs.h
  | .ok (.rt (.own c)) cs => .ok (.own c) cs.h
  | .ok (.rt (.als i)) cs => match cs.sl[i]? with
    | some (.pv p) => .ok (.pv p) cs.h
    | some (.own c) => .ok (.own c) cs.h
    | _ => .stuck
  | .exc x cs => .exc x cs.h
  | .stuck => .stuck
def runDef (n : Nat) (m : CM Fl) : FSem := fun ps h => finF (m ⟨startC n ps, h⟩)
theorem start_rel {n : Nat} {h : List CO} {N : List Str} {ps : List PV} {vs : List V} (hn : N.length = n) (hp : HRel g μ h H) (r : PVsRel g μ H ps vs) : Rel g μ ⟨startC n ps, h⟩ (L2.start N vs) H := by
  have hl := r.length
  have key : ∀ (i : Nat) (s : SV) (v : Option V), (startC n ps)[i]? = some s → (L2.start N vs)[i]? = some v → (s = .emp) ∨ ∃ p w, s = .pv p ∧ v = some w ∧ PVRel g μ H p w := fun i s v h1 h2 => by
    unfold startC at h1
    unfold L2.start at h2
    by_cases hi : i < ps.length
    · rw [List.getElem?_append_left (by simpa using hi), List.getElem?_map] at h1
      rw [List.getElem?_append_left (by simp; omega), List.getElem?_map] at h2
      obtain ⟨w, e, q⟩ := r.get (List.getElem?_eq_getElem hi)
      rw [List.getElem?_eq_getElem hi] at h1
      rw [e] at h2
      cases h1; cases h2
      exact .inr ⟨_, _, rfl, rfl, q⟩
    · rw [List.getElem?_append_right (by simp; omega), List.getElem?_replicate] at h1
      split at h1
      · cases h1; exact .inl rfl
      · cases h1
  refine ⟨hp, by simp [startC, L2.start, hn, hl], fun i s v h1 h2 => ?_, fun i j c d a h1 h2 h3 h4 => ?_⟩
  · rcases key i s v h1 h2 with rfl | ⟨p, w, rfl, rfl, q⟩
    · trivial
    · exact ⟨w, rfl, q⟩
  · rcases key i _ _ h1 h3 with z | ⟨p, w, z, _⟩
    · cases z
    · cases z
theorem start_md {n : Nat} {h : List CO} {N : List Str} {ps : List PV} {vs : List V} (hn : N.length = n) (hp : HRel g μ h H) (r : PVsRel g μ H ps vs) {a : Addr} (m : Md μ (startC n ps) (L2.start N vs) a) : a ∈ μ := by
  rcases m with m | ⟨i, c, h1, h2⟩
  · exact m
  · exfalso
    unfold startC at h1
    by_cases hi : i < ps.length
    · rw [List.getElem?_append_left (by simpa using hi), List.getElem?_map, List.getElem?_eq_getElem hi] at h1
      cases h1
    · rw [List.getElem?_append_right (by simp; omega), List.getElem?_replicate] at h1
      split at h1 <;> cases h1
theorem ffct_of {n : Nat} {h : List CO} {N : List Str} {ps : List PV} {vs : List V} (hn : N.length = n) (hp : HRel g μ h H) (r : PVsRel g μ H ps vs) (k : Fct g (Md μ (startC n ps) (L2.start N vs)) μ H μ' cs' σ H') : FFct g μ H μ' cs'.h H' :=
  ⟨k.rel.hp, ⟨fun a o e n => k.keep.k1 a o e fun m => n (start_md hn hp r m), fun a m => by
    rcases k.keep.k2 a (.inl m) with z | z
    · exact .inl (start_md hn hp r z)
    · exact .inr z⟩, k.ext⟩
/-- the outcome of a body is the outcome of the def -/
theorem body_out {n : Nat} {h : List CO} {N : List Str} {ps : List PV} {vs : List V} {m : CM Fl} {Q : VK} {E : XK} (hn : N.length = n) (hp : HRel g μ h H) (r : PVsRel g μ H ps vs) (o : OutF g μ H (runDef n m ps h) Q E) :
    tOfS g (fun cls d _ H => E cls d H) m { nx := fun _ H' => Q .non H', rt := Q } (L2.start N vs) H := by
  refine ⟨μ, ⟨startC n ps, h⟩, start_rel hn hp r, ?_⟩
  unfold runDef at o
  cases e : m ⟨startC n ps, h⟩ with
  | stuck => rw [e] at o; exact o
  | exc x cs' => rw [e] at o; exact fun μ' σ' H' cls d k q => o μ' H' cls d (ffct_of hn hp r k) q
  | ok f cs' =>
    rw [e] at o
    cases f with
    | nx => exact fun μ' σ' H' k => o μ' H' .non (ffct_of hn hp r k) .non
    | rt rv =>
      intro μ' σ' H' v k rvr
      have ff := ffct_of hn hp r k
      cases rv with
      | pv p => exact o μ' H' v ff rvr
      | own c =>
        obtain ⟨a, rfl, q, nm, av⟩ := rvr
        refine o μ' H' _ ff ⟨a, rfl, q, fun z => nm (.inl z), ?_⟩
        rcases av with z | z
        · exact .inl (start_md hn hp r z)
        · exact .inr z
      | als i =>
        have es : σ'[i]? = some (some v) := rvr
        simp only [finF] at o
        split at o
        · rename_i p ep
          obtain ⟨x, ex, q⟩ := k.rel.sl i _ _ ep es
          cases ex
          exact o μ' H' _ ff q
        · rename_i c ec
          obtain ⟨a, ea, q, na⟩ := k.rel.sl i _ _ ec es
          cases ea
          refine o μ' H' _ ff ⟨a, rfl, q, na, ?_⟩
          rcases k.keep.k2 a (.inr ⟨i, c, ec, es⟩) with z | z
          · exact .inl (start_md hn hp r z)
          · exact .inr z
        · exact o.elim
section
variable {P : Program} {w : World} {K : PySem.W.Frag} {mg : Str → Option Value} {base : Heap}
/-- THE RULE for a def -/
theorem fnC {x qual : Str} {st : Stmt} {f : Addr} {fd : FuncData} {N ps : List Str} {k n : Nat} {m : CM Fl} (F : Fun K x qual st f fd) (S : FnScope N ps (defScope st)) (hn : N.length = n)
    (hbody : ∀ (cdv : Value) (A : Around) (outer : List Env) (s : Shared) (H : Hp) (E : XK), Room k (A.deeper (envOfC qual (defScope st) s.heap.objs.size f cdv)) →
      SSs (cxOf (L2.CX P w) P w K mg base N qual (defScope st) f cdv A outer s H E) g (fun cls d _ H => E cls d H) (defBody st) m) :
    FnOk P w K mg base (L2.CX P w) (k + 1) f fd ps (spOf g ps.length (runDef n m)) :=
  F.okX S (fun vs H Q E h => h.1) fun cdv A outer s H vs Q E hr h => by
    obtain ⟨hl, μ, hh, pvs, hp, r, o⟩ := h
    exact ⟨_, hbody cdv A outer s H E hr, body_out hn hp r o⟩
/-- a def that may be called by name -/
structure DefOk (P : Program) (w : World) (K : PySem.W.Frag) (mg : Str → Option Value) (base : Heap) (g : G) (k : Nat) (x : Str) (n : Nat) (F : FSem) : Prop where
  ex : ∃ f fd ps, mg x = some (.ref f) ∧ PySem.W.keepIn K (.ref f) = true ∧ Binds K fd ps [] ∧ FnOk P w K mg base (L2.CX P w) k f fd ps (spOf g n F)
structure MethOk (P : Program) (w : World) (K : PySem.W.Frag) (mg : Str → Option Value) (base : Heap) (g : G) (k : Nat) (c : Nat) (x : Str) (n : Nat) (F : FSem) : Prop where
  ex : ∃ f fd ps, Meth K (g.ct c) x f ∧ Binds K fd ps [] ∧ FnOk P w K mg base (L2.CX P w) k f fd ps (spOf g n F)
structure MakeOk (P : Program) (w : World) (K : PySem.W.Frag) (mg : Str → Option Value) (base : Heap) (g : G) (k : Nat) (c : Nat) (x : Str) (n : Nat) (F : FSem) : Prop where
  ex : ∃ f fd ps, Mk K (g.ct c) f ∧ mg x = some (.ref (g.ct c)) ∧ Binds K fd ps [] ∧ FnOk P w K mg base (L2.CX P w) k f fd ps (spOf g n F)
end

/-! ### calls -/
def liftF (r : FRes) (cs : CSt) : CRes RV := match r with
  | .ok (.pv p) h => .ok (.pv p) { cs with h := h }
  | .ok (.own c) h => .ok (.own c) { cs with h := h }
  | .exc x h => .exc x { cs with h := h }
  | .stuck => .stuck
def eCall (F : FSem) (m : CM (List PV)) : CM RV := do
  let ps ← m
  fun cs => liftF (F ps cs.h) cs
theorem call_fct {h' : List CO} (k : Fct g M μ H μ1 cs1 σ H1) (f : FFct g μ1 H1 μ' h' H') : Fct g M μ H μ' { cs1 with h := h' } σ H' := by
  have st : Stays μ1 H1 μ' H' := by
    refine ⟨fun a xs e => f.keep.k1 a _ e fun z => ?_, fun a o u e => f.keep.k1 a _ e fun z => ?_, fun a o e => f.keep.k1 a _ e fun z => ?_, f.ext⟩
    · obtain ⟨o, q, mk⟩ := k.rel.hp.mut z
      rw [e] at q; cases q; cases mk
    · obtain ⟨o, q, mk⟩ := k.rel.hp.mut z
      rw [e] at q; cases q; cases mk
    · obtain ⟨o, q, mk⟩ := k.rel.hp.mut z
      rw [e] at q; cases q; cases mk
  refine ⟨⟨f.rel, k.rel.len, fun i s v h1 h2 => ?_, k.rel.ap⟩, ⟨fun a o e n => ?_, fun a m => ?_⟩, fun l a e => f.ext l a (k.ext l a e)⟩
  · have q := k.rel.sl i s v h1 h2
    cases s with
    | emp => trivial
    | exn x => obtain ⟨a, cl, d, z1, z2, z3⟩ := q; exact ⟨a, cl, d, z1, z2, z3.stays st⟩
    | pv p => obtain ⟨x, e, q⟩ := q; exact ⟨x, e, q.stays st⟩
    | own c =>
      obtain ⟨a, e, q, na⟩ := q
      refine ⟨a, e, q.stays st fun o ho => f.keep.k1 a o ho na, fun z => ?_⟩
      rcases f.keep.k2 a z with z | z
      · exact na z
      · obtain ⟨o, ho, _⟩ := q.mut
        rw [ho] at z; cases z
  · have q := k.keep.k1 a o e n
    refine f.keep.k1 a o q fun z => ?_
    rcases k.keep.k2 a (.inl z) with y | y
    · exact n y
    · rw [e] at y; cases y
  · rcases m with m | ⟨i, c, h1, h2⟩
    · rcases f.keep.k2 a m with z | z
      · exact k.keep.k2 a (.inl z)
      · exact avail k.keep z
    · exact k.keep.k2 a (.inr ⟨i, c, h1, h2⟩)
theorem call_out {F : FSem} {ps : List PV} {vs : List V} {Q : VK} {n : Nat} (hn : vs.length = n) (k : Fct g M μ H μ1 cs1 σ H1) (r : PVsRel g μ1 H1 ps vs) (o : Out g W M μ H σ (liftF (F ps cs1.h) cs1) fun rv cs' μ' H' => ∀ v, RVRel g M H μ' cs' σ H' rv v → Q v H') :
    spOf g n F vs H1 Q (WE W σ) := by
  refine ⟨hn, μ1, cs1.h, ps, k.rel.hp, r, ?_⟩
  cases e : F ps cs1.h with
  | stuck => rw [e] at o; exact o
  | exc x h' =>
    rw [e] at o
    exact fun μ' H' cls d f q => o μ' H' cls d (call_fct k f) q
  | ok rv h' =>
    rw [e] at o
    intro μ' H' v f q
    have kk := call_fct k f
    cases rv with
    | pv p => exact o μ' H' kk v q
    | own c =>
      obtain ⟨a, rfl, q, na, av⟩ := q
      refine o μ' H' kk _ ⟨a, rfl, q, fun hm => ?_, ?_⟩
      · rcases hm with hm | ⟨i, d, h1, h2⟩
        · exact na hm
        · obtain ⟨b, eb, qb, nb⟩ := k.rel.sl i _ _ h1 h2
          cases eb
          rcases av with z | z
          · exact nb z
          · obtain ⟨o', ho, _⟩ := qb.mut
            rw [ho] at z; cases z
      · rcases av with z | z
        · exact k.keep.k2 a (.inl z)
        · exact avail k.keep z
section
variable {k n : Nat} {x m : Str} {F : FSem} {ma : CM (List PV)} {mo : CM RV} {e o : Expr} {es : List Expr} {p pos apos : Pos}
theorem se_call (D : DefOk X.prog X.w X.K X.mg X.base g k x n F) (tk : Takes X W) (hr : Room k X.A) (ha : SA X g W (e :: es) ma) (hn : (e :: es).length = n := by rfl) (hg : Gl X x := by rfl) (hdb : (x == ("__debug__" : Str)) = false := by decide)
    (he : starEach (e :: es) X.env = (false, eval e X.env) :: starEach es X.env := by rfl) (hpl : (backTo pos (starEach es X.env)).any (·.1) = false := by rfl) (hl : ∀ cs ps cs', ma cs = .ok ps cs' → ps.length = n) :
    SE X g W (.Call (.Name x p) (e :: es) [] pos) (eCall F ma) := by
  obtain ⟨f, fd, ps, hm, hk, hb, ok⟩ := D.ex
  refine PE.mono (pe_callS ok hr hg hm hk hb (fun σ => passAt tk σ) ha hdb he hpl) fun σ H Q h => ?_
  obtain ⟨μ, cs, rel, o⟩ := h
  refine ⟨μ, cs, rel, (Out.bind o).mono fun ps cs1 μ1 H1 e1 k1 h1 vs hv => ?_⟩
  exact call_out (by rw [← hv.length]; exact hl _ _ _ e1) k1 hv h1
theorem se_call0 (D : DefOk X.prog X.w X.K X.mg X.base g k x 0 F) (tk : Takes X W) (hr : Room k X.A) (hg : Gl X x := by rfl) (hdb : (x == ("__debug__" : Str)) = false := by decide) :
    SE X g W (.Call (.Name x p) [] [] pos) (eCall F aNil) := by
  obtain ⟨f, fd, ps, hm, hk, hb, ok⟩ := D.ex
  refine ⟨fun pins s σ H Q I h => ?_⟩
  obtain ⟨μ, cs, rel, o⟩ := h
  refine wpAny_Call_Name_kw (ld_glob I hg hm ?_ hdb)
  exact PySem.W.callWith_K0 I.kIn hk (run_fnS (us := []) ok hr hb (passAt tk σ) I .nil (call_out (ps := []) rfl (Fct.refl rel) .nil o))
end
theorem aNil_len : ∀ cs ps cs', aNil cs = .ok ps cs' → ps.length = 0 := fun cs ps cs' h => by cases h; rfl
theorem aCons_len {a : CM PV} {r : CM (List PV)} {n : Nat} (hr : ∀ cs ps cs', r cs = .ok ps cs' → ps.length = n) : ∀ cs ps cs', aCons a r cs = .ok ps cs' → ps.length = n + 1 := fun cs ps cs' h => by
  unfold aCons at h
  rw [bind_def] at h
  split at h
  · rw [bind_def] at h
    split at h
    · rename_i q cs2 e2
      cases h
      simp [hr _ _ _ e2]
    · cases h
    · cases h
  · cases h
  · cases h

/-! ### methods of own classes; new instances -/
section
variable {k n c : Nat} {x m : Str} {F : FSem} {ma : CM (List PV)} {mo : CM RV} {e o : Expr} {es : List Expr} {p pos apos : Pos}
/-- the receiver: an instance of the class c that has no field of that name -/
def rcv (c : Nat) (m : Str) (x : RV) : CM PV := fun cs => match valC cs x with
  | some (.loc l) => match cs.h[l]? with
    | some (.inst c' fs) => if c' = c ∧ fs.lookup m = none then .ok (.loc l) cs else .stuck
    | _ => .stuck
  | _ => .stuck
def eMeth (c : Nat) (m : Str) (F : FSem) (mo : CM RV) (ma : CM (List PV)) : CM RV := do
  let x ← mo
  let s ← rcv c m x
  let ps ← ma
  fun cs => liftF (F (s :: ps) cs.h) cs
theorem fld_none {fs : List (Str × PV)} {fv : List (Str × V)} (r : FldRel g μ H fs fv) {f : Str} (h : fs.lookup f = none) : fv.lookup f = none := by
  induction r with
  | nil => rfl
  | @cons a b as bs q t ih =>
    obtain ⟨k, p'⟩ := a
    obtain ⟨k', v'⟩ := b
    obtain ⟨e, r⟩ := q
    simp only at e r
    subst e
    simp only [List.lookup_cons] at h ⊢
    cases z : f == k with
    | true => rw [z] at h; cases h
    | false => rw [z] at h; exact ih h
theorem rcv_rel {x : RV} {v : V} {s : PV} (r : Rel g μ cs σ H) (hv : RVRel g M H0 μ cs σ H x v) (h : rcv c m x cs = .ok s cs') : cs' = cs ∧ PVRel g μ H s v ∧ ∃ a dx fv, v = .ref a ∧ H a = some (.ins (g.ct c) dx fv) ∧ fv.lookup m = none := by
  unfold rcv at h
  split at h
  · rename_i l el
    split at h
    · rename_i c' fs ef
      split at h
      · rename_i z
        obtain ⟨rfl, z⟩ := z
        cases h
        have q := valC_rel r hv el
        obtain ⟨a, rfl, _, dx, fv, e1, e2⟩ := locRel r q ef
        exact ⟨rfl, q, a, dx, fv, rfl, e1, fld_none e2 z⟩
      · cases h
    · cases h
  · cases h
theorem rcv_cases {x : RV} : (∃ s, rcv c m x cs = .ok s cs) ∨ rcv c m x cs = .stuck := by
  unfold rcv
  split
  · split
    · split
      · exact .inl ⟨_, rfl⟩
      · exact .inr rfl
    · exact .inr rfl
  · exact .inr rfl
theorem se_meth {pl : Sem Bool} (D : MethOk X.prog X.w X.K X.mg X.base g k c m n F) (cl : Cls X.K (g.ct c)) (tk : Takes X W) (hr : Room k X.A) (ho : SE X g W o mo) (ha : SA X g W (e :: es) ma) (hl : ∀ cs ps cs', ma cs = .ok ps cs' → ps.length + 1 = n)
    (hst : starEach (e :: es) X.env = (false, eval e X.env) :: starEach es X.env := by rfl) (hpl : (backTo pos (starEach es X.env)).any (·.1) = false := by rfl)
    (ht : eval (.Call (.Attribute o m apos) (e :: es) [] pos) X.env = (do
      let ov ← eval o X.env
      standAt apos.atName
      let (f, first) ← holding [ov] (getMethod ov m pl)
      callWith pos f first (backTo pos (starEach (e :: es) X.env)) (backToKw pos (keywordEach [] X.env))) := by rfl) :
    SE X g W (.Call (.Attribute o m apos) (e :: es) [] pos) (eMeth c m F mo ma) := by
  obtain ⟨f, fd, ps, hm, hb, ok⟩ := D.ex
  refine ⟨fun pins s σ H Q I h => ?_⟩
  obtain ⟨μ, cs, rel, oo⟩ := h
  refine PySem.W.methodCall_KW (pl := pl) (thn (ho.run pins s σ H (fun v H1 => ∃ a dx fs, v = .ref a ∧ H1 a = some (.ins (g.ct c) dx fs) ∧ fs.lookup m = none ∧ tOfA g W ma σ H1 fun vs H2 => spOf g n F (v :: vs) H2 Q (WE W σ)) I ⟨μ, cs, rel, (Out.bind oo).mono fun x cs1 μ1 H1 _ k1 h1 v hv => ?_⟩) fun u s1 ⟨x, H1, I1, rx, a, dx, fs, ex, ea, l, q⟩ => ?_) ht
  · have h2 := Out.bind h1
    rcases rcv_cases (c := c) (m := m) (x := x) (cs := cs1) with ⟨sv, es⟩ | es
    · rw [es] at h2
      obtain ⟨_, rs, a, dx, fv, e1, e2, e3⟩ := rcv_rel k1.rel hv es
      refine ⟨a, dx, fv, e1, e2, e3, μ1, cs1, k1.rel, ((Out.bind (h2 μ1 H1 k1)).rebase k1).mono fun ps' cs2 μ2 H2 eps k2 h3 vs hvs => ?_⟩
      exact call_out (ps := sv :: ps') (by rw [List.length_cons, ← hvs.length]; exact hl _ _ _ eps) (k1.trans k2) (.cons (rs.stays (k2.stays k1.rel)) hvs) h3
    · rw [es] at h2; exact h2.elim
  · subst ex
    obtain rfl : u = Value.ref a := rx
    refine getmeth_ok I1 ea cl hm l ?_
    refine PySem.W.callWith_K (first := [.ref a]) (h₀ := X.base) I.ok.mod.kin hm.kp (thn (ha.run pos pins s1 σ H1 _ I1 q) fun us s2 ⟨vs, H2, I2, r, q2⟩ => ⟨I2.kIn, ?_⟩) hst hpl
    exact run_fnS (us := .ref a :: us) (vs := .ref a :: vs) ok hr hb (passAt tk σ) I2 (.cons rfl r) q2
theorem se_meth0 {pl : Sem Bool} (D : MethOk X.prog X.w X.K X.mg X.base g k c m 1 F) (cl : Cls X.K (g.ct c)) (tk : Takes X W) (hr : Room k X.A) (ho : SE X g W o mo)
    (ht : eval (.Call (.Attribute o m apos) [] [] pos) X.env = (do
      let ov ← eval o X.env
      standAt apos.atName
      let (f, first) ← holding [ov] (getMethod ov m pl)
      callWith pos f first (backTo pos (starEach [] X.env)) (backToKw pos (keywordEach [] X.env))) := by rfl) :
    SE X g W (.Call (.Attribute o m apos) [] [] pos) (eMeth c m F mo aNil) := by
  obtain ⟨f, fd, ps, hm, hb, ok⟩ := D.ex
  refine ⟨fun pins s σ H Q I h => ?_⟩
  obtain ⟨μ, cs, rel, oo⟩ := h
  refine PySem.W.methodCall_KW (pl := pl) (thn (ho.run pins s σ H (fun v H1 => ∃ a dx fs, v = .ref a ∧ H1 a = some (.ins (g.ct c) dx fs) ∧ fs.lookup m = none ∧ spOf g 1 F [v] H1 Q (WE W σ)) I ⟨μ, cs, rel, (Out.bind oo).mono fun x cs1 μ1 H1 _ k1 h1 v hv => ?_⟩) fun u s1 ⟨x, H1, I1, rx, a, dx, fs, ex, ea, l, q⟩ => ?_) ht
  · have h2 := Out.bind h1
    rcases rcv_cases (c := c) (m := m) (x := x) (cs := cs1) with ⟨sv, es⟩ | es
    · rw [es] at h2
      obtain ⟨_, rs, a, dx, fv, e1, e2, e3⟩ := rcv_rel k1.rel hv es
      exact ⟨a, dx, fv, e1, e2, e3, call_out (ps := [sv]) rfl k1 (.cons rs .nil) (h2 μ1 H1 k1)⟩
    · rw [es] at h2; exact h2.elim
  · subst ex
    obtain rfl : u = Value.ref a := rx
    refine getmeth_ok I1 ea cl hm l ?_
    exact PySem.W.callWith_K0 (first := [.ref a]) I1.kIn hm.kp (run_fnS (us := [.ref a]) (vs := [.ref a]) ok hr hb (passAt tk σ) I1 (.cons rfl .nil) q)
/-- C(..) -/
def eMake (c : Nat) (F : FSem) (m : CM (List PV)) : CM RV := do
  let ps ← m
  fun cs => match F (.loc cs.h.length :: ps) (cs.h ++ [.inst c []]) with
    | .ok (.pv .non) h => .ok (.pv (.loc cs.h.length)) { cs with h := h }
    | .exc x h => .exc x { cs with h := h }
    | _ => .stuck
theorem Rel.pushI (r : Rel g μ cs σ H) {a dx : Addr} {c : Nat} (ha : H a = none) (hd : H dx = none) (hne : dx ≠ a) :
    Rel g (μ ++ [a]) { cs with h := cs.h ++ [.inst c []] } σ (upd (upd H dx (.own a)) a (.ins (g.ct c) dx [])) := by
  have ha' : upd H dx (.own a) a = none := by rw [upd_ne (Ne.symm hne)]; exact ha
  have kk : ∀ b u, H b = some u → upd (upd H dx (.own a)) a (.ins (g.ct c) dx []) b = some u := fun b u h => updK (ne_of_none h ha) (updK (ne_of_none h hd) h)
  have st : Stays μ H (μ ++ [a]) (upd (upd H dx (.own a)) a (.ins (g.ct c) dx [])) := ⟨fun b xs h => kk b _ h, fun b o u h => kk b _ h, fun b o h => kk b _ h, ext_push⟩
  have na : a ∉ μ := fun z => by
    obtain ⟨o, q, _⟩ := r.hp.mut z
    rw [ha] at q; cases q
  refine ⟨⟨by simp [r.hp.len], ?_, fun l u b h1 h2 => ?_⟩, r.len, fun i s v h1 h2 => ?_, r.ap⟩
  · rw [List.nodup_append]
    refine ⟨r.hp.nd, by simp, fun x hx y hy z => ?_⟩
    rw [List.mem_singleton] at hy
    exact na (by rw [← hy, ← z]; exact hx)
  · by_cases hl : l < cs.h.length
    · rw [List.getElem?_append_left hl] at h1
      rw [List.getElem?_append_left (by rw [r.hp.len]; exact hl)] at h2
      exact (r.hp.obj l u b h1 h2).stays st fun o => kk b o
    · have hl2 : cs.h.length ≤ l := Nat.le_of_not_lt hl
      rw [List.getElem?_append_right hl2] at h1
      rw [List.getElem?_append_right (by rw [r.hp.len]; exact hl2)] at h2
      rw [r.hp.len] at h2
      cases hz : l - cs.h.length with
      | zero =>
        rw [hz] at h1 h2
        simp at h1 h2
        subst h1; subst h2
        exact ⟨dx, [], upd_same, .nil⟩
      | succ m => rw [hz] at h1; simp at h1
  · have q2 := r.sl i s v h1 h2
    cases s with
    | emp => trivial
    | exn x => obtain ⟨a, cl, d, z1, z2, z3⟩ := q2; exact ⟨a, cl, d, z1, z2, z3.stays st⟩
    | pv p => obtain ⟨x, e, q⟩ := q2; exact ⟨x, e, q.stays st⟩
    | own d =>
      obtain ⟨b, e2, q3, nb⟩ := q2
      refine ⟨b, e2, q3.stays st fun o => kk b o, fun hm => ?_⟩
      rcases List.mem_append.mp hm with z | z
      · exact nb z
      · rw [List.mem_singleton] at z
        subst z
        obtain ⟨o, q, _⟩ := q3.mut
        rw [ha] at q; cases q
theorem run_makeS {pins : List (Addr × Obj)} {s : Shared} {sp : Sp} {C f : Addr} {fd : FuncData} {ps : List Str} {CX : CXT} {E : L2.St → XK} {Q : VK} {us : List Value} {vs : List V} (M : Mk X.K C f) (F : FnOk X.prog X.w X.K X.mg X.base CX k f fd ps sp) (hr : Room (k + 1) X.A) (hb : Binds X.K fd ps [])
    (hx : PassesAt CX X σ (E σ)) (I : L2.Inv X pins σ H s) (r : Vals vs us)
    (h : ∀ x dx, H x = none → H dx = none → dx ≠ x → sp (.ref x :: vs) (upd (upd H dx (.own x)) x (.ins C dx [])) (fun v H2 => v = .non ∧ Q (.ref x) H2) (E σ)) :
    wpAny (model X.prog X.w) X.A (call (.ref C) us) (EP X pins σ Q) X.xe s := by
  have hq := h (s.heap.objs.size + 1) s.heap.objs.size (I.hok.fresh (Nat.le_succ _)) (I.hok.fresh (Nat.le_refl _)) (Nat.ne_of_lt (Nat.lt_succ_self _))
  have I2 := Inv.made (C := C) I
  have r2 : Vals (V.ref (s.heap.objs.size + 1) :: vs) (Value.ref (s.heap.objs.size + 1) :: us) := .cons rfl r
  have hl : (Value.ref (s.heap.objs.size + 1) :: us).length = ps.length := by
    have e := r2.length
    rw [F.len _ _ _ _ hq] at e
    exact e.symm
  have b := hb _ (Value.ref (s.heap.objs.size + 1) :: us) I2.kIn (by rw [List.append_nil]; exact hl)
  rw [List.append_nil] at b
  refine wpAny_call (make_map (f := f) I.kIn M.makes M.init (beq_iff_eq.mp M.fn) (codeAny_mono (F.run _ X.stack _ _ ⟨Value.ref (s.heap.objs.size + 1) :: us, []⟩ (Value.ref (s.heap.objs.size + 1) :: us) _ _ (E σ) (hr.make C us [])
    (I2.env0.make C us []) b r2 hq) fun r s' hq' => ?_))
  cases r with
  | error e => exact hx pins _ _ e s' I2 hq'
  | ok fl =>
    cases fl with
    | ret u =>
      obtain ⟨v, H', I3, rv, ev, q3⟩ := I2.after hq'
      subst ev
      exact ⟨rv, ⟨V.ref (s.heap.objs.size + 1), H', I3, rfl, q3⟩⟩
    | next => exact False.elim hq'
    | brk => exact False.elim hq'
    | cont => exact False.elim hq'
theorem se_make (D : MakeOk X.prog X.w X.K X.mg X.base g k c x n F) (tk : Takes X W) (hr : Room (k + 1) X.A) (ha : SA X g W (e :: es) ma) (hl : ∀ cs ps cs', ma cs = .ok ps cs' → ps.length + 1 = n) (hg : Gl X x := by rfl) (hdb : (x == ("__debug__" : Str)) = false := by decide)
    (he : starEach (e :: es) X.env = (false, eval e X.env) :: starEach es X.env := by rfl) (hpl : (backTo pos (starEach es X.env)).any (·.1) = false := by rfl) :
    SE X g W (.Call (.Name x p) (e :: es) [] pos) (eMake c F ma) := by
  obtain ⟨f, fd, ps, mk, hm, hb, ok⟩ := D.ex
  refine ⟨fun pins s σ H Q I h => ?_⟩
  obtain ⟨μ, cs, rel, oo⟩ := h
  refine wpAny_Call_Name_kw (ld_glob I hg hm ?_ hdb)
  refine PySem.W.callWith_K (h₀ := X.base) I.ok.mod.kin mk.kp (thn (ha.run pos pins s σ H (fun vs H1 => ∀ x dx, H1 x = none → H1 dx = none → dx ≠ x → spOf g n F (.ref x :: vs) (upd (upd H1 dx (.own x)) x (.ins (g.ct c) dx [])) (fun v H2 => v = .non ∧ Q (.ref x) H2) (WE W σ)) I
    ⟨μ, cs, rel, (Out.bind oo).mono fun ps' cs1 μ1 H1 eps k1 h1 vs hvs x dx hx hd hne => ?_⟩) fun us s1 ⟨vs, H1, I1, r, q⟩ => ⟨I1.kIn, ?_⟩) he hpl
  · have r1 := k1.rel.pushI (c := c) hx hd hne
    have lx : (μ1 ++ [x])[cs1.h.length]? = some x := get_push k1.rel
    have kk : ∀ b u, H1 b = some u → upd (upd H1 dx (.own x)) x (.ins (g.ct c) dx []) b = some u := fun b u h => updK (ne_of_none h hx) (updK (ne_of_none h hd) h)
    have st : Stays μ1 H1 (μ1 ++ [x]) (upd (upd H1 dx (.own x)) x (.ins (g.ct c) dx [])) := ⟨fun b xs h => kk b _ h, fun b o u h => kk b _ h, fun b o h => kk b _ h, ext_push⟩
    have kF : Fct g (Md μ cs.sl σ) μ H (μ1 ++ [x]) { cs1 with h := cs1.h ++ [.inst c []] } σ (upd (upd H1 dx (.own x)) x (.ins (g.ct c) dx [])) := by
      refine ⟨r1, ⟨fun b u h nm => kk b u (k1.keep.k1 b u h nm), fun b hb => ?_⟩, fun l b h => ext_push l b (k1.ext l b h)⟩
      rcases md_push hb with z | z
      · exact k1.keep.k2 b z
      · rw [z]; exact avail k1.keep hx
    refine ⟨by rw [List.length_cons, ← hvs.length]; exact hl _ _ _ eps, μ1 ++ [x], cs1.h ++ [.inst c []], .loc cs1.h.length :: ps', r1.hp, .cons (.loc lx) (hvs.stays st), ?_⟩
    cases ef : F (.loc cs1.h.length :: ps') (cs1.h ++ [.inst c []]) with
    | stuck => simp only [ef] at h1; exact h1
    | exc x' h' =>
      simp only [ef] at h1
      exact fun μ' H' cls d f q => h1 μ' H' cls d (call_fct (cs1 := { cs1 with h := cs1.h ++ [.inst c []] }) kF f) q
    | ok rv h' =>
      simp only [ef] at h1
      cases rv with
      | own _ => exact h1.elim
      | pv rv =>
        cases rv with
        | non =>
          intro μ' H' v f q
          cases q
          exact ⟨rfl, h1 μ' H' (call_fct (cs1 := { cs1 with h := cs1.h ++ [.inst c []] }) kF f) _ (.loc (f.ext _ _ lx))⟩
        | _ => exact h1.elim
  · exact run_makeS mk ok hr hb (passAt tk σ) I1 r q
end
end CL

/-! CL10: dicts, below the rules: what stands in the heap. -/
namespace CL
open PySem L2 PyProof.Rows
variable {g : G} {W : WX} {M : Addr → Prop} {μ μ' μ1 μ2 : List Addr} {H H' H0 H1 H2 : Hp} {σ σ1 σ2 : L2.St} {cs cs' cs1 cs2 : CSt} {X : Cx}

/-! ### keys -/
mutual
theorem nk_inj : ∀ (p q : PV) (k : NestedKey), nk p = some k → nk q = some k → p = q
  | .non, q, k, h1, h2 => by
    simp only [nk, Option.some.injEq] at h1
    subst h1
    cases q <;> simp [nk] at h2 ⊢
  | .bl _, _, _, h1, _ => by simp [nk] at h1
  | .int i, q, k, h1, h2 => by
    simp only [nk, Option.some.injEq] at h1
    subst h1
    cases q <;> simp [nk] at h2 ⊢
    exact h2.symm
  | .str x, q, k, h1, h2 => by
    simp only [nk, Option.some.injEq] at h1
    subst h1
    cases q <;> simp [nk] at h2 ⊢
    exact h2.symm
  | .tup xs, q, k, h1, h2 => by
    simp only [nk, Option.map_eq_some_iff] at h1
    obtain ⟨ks, e, rfl⟩ := h1
    cases q with
    | tup ys =>
      simp only [nk, Option.map_eq_some_iff] at h2
      obtain ⟨ks', e', z⟩ := h2
      cases z
      rw [nks_inj xs ys ks e e']
    | _ => simp [nk] at h2
  | .lst _, _, _, h1, _ => by simp [nk] at h1
  | .loc _, _, _, h1, _ => by simp [nk] at h1
  | .clo _ _, _, _, h1, _ => by simp [nk] at h1
theorem nks_inj : ∀ (ps qs : List PV) (ks : List NestedKey), nks ps = some ks → nks qs = some ks → ps = qs
  | [], qs, ks, h1, h2 => by
    simp only [nks, Option.some.injEq] at h1
    subst h1
    cases qs with
    | nil => rfl
    | cons q qs =>
      simp only [nks] at h2
      split at h2 <;> cases h2
  | p :: ps, qs, ks, h1, h2 => by
    simp only [nks] at h1
    split at h1
    · rename_i k kr e1 e2
      cases h1
      cases qs with
      | nil => simp [nks] at h2
      | cons q qs =>
        simp only [nks] at h2
        split at h2
        · rename_i k' kr' e3 e4
          cases h2
          rw [nk_inj p q k e1 e3, nks_inj ps qs kr e2 e4]
        · cases h2
    · cases h1
end
theorem tupK_nk {p : PV} {k : NestedKey} (h : tupK p = some k) : nk p = some k ∧ k.depth ≤ 8 ∧ ∃ xs, p = .tup xs := by
  cases p with
  | tup xs =>
    simp only [tupK] at h
    split at h
    · rename_i k' e
      split at h
      · rename_i z; cases h; exact ⟨e, z, xs, rfl⟩
      · cases h
    · cases h
  | _ => simp [tupK] at h
theorem tupK_inj {p q : PV} {k : NestedKey} (h1 : tupK p = some k) (h2 : tupK q = some k) : p = q := nk_inj p q k (tupK_nk h1).1 (tupK_nk h2).1
theorem leafK_inj {p q : PV} {k : Key} (h1 : leafK p = some k) (h2 : leafK q = some k) : p = q := by
  cases p <;> simp only [leafK, Option.some.injEq, reduceCtorEq] at h1 <;> subst h1 <;> cases q <;> simp only [leafK, Option.some.injEq, reduceCtorEq] at h2 <;> cases h2 <;> rfl
theorem leafK_V {p : PV} {v : V} {k : Key} (h : PVRel g μ H p v) (e : leafK p = some k) : v = kV k := by
  cases h <;> simp only [leafK, Option.some.injEq, reduceCtorEq] at e <;> subst e <;> rfl
theorem leaf_tup {p : PV} {k : Key} {n : NestedKey} (h : leafK p = some k) (h' : tupK p = some n) : False := by
  cases p <;> simp [leafK, tupK] at h h'
section
variable {pins : List (Addr × Obj)} {s : Shared}
mutual
theorem nested_of (I : L2.Inv X pins σ H s) (hK : g.K = X.K) : ∀ (p : PV) (v : V) (u : Value) (k : NestedKey), PVRel g μ H p v → RelV v u → nk p = some k → NestedIs s.heap k u
  | .non, _, _, _, .non, r, h => by cases r; simp only [nk, Option.some.injEq] at h; subst h; exact .none
  | .bl _, _, _, _, _, _, h => by simp [nk] at h
  | .int _, _, _, _, .int _, r, h => by obtain ⟨t, rfl⟩ := r; simp only [nk, Option.some.injEq] at h; subst h; exact .int _ _
  | .str _, _, _, _, .str _, r, h => by obtain ⟨t, rfl⟩ := r; simp only [nk, Option.some.injEq] at h; subst h; exact .text _ _
  | .tup xs, _, _, _, .tup h1 h2, r, h => by
    simp only [nk, Option.map_eq_some_iff] at h
    obtain ⟨ks, e, rfl⟩ := h
    cases r
    obtain ⟨its, r1, ⟨o, ho, hc, n, hd⟩, _⟩ := I.tuple (hK ▸ h1)
    exact .tup ho hc hd (by simpa using nesteds_of I hK xs _ _ ks h2 r1 e)
  | .lst _, _, _, _, _, _, h => by simp [nk] at h
  | .loc _, _, _, _, _, _, h => by simp [nk] at h
  | .clo _ _, _, _, _, _, _, h => by simp [nk] at h
theorem nesteds_of (I : L2.Inv X pins σ H s) (hK : g.K = X.K) : ∀ (ps : List PV) (vs : List V) (us : List Value) (ks : List NestedKey), PVsRel g μ H ps vs → Vals vs us → nks ps = some ks → NestedAll s.heap ks us
  | [], _, _, _, .nil, r, h => by cases r; simp only [nks, Option.some.injEq] at h; subst h; exact .nil
  | p :: ps, _, _, _, .cons h1 h2, r, h => by
    cases r with
    | cons r1 r2 =>
      simp only [nks] at h
      split at h
      · rename_i k kr e1 e2
        cases h
        exact .cons (nested_of I hK p _ _ k h1 r1 e1) (nesteds_of I hK ps _ _ kr h2 r2 e2)
      · cases h
end

/-! ### the dict as pairs -/
def dget (kvs : List (PV × PV)) (k : PV) : Option PV := (kvs.find? fun q => decide (q.1 = k)).map (·.2)
def dput (kvs : List (PV × PV)) (k v : PV) : List (PV × PV) := if (kvs.any fun q => decide (q.1 = k)) = true then kvs.map (fun q => if q.1 = k then (q.1, v) else q) else kvs ++ [(k, v)]
def ddel (kvs : List (PV × PV)) (k : PV) : List (PV × PV) := kvs.filter fun q => decide (q.1 ≠ k)
abbrev TP (g : G) (μ : List Addr) (H : Hp) : PV × PV → NestedKey × Addr × Value → Prop := fun p x => tupK p.1 = some x.1 ∧ PVRel g μ H p.1 (.ref x.2.1) ∧ ∃ v, RelV v x.2.2 ∧ PVRel g μ H p.2 v
abbrev LP (g : G) (μ : List Addr) (H : Hp) : PV × PV → Key × V → Prop := fun p q => leafK p.1 = some q.1 ∧ PVRel g μ H p.2 q.2
theorem tp_get {kvs : List (PV × PV)} {xs : List (NestedKey × Addr × Value)} (r : Paired (TP g μ H) kvs xs) {k : PV} {n : NestedKey} (hk : tupK k = some n) :
    match dget kvs k with
    | some q => ∃ p v, atKey xs n = some p ∧ RelV v p.2 ∧ PVRel g μ H q v
    | none => atKey xs n = none := by
  induction r with
  | nil => rfl
  | @cons a b as bs q t ih =>
    obtain ⟨e1, e2, v, e3, e4⟩ := q
    by_cases z : a.1 = k
    · have z' : b.1 = n := by rw [z, hk] at e1; exact (Option.some.inj e1).symm
      simp only [dget, List.find?_cons, z, decide_true, Option.map_some, atKey, z']
      exact ⟨_, v, rfl, e3, e4⟩
    · have z' : ¬ b.1 = n := fun y => z (by rw [y] at e1; exact tupK_inj e1 hk)
      have h1 : dget (a :: as) k = dget as k := by simp [dget, List.find?_cons, z]
      have h2 : atKey (b :: bs) n = atKey bs n := by simp [atKey, List.find?_cons, z']
      rw [h1, h2]
      exact ih
theorem lp_get {kvs : List (PV × PV)} {xs : List (Key × V)} (r : Paired (LP g μ H) kvs xs) {k : PV} {n : Key} (hk : leafK k = some n) :
    match dget kvs k with
    | some q => ∃ v, valV xs n = some v ∧ PVRel g μ H q v
    | none => valV xs n = none := by
  induction r with
  | nil => rfl
  | @cons a b as bs q t ih =>
    obtain ⟨e1, e2⟩ := q
    by_cases z : a.1 = k
    · have z' : b.1 = n := by rw [z, hk] at e1; exact (Option.some.inj e1).symm
      simp only [dget, List.find?_cons, z, decide_true, Option.map_some, valV, z']
      exact ⟨_, rfl, e2⟩
    · have z' : ¬ b.1 = n := fun y => z (by rw [y] at e1; exact leafK_inj e1 hk)
      have h1 : dget (a :: as) k = dget as k := by simp [dget, List.find?_cons, z]
      have h2 : valV (b :: bs) n = valV bs n := by simp [valV, List.find?_cons, z']
      rw [h1, h2]
      exact ih
theorem dget_any (kvs : List (PV × PV)) (k : PV) : (kvs.any fun q => decide (q.1 = k)) = (dget kvs k).isSome := by
  induction kvs with
  | nil => rfl
  | cons a as ih =>
    by_cases z : a.1 = k
    · simp [dget, List.find?_cons, z]
    · have h1 : dget (a :: as) k = dget as k := by simp [dget, List.find?_cons, z]
      rw [h1, ← ih]
      simp [z]
theorem Paired.map2 {α β : Type} {F G' : α → β → Prop} {f : α → α} {f' : β → β} : ∀ {l₁ : List α} {l₂ : List β}, Paired F l₁ l₂ → (∀ a b, F a b → G' (f a) (f' b)) → Paired G' (l₁.map f) (l₂.map f')
  | _, _, .nil, _ => .nil
  | _, _, .cons r t, h => .cons (h _ _ r) (Paired.map2 t h)
theorem Paired.app {α β : Type} {F : α → β → Prop} : ∀ {l₁ m₁ : List α} {l₂ m₂ : List β}, Paired F l₁ l₂ → Paired F m₁ m₂ → Paired F (l₁ ++ m₁) (l₂ ++ m₂)
  | _, _, _, _, .nil, s => s
  | _, _, _, _, .cons r t, s => .cons r (Paired.app t s)
theorem Paired.filt {α β : Type} {F : α → β → Prop} {p : α → Bool} {q : β → Bool} (h : ∀ a b, F a b → p a = q b) : ∀ {l₁ : List α} {l₂ : List β}, Paired F l₁ l₂ → Paired F (l₁.filter p) (l₂.filter q)
  | _, _, .nil => .nil
  | a :: _, b :: _, .cons r t => by
    have e := h a b r
    rw [List.filter_cons, List.filter_cons, e]
    split
    · exact .cons r (Paired.filt h t)
    · exact Paired.filt h t
theorem tp_put {kvs : List (PV × PV)} {xs : List (NestedKey × Addr × Value)} (r : Paired (TP g μ H) kvs xs) {k q : PV} {n : NestedKey} {b : Addr} {v : V} {u : Value} (hk : tupK k = some n) (hb : PVRel g μ H k (.ref b)) (rv : RelV v u) (hq : PVRel g μ H q v) :
    Paired (TP g μ H) (dput kvs k q) (storedH xs n b u) := by
  have z := tp_get r hk
  unfold dput storedH
  rw [dget_any]
  cases e : dget kvs k with
  | some w =>
    rw [e] at z
    obtain ⟨p, w', h1, _⟩ := z
    rw [h1]
    simp only [Option.isSome_some, if_true]
    refine Paired.map2 r fun a x ⟨h1, h2, h3⟩ => ?_
    by_cases y : a.1 = k
    · have y' : x.1 = n := by rw [y, hk] at h1; exact (Option.some.inj h1).symm
      simp only [putAt, y, y', if_true]
      exact ⟨hk, y ▸ h2, v, rv, hq⟩
    · have y' : ¬ x.1 = n := fun c => y (by rw [c] at h1; exact tupK_inj h1 hk)
      simp only [putAt, y, y', if_false]
      exact ⟨h1, h2, h3⟩
  | none =>
    rw [e] at z
    rw [z]
    simp only [Option.isSome_none, Bool.false_eq_true, if_false]
    exact Paired.app r (.cons ⟨hk, hb, v, rv, hq⟩ .nil)
theorem lp_put {kvs : List (PV × PV)} {xs : List (Key × V)} (r : Paired (LP g μ H) kvs xs) {k q : PV} {n : Key} {v : V} (hk : leafK k = some n) (hq : PVRel g μ H q v) : Paired (LP g μ H) (dput kvs k q) (putK xs n v) := by
  have z := lp_get r hk
  unfold dput putK
  rw [dget_any, valV_any]
  cases e : dget kvs k with
  | some w =>
    rw [e] at z
    obtain ⟨w', h1, _⟩ := z
    rw [h1]
    simp only [Option.isSome_some, if_true]
    refine Paired.map2 r fun a x ⟨h1, h2⟩ => ?_
    by_cases y : a.1 = k
    · have y' : x.1 = n := by rw [y, hk] at h1; exact (Option.some.inj h1).symm
      simp only [y, y', if_true]
      exact ⟨hk, hq⟩
    · have y' : ¬ x.1 = n := fun c => y (by rw [c] at h1; exact leafK_inj h1 hk)
      simp only [y, y', if_false]
      exact ⟨h1, h2⟩
  | none =>
    rw [e] at z
    rw [z]
    simp only [Option.isSome_none, Bool.false_eq_true, if_false]
    exact Paired.app r (.cons ⟨hk, hq⟩ .nil)
theorem tp_del {kvs : List (PV × PV)} {xs : List (NestedKey × Addr × Value)} (r : Paired (TP g μ H) kvs xs) {k : PV} {n : NestedKey} (hk : tupK k = some n) : Paired (TP g μ H) (ddel kvs k) (withoutH xs n) := by
  refine Paired.filt (fun a x ⟨h1, _⟩ => ?_) r
  by_cases y : a.1 = k
  · have y' : x.1 = n := by rw [y, hk] at h1; exact (Option.some.inj h1).symm
    simp [y, y']
  · have y' : ¬ x.1 = n := fun c => y (by rw [c] at h1; exact tupK_inj h1 hk)
    simp [y, y']
theorem lp_del {kvs : List (PV × PV)} {xs : List (Key × V)} (r : Paired (LP g μ H) kvs xs) {k : PV} {n : Key} (hk : leafK k = some n) : Paired (LP g μ H) (ddel kvs k) (dropK xs n) := by
  refine Paired.filt (fun a x ⟨h1, _⟩ => ?_) r
  by_cases y : a.1 = k
  · have y' : x.1 = n := by rw [y, hk] at h1; exact (Option.some.inj h1).symm
    simp [y, y']
  · have y' : ¬ x.1 = n := fun c => y (by rw [c] at h1; exact leafK_inj h1 hk)
    simp [y, y']
theorem dput_length (kvs : List (PV × PV)) (k v : PV) : (dput kvs k v).length ≤ kvs.length + 1 := by
  unfold dput
  split <;> simp
theorem ddel_length (kvs : List (PV × PV)) (k : PV) : (ddel kvs k).length ≤ kvs.length := List.length_filter_le _ _
theorem Paired.len {α β : Type} {F : α → β → Prop} : ∀ {l₁ : List α} {l₂ : List β}, Paired F l₁ l₂ → l₁.length = l₂.length
  | _, _, .nil => rfl
  | _, _, .cons _ t => by simp [Paired.len t]

/-! ### a dict with tuples, with leaves, in the heap -/
/-- may k be asked of kvs -/
def keyOk (kvs : List (PV × PV)) (k : PV) : Bool := match kvs with
  | [] => (leafK k).isSome || (tupK k).isSome
  | q :: _ => ((leafK q.1).isSome && (leafK k).isSome) || ((tupK q.1).isSome && (tupK k).isSome)
theorem tp_head {kvs : List (PV × PV)} {xs : List (NestedKey × Addr × Value)} (r : Paired (TP g μ H) kvs xs) {k : PV} (h : keyOk kvs k = true) (hne : kvs ≠ []) : (tupK k).isSome = true := by
  cases r with
  | nil => exact absurd rfl hne
  | cons q t =>
    obtain ⟨e, _⟩ := q
    simp only [keyOk, Bool.or_eq_true, Bool.and_eq_true] at h
    rcases h with h | h
    · obtain ⟨k', hk'⟩ := Option.isSome_iff_exists.mp h.1
      exact (leaf_tup hk' e).elim
    · exact h.2
theorem lp_head {kvs : List (PV × PV)} {xs : List (Key × V)} (r : Paired (LP g μ H) kvs xs) {k : PV} (h : keyOk kvs k = true) (hne : kvs ≠ []) : (leafK k).isSome = true := by
  cases r with
  | nil => exact absurd rfl hne
  | cons q t =>
    obtain ⟨e, _⟩ := q
    simp only [keyOk, Bool.or_eq_true, Bool.and_eq_true] at h
    rcases h with h | h
    · exact h.2
    · obtain ⟨k', hk'⟩ := Option.isSome_iff_exists.mp h.1
      exact (leaf_tup e hk').elim
theorem raw_get {a : Addr} {o : Obj} (I : L2.Inv X pins σ H s) (e : H a = some (rawO a o)) : s.heap.get? a = some o := (I.hok a _ e).1
theorem raw_ok {P : Program} {w : World} {h' : Heap} {a : Addr} {o : Obj} (e : h'.get? a = some o) : ObjOk P w H h' a (rawO a o) := ⟨e, ⟨o, e⟩, fun h1 h2 q st => st o q⟩
/-- what a dict of either sort is, where a tuple is asked -/
theorem asT {kvs : List (PV × PV)} {a : Addr} {k : PV} {n : NestedKey} (I : L2.Inv X pins σ H s) (hP : g.P = X.prog) (hw : g.w = X.w) (hK : g.K = X.K) (c : ContRel g μ H (.dict kvs) a) (ok : keyOk kvs k = true) (hk : tupK k = some n) :
    kvs.length ≤ sizeLine ∧ (a == sysModules) = false ∧ ∃ xs, Paired (TP g μ H) kvs xs ∧ s.heap.DictOfH (nestedKind X.prog X.w) a xs := by
  rcases c with ⟨kv, e, r⟩ | ⟨o, e, hs, z, xs, h1, ⟨es, ep, h2, h3⟩, h4, r⟩
  · have hnil : kvs = [] := by
      refine Classical.byContradiction fun hne => ?_
      obtain ⟨k', hk'⟩ := Option.isSome_iff_exists.mp (lp_head r ok hne)
      exact leaf_tup hk' hk
    subst hnil
    cases r
    obtain ⟨z, hd, vs, rel, q⟩ := dk_of I.hok e
    cases rel
    obtain ⟨o, es, ep, q1, q2, q3, q4, q5, q6⟩ := q
    refine ⟨z, hd, [], .nil, o, es, ep, q1, q2, q3, ?_, (fun _ h => nomatch h), List.nodup_nil⟩
    cases hes : es.toList with
    | nil => rfl
    | cons x r => rw [hes] at q5; cases q5
  · refine ⟨z, hs, xs, r, o, es, ep, raw_get I e, h1, h2, by rw [h3, hP, hw], fun x hx => ?_, h4⟩
    have key : ∀ {l : List (PV × PV)} {ys : List (NestedKey × Addr × Value)}, Paired (TP g μ H) l ys → ∀ x ∈ ys, (nestedKind X.prog X.w).is s.heap x.1 x.2.1 := by
      intro l ys r
      induction r with
      | nil => exact fun x hx => nomatch hx
      | cons q t ih =>
        intro x hx
        rcases List.mem_cons.mp hx with rfl | hx
        · obtain ⟨e1, e2, _⟩ := q
          exact ⟨nested_of I hK _ _ _ _ e2 rfl (tupK_nk e1).1, (tupK_nk e1).2.1⟩
        · exact ih x hx
    exact key r x hx
theorem asL {kvs : List (PV × PV)} {a : Addr} {k : PV} {n : Key} (I : L2.Inv X pins σ H s) (c : ContRel g μ H (.dict kvs) a) (ok : keyOk kvs k = true) (hk : leafK k = some n) :
    (∃ kv, H a = some (.dK kv) ∧ Paired (LP g μ H) kvs kv) ∨ (kvs = [] ∧ ∃ o, H a = some (rawO a o) ∧ (a == sysModules) = false ∧ s.heap.DictOf (mixKind X.prog X.w) a []) := by
  rcases c with ⟨kv, e, r⟩ | ⟨o, e, hs, z, xs, h1, ⟨es, ep, h2, h3⟩, h4, r⟩
  · exact .inl ⟨kv, e, r⟩
  · have hnil : kvs = [] := by
      refine Classical.byContradiction fun hne => ?_
      obtain ⟨k', hk'⟩ := Option.isSome_iff_exists.mp (tp_head r ok hne)
      exact leaf_tup hk hk'
    subst hnil
    cases r
    have he : es.toList = [] := by rw [h3]; rfl
    have he' : es = #[] := by simpa using he
    subst he'
    exact .inr ⟨rfl, o, e, hs, o, #[], ep, raw_get I e, h1, h2, (by intro i hi; simp at hi), .nil, List.nodup_nil⟩
end
end CL

/-! CL11: containers changed: append, extend, pop, clear, d[k] = v, pop; d[k], get, in. -/
namespace CL
open PySem L2 PyProof.Rows
variable {g : G} {W : WX} {M : Addr → Prop} {μ μ' μ1 μ2 : List Addr} {H H' H0 H1 H2 : Hp} {σ σ1 σ2 : L2.St} {cs cs' cs1 cs2 : CSt} {X : Cx}

/-- the container that a value is -/
def contC (cs : CSt) : RV → Option Cont
  | .own c => some c
  | .pv (.loc l) => match cs.h[l]? with
    | some (.cont c) => some c
    | _ => none
  | .als i => match cs.sl[i]? with
    | some (.own c) => some c
    | some (.pv (.loc l)) => match cs.h[l]? with
      | some (.cont c) => some c
      | _ => none
    | _ => none
  | _ => none
def wrC (x : RV) (c : Cont) (cs : CSt) : CSt := match x with
  | .own _ => cs
  | .pv (.loc l) => { cs with h := cs.h.set l (.cont c) }
  | .als i => match cs.sl[i]? with
    | some (.own _) => { cs with sl := cs.sl.set i (.own c) }
    | some (.pv (.loc l)) => { cs with h := cs.h.set l (.cont c) }
    | _ => cs
  | _ => cs
theorem md_setOwn {i : Nat} {c0 c : Cont} {b : Addr} (e : cs.sl[i]? = some (.own c0)) (h : Md μ (cs.sl.set i (.own c)) σ b) : Md μ cs.sl σ b := by
  rcases h with h | ⟨j, d, h1, h2⟩
  · exact .inl h
  · by_cases z : i = j
    · subst z; exact .inr ⟨i, c0, e, h2⟩
    · rw [List.getElem?_set_ne z] at h1
      exact .inr ⟨j, d, h1, h2⟩
theorem wr_loc {l : Nat} {v : V} {c : Cont} (k : Fct g M μ H μ2 cs2 σ H2) (hv : PVRel g μ2 H2 (.loc l) v) (e : cs2.h[l]? = some (.cont c)) :
    ∃ a, v = .ref a ∧ ContRel g μ2 H2 c a ∧ ∀ c' ho', ContRel g μ2 (upd H2 a ho') c' a → Fct g M μ H μ2 { cs2 with h := cs2.h.set l (.cont c') } σ (upd H2 a ho') := by
  obtain ⟨a, rfl, hl, q⟩ := locRel k.rel hv e
  refine ⟨a, rfl, q, fun c' ho' q' => ?_⟩
  exact k.at (k.keep.k2 a (.inl (List.mem_of_getElem? hl))) (k.rel.heapSet (o' := .cont c') hl q') (fun b z => .inl z) fun _ _ z => z
theorem wr_fct {x : RV} {v : V} {c : Cont} (k : Fct g M μ H μ2 cs2 σ H2) (hx : RVRel g M H μ2 cs2 σ H2 x v) (hc : contC cs2 x = some c) :
    ∃ a, v = .ref a ∧ ContRel g μ2 H2 c a ∧ ∀ c' ho', ContRel g μ2 (upd H2 a ho') c' a → Fct g M μ H μ2 (wrC x c' cs2) σ (upd H2 a ho') := by
  cases x with
  | own c0 =>
    cases hc
    obtain ⟨a, rfl, q, nm, av⟩ := hx
    obtain ⟨o, e, m⟩ := q.mut
    exact ⟨a, rfl, q, fun c' ho' q' => k.at av (k.rel.updOut e m nm) (fun b z => .inl z) fun _ _ z => z⟩
  | pv p =>
    cases p with
    | loc l =>
      simp only [contC] at hc
      split at hc
      · rename_i c0 e
        cases hc
        exact wr_loc k hx e
      · cases hc
    | _ => cases hc
  | als i =>
    have es : σ[i]? = some (some v) := hx
    simp only [contC] at hc
    split at hc
    · rename_i c0 e
      cases hc
      obtain ⟨a, ea, q, na⟩ := k.rel.sl i _ _ e es
      cases ea
      refine ⟨a, rfl, q, fun c' ho' q' => ?_⟩
      simp only [wrC, e]
      exact k.at (k.keep.k2 a (.inr ⟨i, _, e, es⟩)) (k.rel.slotOwn e es q') (fun b z => .inl (md_setOwn e z)) fun _ _ z => z
    · rename_i l e
      split at hc
      · rename_i c0 e2
        cases hc
        obtain ⟨x, ex, q⟩ := k.rel.sl i _ _ e es
        cases ex
        obtain ⟨a, rfl, q1, q2⟩ := wr_loc k q e2
        refine ⟨a, rfl, q1, fun c' ho' q' => ?_⟩
        simp only [wrC, e]
        exact q2 c' ho' q'
      · cases hc
    · cases hc
theorem cont_rel {x : RV} {v : V} {c : Cont} (r : Rel g μ2 cs2 σ H2) (hx : RVRel g M H μ2 cs2 σ H2 x v) (hc : contC cs2 x = some c) : ∃ a, v = .ref a ∧ ContRel g μ2 H2 c a := by
  cases x with
  | own c0 =>
    cases hc
    obtain ⟨a, rfl, q, _⟩ := hx
    exact ⟨a, rfl, q⟩
  | pv p =>
    cases p with
    | loc l =>
      simp only [contC] at hc
      split at hc
      · rename_i c0 e
        cases hc
        obtain ⟨a, rfl, _, q⟩ := locRel r hx e
        exact ⟨a, rfl, q⟩
      · cases hc
    | _ => cases hc
  | als i =>
    have es : σ[i]? = some (some v) := hx
    simp only [contC] at hc
    split at hc
    · rename_i c0 e
      cases hc
      obtain ⟨a, ea, q, na⟩ := r.sl i _ _ e es
      cases ea
      exact ⟨a, rfl, q⟩
    · rename_i l e
      split at hc
      · rename_i c0 e2
        cases hc
        obtain ⟨x, ex, q⟩ := r.sl i _ _ e es
        cases ex
        obtain ⟨a, rfl, _, q⟩ := locRel r q e2
        exact ⟨a, rfl, q⟩
      · cases hc
    · cases hc

/-! ### methods of built-in types -/
def TyG (X : Cx) (T : String) (x : V) (H : Hp) : Prop := ∀ (pins : List (Addr × Obj)) (σ : L2.St) (s : Shared) (v : Value), L2.Inv X pins σ H s → RelV x v → s.TypeIs v T ∧ ∀ a, v = .ref a → ∃ ob, s.heap.get? a = some ob ∧ ob.dict = none
section
variable {T id : String} {name : Str} {r : V → List V → Hp → VK → Prop} {o e : Expr} {es : List Expr} {to : TE} {t : TA} {apos cpos : Pos}
theorem pe_bmG (pa : PlainAttrs T) (slot : Slot T name id) (hty : typeOf (.builtin id) = pure (.type "method_descriptor")) (hm : MtR X id r) (ho : PE X o to) (ha : PA X (e :: es) t)
    (hbase : attributeBase o name X.env (eval o X.env) = eval o X.env := by rfl)
    (hfew : ((backTo cpos (starEach (e :: es) X.env)).all (fun x => !x.1) && (backToKw cpos (keywordEach [] X.env)).all (fun x => x.1.isSome)
      && decide ((e :: es).length + ([] : List Keyword).length + (if ([] : List Keyword).isEmpty then 0 else 1) < 30)) = true := by rfl)
    (hline : (apos.endLine == cpos.line) = true := by rfl) (hs : starEach (e :: es) X.env = (false, eval e X.env) :: starEach es X.env := by rfl) (hplain : (backTo cpos (starEach es X.env)).any (·.1) = false := by rfl) :
    PE X (.Call (.Attribute o name apos) (e :: es) [] cpos) (fun σ H Q => to σ H fun x H1 => TyG X T x H1 ∧ t σ H1 fun xs H2 => r x xs H2 Q) := by
  refine ⟨fun pins s σ H Q I h => ?_⟩
  refine wpAny_Call_method_late hbase hfew hline rfl (thn (ho.run pins s σ H _ I h) fun v s1 ⟨x, H1, I1, r1, ty, q1⟩ => ?_)
  obtain ⟨h1, h2⟩ := ty pins σ s1 v I1 r1
  refine ⟨T, id, pa, slot, hty, h1, h2, ?_⟩
  have hA := ha.run cpos pins s1 σ H1 _ I1 q1
  rw [hs] at hA ⊢
  refine Calls.callWith_builtin (by show (false || (backTo cpos (starEach es X.env)).any (·.1)) = false; rw [hplain] <;> rfl) (Calls.evalArgs_plain ?_)
  exact thn hA fun us s2 ⟨vs, H2, I2, r2, q2⟩ => hm pins s2 σ H2 x vs v us Q I2 r1 r2 q2
theorem pe_bm0G (pa : PlainAttrs T) (slot : Slot T name id) (hty : typeOf (.builtin id) = pure (.type "method_descriptor")) (hm : MtR X id r) (ho : PE X o to)
    (hbase : attributeBase o name X.env (eval o X.env) = eval o X.env := by rfl) (hline : (apos.endLine == cpos.line) = true := by rfl) : PE X (.Call (.Attribute o name apos) [] [] cpos) (fun σ H Q => to σ H fun x H1 => TyG X T x H1 ∧ r x [] H1 Q) := by
  refine ⟨fun pins s σ H Q I h => ?_⟩
  refine wpAny_Call_method0_late hbase hline (thn (ho.run pins s σ H _ I h) fun v s1 ⟨x, H1, I1, r1, ty, q1⟩ => ?_)
  obtain ⟨h1, h2⟩ := ty pins σ s1 v I1 r1
  exact ⟨T, id, pa, slot, hty, h1, h2, Calls.callWith_builtin rfl (PySem.evalArgs_none (hm pins s1 σ H1 x [] v [] Q I1 r1 .nil q1))⟩
/-- the receiver is of the type T -/
def TyC (X : Cx) (g : G) (T : String) (ty : RV → CSt → Bool) : Prop := ∀ (M : Addr → Prop) (H0 : Hp) (μ : List Addr) (cs : CSt) (σ : L2.St) (H : Hp) (x : RV) (v : V), Rel g μ cs σ H → RVRel g M H0 μ cs σ H x v → ty x cs = true → TyG X T v H
def PrM (g : G) (r : V → List V → Hp → VK → Prop) (f : RV → List PV → CM RV) : Prop := ∀ (W : WX) (M : Addr → Prop) (μ : List Addr) (H : Hp) (σ : L2.St) (cs2 : CSt) (μ2 : List Addr) (H2 : Hp) (x : RV) (v : V) (ps : List PV) (vs : List V) (Q : VK),
  Fct g M μ H μ2 cs2 σ H2 → RVRel g M H μ2 cs2 σ H2 x v → PVsRel g μ2 H2 ps vs → Out g W M μ H σ (f x ps cs2) (fun rv cs' μ' H' => ∀ v, RVRel g M H μ' cs' σ H' rv v → Q v H') → r v vs H2 Q
def eBm (ty : RV → CSt → Bool) (f : RV → List PV → CM RV) (mo : CM RV) (ma : CM (List PV)) : CM RV := do
  let x ← mo
  (fun cs => if ty x cs then .ok () cs else .stuck : CM Unit)
  let ps ← ma
  f x ps
variable {mo : CM RV} {ma : CM (List PV)} {ty : RV → CSt → Bool} {f : RV → List PV → CM RV}
theorem se_bm (pa : PlainAttrs T) (slot : Slot T name id) (hty : typeOf (.builtin id) = pure (.type "method_descriptor")) (hm : MtR X id r) (tc : TyC X g T ty) (pr : PrM g r f) (ho : SE X g W o mo) (ha : SA X g W (e :: es) ma)
    (hbase : attributeBase o name X.env (eval o X.env) = eval o X.env := by rfl)
    (hfew : ((backTo cpos (starEach (e :: es) X.env)).all (fun x => !x.1) && (backToKw cpos (keywordEach [] X.env)).all (fun x => x.1.isSome)
      && decide ((e :: es).length + ([] : List Keyword).length + (if ([] : List Keyword).isEmpty then 0 else 1) < 30)) = true := by rfl)
    (hline : (apos.endLine == cpos.line) = true := by rfl) (hs : starEach (e :: es) X.env = (false, eval e X.env) :: starEach es X.env := by rfl) (hplain : (backTo cpos (starEach es X.env)).any (·.1) = false := by rfl) :
    SE X g W (.Call (.Attribute o name apos) (e :: es) [] cpos) (eBm ty f mo ma) := PE.mono (pe_bmG pa slot hty hm ho ha hbase hfew hline hs hplain) fun σ H Q h => by
  obtain ⟨μ, cs, rel, oo⟩ := h
  refine ⟨μ, cs, rel, (Out.bind oo).mono fun x cs1 μ1 H1 _ k1 h1 v hv => ?_⟩
  rw [bind_def] at h1
  by_cases z : ty x cs1 = true
  · simp only [z, if_true] at h1
    refine ⟨tc _ _ _ _ _ _ _ _ k1.rel hv z, μ1, cs1, k1.rel, ((Out.bind h1).rebase k1).mono fun ps cs2 μ2 H2 _ k2 h2 vs hvs => ?_⟩
    exact pr W _ μ H σ cs2 μ2 H2 x v ps vs Q (k1.trans k2) (hv.step k1.rel k2) hvs h2
  · simp only [z, Bool.false_eq_true, if_false] at h1
    exact h1.elim
def eBm0 (ty : RV → CSt → Bool) (f : RV → List PV → CM RV) (mo : CM RV) : CM RV := do
  let x ← mo
  (fun cs => if ty x cs then .ok () cs else .stuck : CM Unit)
  f x []
theorem se_bm0 (pa : PlainAttrs T) (slot : Slot T name id) (hty : typeOf (.builtin id) = pure (.type "method_descriptor")) (hm : MtR X id r) (tc : TyC X g T ty) (pr : PrM g r f) (ho : SE X g W o mo)
    (hbase : attributeBase o name X.env (eval o X.env) = eval o X.env := by rfl) (hline : (apos.endLine == cpos.line) = true := by rfl) :
    SE X g W (.Call (.Attribute o name apos) [] [] cpos) (eBm0 ty f mo) := PE.mono (pe_bm0G pa slot hty hm ho hbase hline) fun σ H Q h => by
  obtain ⟨μ, cs, rel, oo⟩ := h
  refine ⟨μ, cs, rel, (Out.bind oo).mono fun x cs1 μ1 H1 _ k1 h1 v hv => ?_⟩
  rw [bind_def] at h1
  by_cases z : ty x cs1 = true
  · simp only [z, if_true] at h1
    exact ⟨tc _ _ _ _ _ _ _ _ k1.rel hv z, pr W _ μ H σ cs1 μ1 H1 x v [] [] Q k1 hv .nil h1⟩
  · simp only [z, Bool.false_eq_true, if_false] at h1
    exact h1.elim
end
def isList (x : RV) (cs : CSt) : Bool := (listC cs x).isSome
def isDict (x : RV) (cs : CSt) : Bool := match contC cs x with
  | some (.dict _) => true
  | _ => false
def isStr (x : RV) (cs : CSt) : Bool := match valC cs x with
  | some (.str _) => true
  | _ => false
theorem ty_list : TyC X g "list" isList := fun M H0 μ cs σ H x v r hv h pins σ' s u I ru => by
  obtain ⟨xs, e⟩ := Option.isSome_iff_exists.mp h
  obtain ⟨a, vs, rfl, h1, h2⟩ := listC_rel r hv e
  cases ru
  obtain ⟨z, its, n, q, hl, e⟩ := I.lstR h1
  exact ⟨⟨_, e, rfl⟩, fun b eb => by cases eb; exact ⟨_, e, rfl⟩⟩
theorem ty_str : TyC X g "str" isStr := fun M H0 μ cs σ H x v r hv h pins σ' s u I ru => by
  unfold isStr at h
  split at h
  · rename_i z e
    have q := valC_rel r hv e
    cases q
    obtain ⟨t, rfl⟩ := ru
    exact ⟨typeIs_str s z t, fun _ e => nomatch e⟩
  · cases h
theorem ty_dict : TyC X g "dict" isDict := fun M H0 μ cs σ H x v r hv h pins σ' s u I ru => by
  unfold isDict at h
  split at h
  · rename_i kvs e
    obtain ⟨a, rfl, q⟩ := cont_rel r hv e
    cases ru
    rcases q with ⟨kv, e, q⟩ | ⟨o, e, hs, z, xs, h1, ⟨es, ep, h2, h3⟩, h4, q⟩
    · obtain ⟨z, hd, vs, rel, o, es, ep, q1, q2, q3, _⟩ := dk_of I.hok e
      exact ⟨⟨_, q1, q2.1⟩, fun b eb => by cases eb; exact ⟨_, q1, q2.2.1⟩⟩
    · exact ⟨⟨_, raw_get I e, h1.1⟩, fun b eb => by cases eb; exact ⟨_, raw_get I e, h1.2.1⟩⟩
  · cases h

/-! ### lists -/
def lAppend (x : RV) (ps : List PV) : CM RV := fun cs => match contC cs x, ps with
  | some (.list xs), [p] => if xs.length < 16777216 then .ok (.pv .non) (wrC x (.list (xs ++ [p])) cs) else .stuck
  | _, _ => .stuck
theorem pr_append : PrM g rAppend lAppend := fun W M μ H σ cs2 μ2 H2 x v ps vs Q k hx hp o => by
  unfold lAppend at o
  split at o
  · rename_i xs p e
    split at o
    · rename_i z
      obtain ⟨a, rfl, ⟨ws, h1, h2⟩, wr⟩ := wr_fct k hx e
      cases hp with
      | cons q r =>
        cases r
        refine ⟨a, ws, _, rfl, rfl, h1, by rw [← h2.length]; exact z, ?_⟩
        exact o μ2 _ (wr _ _ ⟨_, upd_same, (h2.append (.cons q .nil)).stays (stays_upd h1 (.lst _))⟩) _ .non
    · exact o.elim
  · exact o.elim
def rExtendR : V → List V → Hp → VK → Prop := fun x vs H Q => ∃ l b xs zs, x = .ref l ∧ vs = [.ref b] ∧ H l = some (.lst xs) ∧ Rd H b (.lst zs) ∧ xs.length + zs.length ≤ sizeLine ∧ Q .non (upd H l (.lst (xs ++ zs)))
theorem mt_extendR : MtM X "list.extend" rExtendR := by
  intro pins s σ H x vs v us Q I rx rv h
  obtain ⟨l, b, xs, zs, rfl, rfl, hH, hB, hz, q⟩ := h
  cases rx
  obtain ⟨u, rfl, ru⟩ := rv.one
  cases ru
  obtain ⟨z, its, n, r, hl, e⟩ := I.lstM hH
  obtain ⟨z2, its2, n2, r2, hl2, e2⟩ := I.lstR hB
  have hsz : its.toArray.size + its2.toArray.size ≤ sizeLine := by rw [List.size_toArray, List.size_toArray]; omega
  have hlong : ¬ (!its.toArray.isEmpty && Builtin.List.listTooLong (its.toArray.size + its2.toArray.size)) = true := by
    rw [notLongL hsz, Bool.and_false]
    exact Bool.false_ne_true
  refine call_meets F.slot_list_extend ⟨_, e, rfl⟩ F.entry_list_extend (F.args_list_extend_2 _ _)
    (AutoSeq1.list_extend_list_list_0 l its.toArray n b its2.toArray n2 hlong (by rw [List.size_toArray]; omega) (by omega)) ⟨e, e2, ?_⟩
  refine ⟨.non, _, I.lset (its' := its ++ its2) hH e (by simp) (r.append r2) ?_, rfl, q⟩
  rw [List.length_append]
  omega
def lExtend (x : RV) (ps : List PV) : CM RV := fun cs => match contC cs x, ps with
  | some (.list xs), [.lst ys] => if xs.length + ys.length ≤ 16777216 then .ok (.pv .non) (wrC x (.list (xs ++ ys)) cs) else .stuck
  | _, _ => .stuck
theorem pr_extend : PrM g rExtendR lExtend := fun W M μ H σ cs2 μ2 H2 x v ps vs Q k hx hp o => by
  unfold lExtend at o
  split at o
  · rename_i xs ys e
    split at o
    · rename_i z
      obtain ⟨a, rfl, ⟨ws, h1, h2⟩, wr⟩ := wr_fct k hx e
      cases hp with
      | cons q r =>
        cases r
        cases q with
        | @lst b o' us _ h3 h4 =>
          refine ⟨a, b, ws, us, rfl, rfl, h1, .inr ⟨_, h3⟩, by rw [← h2.length, ← h4.length]; exact z, ?_⟩
          exact o μ2 _ (wr _ _ ⟨_, upd_same, (h2.append h4).stays (stays_upd h1 (.lst _))⟩) _ .non
    · exact o.elim
  · exact o.elim
theorem PVsRel.erase : ∀ {ps : List PV} {vs : List V} (i : Nat), PVsRel g μ H ps vs → PVsRel g μ H (ps.eraseIdx i) (vs.eraseIdx i)
  | _, _, _, .nil => .nil
  | _, _, 0, .cons _ t => t
  | _, _, i + 1, .cons q t => .cons q (PVsRel.erase i t)
def lPop (x : RV) (ps : List PV) : CM RV := fun cs => match contC cs x, ps with
  | some (.list xs), [.int i] => if decide (-(2 ^ 63) ≤ i) && decide (i < 2 ^ 63) then match seqIndex? i xs.length with
    | some k => match xs[k]? with
      | some p => .ok (.pv p) (wrC x (.list (xs.eraseIdx k)) cs)
      | none => .stuck
    | none => .stuck
    else .stuck
  | _, _ => .stuck
theorem pr_pop : PrM g rPopAt lPop := fun W M μ H σ cs2 μ2 H2 x v ps vs Q k hx hp o => by
  unfold lPop at o
  split at o
  · rename_i xs i e
    split at o
    · rename_i z
      simp only [Bool.and_eq_true, decide_eq_true_eq] at z
      split at o
      · rename_i j ej
        split at o
        · rename_i p ep
          obtain ⟨a, rfl, ⟨ws, h1, h2⟩, wr⟩ := wr_fct k hx e
          obtain ⟨w, ew, rw'⟩ := h2.get ep
          cases hp with
          | cons q r =>
            cases r
            cases q
            have st := stays_upd (μ := μ2) (o' := .lst (ws.eraseIdx j)) h1 (.lst _)
            refine ⟨a, ws, i, j, w, rfl, rfl, h1, z.1, z.2, by rw [← h2.length]; exact ej, ew, ?_⟩
            exact o μ2 _ (wr _ _ ⟨_, upd_same, (h2.erase j).stays st⟩) _ (rw'.stays st)
        · exact o.elim
      · exact o.elim
    · exact o.elim
  · exact o.elim
def lClear (x : RV) (ps : List PV) : CM RV := fun cs => match contC cs x, ps with
  | some (.list _), [] => .ok (.pv .non) (wrC x (.list []) cs)
  | _, _ => .stuck
theorem pr_clear : PrM g rClear lClear := fun W M μ H σ cs2 μ2 H2 x v ps vs Q k hx hp o => by
  unfold lClear at o
  split at o
  · rename_i xs e
    obtain ⟨a, rfl, ⟨ws, h1, h2⟩, wr⟩ := wr_fct k hx e
    cases hp
    exact ⟨a, ws, rfl, rfl, h1, o μ2 _ (wr _ _ ⟨[], upd_same, .nil⟩) _ .non⟩
  · exact o.elim
/-- l.index(x), x there -/
def lIndex (x : RV) (ps : List PV) : CM RV := fun cs => match dataC cs x, ps with
  | some (.list ds), [p] => match toD p with
    | some d => if SeqAt.shaped (.list ds) && SeqAt.shaped d then match ds.findIdx? (fun z => PyData.eqv z d) with
      | some j => .ok (.pv (.int (j : Nat))) cs
      | none => .stuck
      else .stuck
    | none => .stuck
  | _, _ => .stuck
theorem pr_index : PrM g (rIndexD g.K) lIndex := fun W M μ H σ cs2 μ2 H2 x v ps vs Q k hx hp o => by
  unfold lIndex at o
  split at o
  · rename_i ds p e
    split at o
    · rename_i d ed
      split at o
      · rename_i z
        simp only [Bool.and_eq_true] at z
        split at o
        · rename_i j ej
          have hd := dataC_rel (K := g.K) rfl k.rel hx e
          have hv : ∃ a, v = .ref a := by cases hd; exact ⟨_, rfl⟩
          obtain ⟨a, rfl⟩ := hv
          rw [List.findIdx?_eq_some_iff_getElem] at ej
          obtain ⟨hj, h1, h2⟩ := ej
          cases hp with
          | cons q r =>
            cases r
            refine ⟨a, _, d, ds, j, ds[j], rfl, rfl, hd, toD_rel rfl p _ d q ed, z.1, z.2, List.getElem?_eq_getElem hj, h1, fun m z' hm hz' => ?_, o μ2 H2 k _ (.int _)⟩
            have hml : m < ds.length := Nat.lt_trans hm hj
            rw [List.getElem?_eq_getElem hml] at hz'
            cases hz'
            simpa using h2 m hm
        · exact o.elim
      · exact o.elim
    · exact o.elim
  · exact o.elim

/-! ### dicts -/
section
variable (hP : g.P = X.prog) (hw : g.w = X.w) (hK : g.K = X.K)
def rDIn (g : G) (neg : Bool) : R2 := fun x y H Q => ∃ μ kvs a p, y = .ref a ∧ ContRel g μ H (.dict kvs) a ∧ PVRel g μ H p x ∧ keyOk kvs p = true ∧ Q (.bl (if neg then !(dget kvs p).isSome else (dget kvs p).isSome)) H
theorem keyOk_split {kvs : List (PV × PV)} {p : PV} (h : keyOk kvs p = true) : (∃ n, leafK p = some n) ∨ ∃ n, tupK p = some n := by
  unfold keyOk at h
  split at h
  · simp only [Bool.or_eq_true] at h
    rcases h with h | h
    · exact .inl (Option.isSome_iff_exists.mp h)
    · exact .inr (Option.isSome_iff_exists.mp h)
  · simp only [Bool.or_eq_true, Bool.and_eq_true] at h
    rcases h with h | h
    · exact .inl (Option.isSome_iff_exists.mp h.2)
    · exact .inr (Option.isSome_iff_exists.mp h.2)
theorem tup_ref {p : PV} {v : V} {n : NestedKey} (h : PVRel g μ H p v) (e : tupK p = some n) : ∃ b, v = .ref b := by
  obtain ⟨_, _, xs, rfl⟩ := tupK_nk e
  obtain ⟨a, vs, rfl, _⟩ := tup_inv h
  exact ⟨a, rfl⟩
theorem tp_some {kvs : List (PV × PV)} {xs : List (NestedKey × Addr × Value)} (r : Paired (TP g μ H) kvs xs) {k : PV} {n : NestedKey} (hk : tupK k = some n) : (atKey xs n).isSome = (dget kvs k).isSome := by
  have z := tp_get r hk
  cases e : dget kvs k with
  | some q => rw [e] at z; obtain ⟨p, v, h1, _⟩ := z; rw [h1]; rfl
  | none => rw [e] at z; rw [z]; rfl
theorem lp_some {kvs : List (PV × PV)} {xs : List (Key × V)} (r : Paired (LP g μ H) kvs xs) {k : PV} {n : Key} (hk : leafK k = some n) : (valV xs n).isSome = (dget kvs k).isSome := by
  have z := lp_get r hk
  cases e : dget kvs k with
  | some q => rw [e] at z; obtain ⟨v, h1, _⟩ := z; rw [h1]; rfl
  | none => rw [e] at z; rw [z]; rfl
include hP hw hK
theorem op_din (hu : X.A.units + 64 < cLine) : OpR X (compareOp .In) (rDIn g false) := by
  intro pins s σ H x y v u Q I rx ry ⟨μ, kvs, a, p, e, c, rp, ok, q⟩
  subst e
  cases ry
  rcases keyOk_split ok with ⟨n, hn⟩ | ⟨n, hn⟩
  · have ex := leafK_V rp hn
    rcases asL I c ok hn with ⟨kv, e, r⟩ | ⟨rfl, o, e, hs, d⟩
    · subst ex
      exact d_in (by omega) I (DGet.k e) rx fun s' I' => ⟨.bl (valV kv n).isSome, H, I', rfl, by rw [lp_some r hn]; exact q⟩
    · subst ex
      exact wpAny_in_of (kV_is rx) hs d.mapOf ⟨.bl false, H, I.tok _, rfl, q⟩
  · obtain ⟨b, rfl⟩ := tup_ref rp hn
    cases rx
    obtain ⟨z, hs, xs, r, d⟩ := asT I hP hw hK c ok hn
    refine wpAny_in_heap (knd := nestedKind X.prog X.w) (by show X.A.in1.units + 8 < cLine; show X.A.units + 1 + 8 < cLine; omega) ⟨nested_of I hK _ _ _ _ rp rfl (tupK_nk hn).1, (tupK_nk hn).2.1⟩ hs d ?_
    rw [tp_some r hn]
    exact ⟨.bl (dget kvs p).isSome, H, I.tok _, rfl, q⟩
theorem op_dnotIn (hu : X.A.units + 64 < cLine) : OpR X (compareOp .NotIn) (rDIn g true) := by
  intro pins s σ H x y v u Q I rx ry ⟨μ, kvs, a, p, e, c, rp, ok, q⟩
  subst e
  cases ry
  rcases keyOk_split ok with ⟨n, hn⟩ | ⟨n, hn⟩
  · have ex := leafK_V rp hn
    rcases asL I c ok hn with ⟨kv, e, r⟩ | ⟨rfl, o, e, hs, d⟩
    · subst ex
      exact d_notIn (by omega) I (DGet.k e) rx fun s' I' => ⟨.bl (!(valV kv n).isSome), H, I', rfl, by rw [lp_some r hn]; exact q⟩
    · subst ex
      exact wpAny_notIn_of (kV_is rx) hs d.mapOf ⟨.bl true, H, I.tok _, rfl, q⟩
  · obtain ⟨b, rfl⟩ := tup_ref rp hn
    cases rx
    obtain ⟨z, hs, xs, r, d⟩ := asT I hP hw hK c ok hn
    refine wpAny_notIn_heap (knd := nestedKind X.prog X.w) (by show X.A.in1.units + 8 < cLine; show X.A.units + 1 + 8 < cLine; omega) ⟨nested_of I hK _ _ _ _ rp rfl (tupK_nk hn).1, (tupK_nk hn).2.1⟩ hs d ?_
    rw [tp_some r hn]
    exact ⟨.bl (!(dget kvs p).isSome), H, I.tok _, rfl, q⟩
end
def opDIn (neg : Bool) (x y : RV) : CM RV := fun cs => match contC cs y, valC cs x with
  | some (.dict kvs), some p => if keyOk kvs p then .ok (.pv (.bl (if neg then !(dget kvs p).isSome else (dget kvs p).isSome))) cs else .stuck
  | _, _ => .stuck
theorem pr_din {neg : Bool} : Pr2 g (rDIn g neg) (opDIn neg) := fun W M μ H σ cs2 μ2 H2 x y v u Q k hx hy o => by
  unfold opDIn at o
  split at o
  · rename_i kvs p ey ex
    split at o
    · rename_i z
      obtain ⟨a, rfl, c⟩ := cont_rel k.rel hy ey
      exact ⟨μ2, kvs, a, p, rfl, c, valC_rel k.rel hx ex, z, o μ2 H2 k _ (.bl _)⟩
    · exact o.elim
  · exact o.elim
section
variable {a b : Expr} {ma mb : CM RV} {pos : Pos}
theorem se_din (hP : g.P = X.prog) (hw : g.w = X.w) (hK : g.K = X.K) (hu : X.A.units + 64 < cLine) (ha : SE X g W a ma) (hb : SE X g W b mb) (hm : behindInMarks .In b = false := by rfl) : SE X g W (.Compare a [.In] [b] pos) (e2 (opDIn false) ma mb) := se_cmp (op_din hP hw hK hu) pr_din ha hb hm
theorem se_dnotIn (hP : g.P = X.prog) (hw : g.w = X.w) (hK : g.K = X.K) (hu : X.A.units + 64 < cLine) (ha : SE X g W a ma) (hb : SE X g W b mb) (hm : behindInMarks .NotIn b = false := by rfl) : SE X g W (.Compare a [.NotIn] [b] pos) (e2 (opDIn true) ma mb) := se_cmp (op_dnotIn hP hw hK hu) pr_din ha hb hm
end
end CL

/-! CL12: d[k], d.get(k, x), d[k] = v, d.pop(k), d.pop(k, x). -/
namespace CL
open PySem L2 PyProof.Rows
variable {g : G} {W : WX} {M : Addr → Prop} {μ μ' μ1 μ2 : List Addr} {H H' H0 H1 H2 : Hp} {σ σ1 σ2 : L2.St} {cs cs' cs1 cs2 : CSt} {X : Cx}
section
variable {pins : List (Addr × Obj)} {s : Shared}
theorem nkroom {A : Around} (hu : A.units + 64 < cLine) : (nestedKind X.prog X.w).room A.in1 := by show A.units + 1 + 8 < cLine; omega
theorem key_is (I : L2.Inv X pins σ H s) (hK : g.K = X.K) {p : PV} {b : Addr} {n : NestedKey} (rp : PVRel g μ H p (.ref b)) (hn : tupK p = some n) : (nestedKind X.prog X.w).is s.heap n b := ⟨nested_of I hK _ _ _ _ rp rfl (tupK_nk hn).1, (tupK_nk hn).2.1⟩
theorem dict_ty (I : L2.Inv X pins σ H s) {kvs : List (PV × PV)} {a : Addr} (c : ContRel g μ H (.dict kvs) a) : s.TypeIs (.ref a) "dict" := by
  rcases c with ⟨kv, e, q⟩ | ⟨o, e, hs, z, xs, h1, ⟨es, ep, h2, h3⟩, h4, q⟩
  · obtain ⟨z, hd, vs, rel, o, es, ep, q1, q2, q3, _⟩ := dk_of I.hok e
    exact ⟨_, q1, q2.1⟩
  · exact ⟨_, raw_get I e, h1.1⟩
end
section
variable (hP : g.P = X.prog) (hw : g.w = X.w) (hK : g.K = X.K)
/-! ### d[k] -/
def rDGetI (g : G) : R2 := fun x y H Q => ∃ μ kvs a p q, x = .ref a ∧ ContRel g μ H (.dict kvs) a ∧ PVRel g μ H p y ∧ keyOk kvs p = true ∧ dget kvs p = some q ∧ ∀ v, PVRel g μ H q v → Q v H
include hP hw hK
theorem getI {pins : List (Addr × Obj)} {s : Shared} {a : Addr} {u : Value} {y : V} {kvs : List (PV × PV)} {p q : PV} {Q : VK} (hu : X.A.units + 64 < cLine) (I : L2.Inv X pins σ H s) (ry : RelV y u) (c : ContRel g μ H (.dict kvs) a) (rp : PVRel g μ H p y) (ok : keyOk kvs p = true) (e : dget kvs p = some q) (h : ∀ v, PVRel g μ H q v → Q v H) :
    wpAny (model X.prog X.w) X.A (getItem (.ref a) u) (EP X pins σ Q) X.xe s := by
  rcases keyOk_split ok with ⟨n, hn⟩ | ⟨n, hn⟩
  · have ex := leafK_V rp hn
    rcases asL I c ok hn with ⟨kv, e1, r⟩ | ⟨rfl, o, e1, hs, d⟩
    · have z := lp_get r hn
      rw [e] at z
      obtain ⟨v, ev, rv⟩ := z
      subst ex
      exact d_getItem (v := v) (by omega) I (by rw [← ev]; exact DGet.k e1) ry fun w' s3 I3 rw' => ⟨v, H, I3, rw', h v rv⟩
    · cases e
  · obtain ⟨b, rfl⟩ := tup_ref rp hn
    cases ry
    obtain ⟨z, hs, xs, r, d⟩ := asT I hP hw hK c ok hn
    have z := tp_get r hn
    rw [e] at z
    obtain ⟨pp, v, h1, h2, h3⟩ := z
    exact wpAny_getItem_heap (nkroom hu) (key_is I hK rp hn) d h1 ⟨v, H, I.tok _, h2, h v h3⟩
end
def opDGet (x y : RV) : CM RV := fun cs => match contC cs x, valC cs y with
  | some (.dict kvs), some p => if keyOk kvs p then match dget kvs p with
    | some q => .ok (.pv q) cs
    | none => .stuck
    else .stuck
  | _, _ => .stuck
theorem se_dget {a b : Expr} {ma mb : CM RV} {pos : Pos} (hP : g.P = X.prog) (hw : g.w = X.w) (hK : g.K = X.K) (hu : X.A.units + 64 < cLine) (ha : SE X g W a ma) (hb : SE X g W b mb) (hs : NoSl b := by exact fun _ _ => rfl) : SE X g W (.Subscript a b pos) (e2 opDGet ma mb) := by
  refine ⟨fun pins s σ H Q I h => ?_⟩
  have h2 := tOf2 (r := rDGetI g) (f := opDGet) (fun W M μ H σ cs2 μ2 H2 x y v u Q k hx hy o => by
    unfold opDGet at o
    split at o
    · rename_i kvs p ex ey
      split at o
      · rename_i z
        split at o
        · rename_i q eq
          obtain ⟨a, rfl, c⟩ := cont_rel k.rel hx ex
          exact ⟨μ2, kvs, a, p, q, rfl, c, valC_rel k.rel hy ey, z, eq, fun v hv => o μ2 H2 k v hv⟩
        · exact o.elim
      · exact o.elim
    · exact o.elim) h
  refine subD_of PySem.F.slot_dict_getitem.lookup hs (thn (ha.run pins s σ H _ I h2) fun u s1 ⟨x, H1, I1, rx, q1⟩ => thn (hb.run pins s1 σ H1 _ I1 q1) fun iv s2 ⟨y, H2, I2, ry, μ, kvs, a, p, q, ex, c, rp, ok, e, hq⟩ => ?_)
  subst ex
  cases rx
  exact ⟨dict_ty I2 c, getI hP hw hK hu I2 ry c rp ok e hq⟩

/-! ### d.get(k, x) -/
def rDGet2 (g : G) : V → List V → Hp → VK → Prop := fun x vs H Q => ∃ μ kvs a p y z, x = .ref a ∧ vs = [y, z] ∧ ContRel g μ H (.dict kvs) a ∧ PVRel g μ H p y ∧ keyOk kvs p = true ∧ (match dget kvs p with
  | some q => ∀ v, PVRel g μ H q v → Q v H
  | none => Q z H)
theorem vals2 {y z : V} {us : List Value} (r : Vals [y, z] us) : ∃ u w, us = [u, w] ∧ RelV y u ∧ RelV z w := by
  cases r with
  | cons r1 t =>
    cases t with
    | cons r2 t =>
      cases t
      exact ⟨_, _, rfl, r1, r2⟩
theorem mt_dget2 (hP : g.P = X.prog) (hw : g.w = X.w) (hK : g.K = X.K) (hu : X.A.units + 64 < cLine) : MtR X "dict.get" (rDGet2 g) := by
  intro pins s σ H x vs v us Q I rx rv ⟨μ, kvs, a, p, y, z, e1, e2, c, rp, ok, q⟩
  subst e1; subst e2
  cases rx
  obtain ⟨u, w, rfl, ry, rz⟩ := vals2 rv
  rcases keyOk_split ok with ⟨n, hn⟩ | ⟨n, hn⟩
  · have ex := leafK_V rp hn
    rcases asL I c ok hn with ⟨kv, e1, r⟩ | ⟨rfl, o, e1, hs, d⟩
    · have t := lp_get r hn
      subst ex
      refine d_get2 (by omega) I (DGet.k e1) ry rz fun w' s' I' rw' => ?_
      cases e : dget kvs p with
      | some q' =>
        rw [e] at q t
        obtain ⟨v', ev, rv'⟩ := t
        rw [ev] at rw'
        exact ⟨v', H, I', rw', q v' rv'⟩
      | none =>
        rw [e] at q t
        rw [t] at rw'
        exact ⟨z, H, I', rw', q⟩
    · subst ex
      exact call_meetsIn PySem.F.slot_dict_get d.typeIs PySem.F.entry_dict_get (PySem.F.args_dict_get_3 _ _ _) (meets_dict_get_default (mixKind X.prog X.w) a (kV_is ry) hs w) ⟨_, d.mapOf, ⟨z, H, I.tok _, rz, q⟩⟩
  · obtain ⟨b, rfl⟩ := tup_ref rp hn
    cases ry
    obtain ⟨z', hs, xs, r, d⟩ := asT I hP hw hK c ok hn
    refine call_meetsIn PySem.F.slot_dict_get d.typeIs PySem.F.entry_dict_get (PySem.F.args_dict_get_3 _ _ _) (meetsH_dict_get_default (nestedKind X.prog X.w) a b hs w) ⟨nkroom hu, n, xs, key_is I hK rp hn, d, ?_⟩
    have t := tp_get r hn
    cases e : dget kvs p with
    | some q' =>
      rw [e] at q t
      obtain ⟨pp, v', h1, h2, h3⟩ := t
      rw [h1]
      exact ⟨v', H, I.tok _, h2, q v' h3⟩
    | none =>
      rw [e] at q t
      rw [t]
      exact ⟨z, H, I.tok _, rz, q⟩
def dGet2 (x : RV) (ps : List PV) : CM RV := fun cs => match contC cs x, ps with
  | some (.dict kvs), [p, d] => if keyOk kvs p then .ok (.pv ((dget kvs p).getD d)) cs else .stuck
  | _, _ => .stuck
theorem pr_dget2 : PrM g (rDGet2 g) dGet2 := fun W M μ H σ cs2 μ2 H2 x v ps vs Q k hx hp o => by
  unfold dGet2 at o
  split at o
  · rename_i kvs p d ex
    split at o
    · rename_i z
      obtain ⟨a, rfl, c⟩ := cont_rel k.rel hx ex
      cases hp with
      | cons r1 t =>
        cases t with
        | cons r2 t =>
          cases t
          refine ⟨μ2, kvs, a, p, _, _, rfl, rfl, c, r1, z, ?_⟩
          cases e : dget kvs p with
          | some q => rw [e] at o; exact fun v hv => o μ2 H2 k v hv
          | none => rw [e] at o; exact o μ2 H2 k _ r2
    · exact o.elim
  · exact o.elim

/-! ### d[k] = v -/
def rDPut (g : G) : TSet := fun x y v H Q => ∃ μ kvs a p q, x = .ref a ∧ ContRel g μ H (.dict kvs) a ∧ PVRel g μ H p y ∧ keyOk kvs p = true ∧ PVRel g μ H q v ∧ kvs.length < 16777216 ∧
  ∀ ho', ContRel g μ (upd H a ho') (.dict (dput kvs p q)) a → Q (upd H a ho')
theorem set_dput (hP : g.P = X.prog) (hw : g.w = X.w) (hK : g.K = X.K) (hu : X.A.units + 64 < cLine) : PSet X (rDPut g) := by
  intro pins s σ H o i v ov iv u Q I ro ri ru ⟨μ, kvs, a, p, q, e1, c, rp, ok, rq, hz, h⟩
  subst e1
  cases ro
  have hlen : (dput kvs p q).length ≤ sizeLine := by
    have := dput_length kvs p q
    show _ ≤ 16777216
    omega
  rcases keyOk_split ok with ⟨n, hn⟩ | ⟨n, hn⟩
  · have ex := leafK_V rp hn
    have fin : ∀ (kv : List (Key × V)), Paired (LP g μ H) kvs kv → (∃ ob, H a = some ob ∧ MutK ob) → ∀ s', L2.Inv X pins σ (upd H a (.dK (putK kv n v))) s' → ∃ H', L2.Inv X pins σ H' s' ∧ Q H' := fun kv r ⟨ob, eo, m⟩ s' I' => by
      refine ⟨_, I', h _ (.inl ⟨_, upd_same, ?_⟩)⟩
      have st := stays_upd (μ := μ) (o' := .dK (putK kv n v)) eo m
      exact Paired.imp (lp_put r hn rq) fun _ _ z => ⟨z.1, z.2.stays st⟩
    rcases asL I c ok hn with ⟨kv, e1, r⟩ | ⟨rfl, o, e1, hs, d⟩
    · subst ex
      refine d_setItem (by omega) I (DPut.k e1 (by rw [← Paired.len r]; exact hz)) ri ru fun s' I' => fin kv r ⟨_, e1, .dK _⟩ s' I'
    · subst ex
      refine wpAny_setItem_pairs (hsz := Nat.zero_le _) (kV_is ri) d fun h' dd' hs' => ?_
      have he : ∃ q, h'.get? a = some q := let ⟨q, _, _, hq, _⟩ := dd'; ⟨q, hq⟩
      refine fin [] .nil ⟨_, e1, .ext _⟩ _ (d_write I (by rw [e1]; exact True.intro) hs' he (dk_new (vs := stored [] n u) ?_ hs ?_ dd'))
      · show ([(n, v)] : List (Key × V)).length ≤ sizeLine
        show 1 ≤ 16777216
        omega
      · exact KV.put (kvs := []) (vs := []) .nil n ru
  · obtain ⟨b, rfl⟩ := tup_ref rp hn
    cases ri
    obtain ⟨z', hs, xs, r, d⟩ := asT I hP hw hK c ok hn
    refine wpAny_setItem_heap (hsz := by rw [← Paired.len r]; exact z') (nkroom hu) (key_is I hK rp hn) d fun h' dd' hs' => ?_
    obtain ⟨o', es, ep, q1, q2, q3, q4, q5, q6⟩ := dd'
    obtain ⟨ob, eo, m⟩ := c.mut
    refine ⟨_, d_write I c.canW hs' ⟨o', q1⟩ (raw_ok q1), h _ (.inr ⟨o', upd_same, hs, hlen, _, q2, ⟨es, ep, q3, by rw [q4, hP, hw]⟩, q6, ?_⟩)⟩
    have st := stays_upd (μ := μ) (o' := rawO a o') eo m
    exact Paired.imp (tp_put r hn rp ru rq) fun _ _ z => ⟨z.1, z.2.1.stays st, let ⟨v, y1, y2⟩ := z.2.2; ⟨v, y1, y2.stays st⟩⟩
/-- o[i] = .., o a dict -/
def gDPut (mo mi : CM RV) (q : PV) : CM Unit := do
  let x ← mo
  let y ← mi
  fun cs => match contC cs x, valC cs y with
    | some (.dict kvs), some p => if keyOk kvs p && decide (kvs.length < 16777216) then .ok () (wrC x (.dict (dput kvs p q)) cs) else .stuck
    | _, _ => .stuck
theorem sg_dput {o i : Expr} {mo mi : CM RV} {pos : Pos} (hP : g.P = X.prog) (hw : g.w = X.w) (hK : g.K = X.K) (hu : X.A.units + 64 < cLine) (ho : SE X g W o mo) (hi : SE X g W i mi)
    (hs : ∀ v : Value, assign (.Subscript o i pos) X.env v = (do
      let ov ← holding [v] (eval o X.env)
      let iv ← holding [v, ov] (eval i X.env)
      standAt pos
      holding [v, ov, iv] (setItem ov iv v)
      release [v, ov, iv] []) := by exact fun _ => rfl) : SG X g W [] (.Subscript o i pos) (gDPut mo mi) := PG.mono (pg_sub ho hi (set_dput hP hw hK hu) hs) fun v σ H Q h => by
  obtain ⟨μ, cs, q, rel, rq, oo⟩ := h
  refine ⟨μ, cs, rel, (OutG.bindE oo).mono fun x cs1 μ1 H1 _ k1 h1 xv hx => ⟨μ1, cs1, k1.rel, ((OutG.bindE (σ := σ) h1).rebase k1).mono fun y cs2 μ2 H2 _ k2 h2 yv hy => ?_⟩⟩
  have k := k1.trans k2
  have hx' := hx.step k1.rel k2
  have rq' : PVRel g μ2 H2 q v := rq.stays (rel.stays k.keep k.ext)
  split at h2
  · rename_i kvs p ex ey
    split at h2
    · rename_i z
      simp only [Bool.and_eq_true, decide_eq_true_eq] at z
      obtain ⟨a, rfl, c, wr⟩ := wr_fct k hx' ex
      exact ⟨μ2, kvs, a, p, q, rfl, c, valC_rel k.rel hy ey, z.1, rq', z.2, fun ho' hc => h2 μ2 σ _ (wr _ ho' hc) .refl⟩
    · exact h2.elim
  · exact h2.elim

/-! ### d.pop(k), d.pop(k, x) -/
def rDPop (g : G) : V → List V → Hp → VK → Prop := fun x vs H Q => ∃ μ kvs a p y more, x = .ref a ∧ vs = y :: more ∧ (more = [] ∨ ∃ z, more = [z]) ∧ ContRel g μ H (.dict kvs) a ∧ PVRel g μ H p y ∧ keyOk kvs p = true ∧
  (match dget kvs p with
  | some q => ∀ ho' v, ContRel g μ (upd H a ho') (.dict (ddel kvs p)) a → PVRel g μ H q v → Q v (upd H a ho')
  | none => ∃ z, more = [z] ∧ Q z H)
theorem mt_dpop (hP : g.P = X.prog) (hw : g.w = X.w) (hK : g.K = X.K) (hu : X.A.units + 64 < cLine) : MtR X "dict.pop" (rDPop g) := by
  intro pins s σ H x vs v us Q I rx rv ⟨μ, kvs, a, p, y, more, e1, e2, hm, c, rp, ok, q⟩
  subst e1; subst e2
  cases rx
  obtain ⟨u, ms, rfl, ry, rm⟩ : ∃ u ms, us = u :: ms ∧ RelV y u ∧ Vals more ms := by
    cases rv with
    | cons r1 t => exact ⟨_, _, rfl, r1, t⟩
  have hms : ms = [] ∨ ∃ x, ms = [x] := by
    rcases hm with rfl | ⟨z, rfl⟩
    · cases rm; exact .inl rfl
    · cases rm with
      | cons _ t => cases t; exact .inr ⟨_, rfl⟩
  have hlen : kvs.length ≤ sizeLine → (ddel kvs p).length ≤ sizeLine := fun h => Nat.le_trans (ddel_length kvs p) h
  rcases keyOk_split ok with ⟨n, hn⟩ | ⟨n, hn⟩
  · have ex := leafK_V rp hn
    rcases asL I c ok hn with ⟨kv, e1, r⟩ | ⟨rfl, o, e1, hs, d⟩
    · have t := lp_get r hn
      subst ex
      cases e : dget kvs p with
      | some q' =>
        rw [e] at q t
        obtain ⟨v', ev, rv'⟩ := t
        refine d_pop I e1 ry ev hms fun w' s' I' rw' => ⟨v', _, I', rw', q _ v' (.inl ⟨_, upd_same, ?_⟩) rv'⟩
        have st := stays_upd (μ := μ) (o' := .dK (dropK kv n)) e1 (.dK _)
        exact Paired.imp (lp_del r hn) fun _ _ z => ⟨z.1, z.2.stays st⟩
      | none =>
        rw [e] at q t
        obtain ⟨z, rfl, q⟩ := q
        cases rm with
        | cons rz t' =>
          cases t'
          exact d_popD I e1 ry t fun s' I' => ⟨z, H, I', rz, q⟩
    · subst ex
      obtain ⟨z, rfl, q⟩ := q
      cases rm with
      | cons rz t' =>
        cases t'
        have hp : (keyPart u).isSome = true := by
          cases n with
          | inl i => obtain ⟨t, q⟩ := (show ∃ t, u = Value.int i t from ry); subst q; rfl
          | inr x => obtain ⟨t, q⟩ := (show ∃ t, u = Value.str x t from ry); subst q; rfl
        exact call_meetsIn PySem.F.slot_dict_pop d.typeIs PySem.F.entry_dict_pop (PySem.F.args_dict_pop_3 _ _ _) (meets_dict_pop_default (mixKind X.prog X.w) a (kV_is ry) hs hp _) ⟨[], d, rfl, ⟨z, H, I.tok _, rz, q⟩⟩
  · obtain ⟨b, rfl⟩ := tup_ref rp hn
    cases ry
    obtain ⟨z', hs, xs, r, d⟩ := asT I hP hw hK c ok hn
    have t := tp_get r hn
    have ha : argsOk "dict.pop" ⟨.ref a :: .ref b :: ms, []⟩ := by
      rcases hms with q | ⟨x, q⟩
      · subst q; exact PySem.F.args_dict_pop_2 _ _
      · subst q; exact PySem.F.args_dict_pop_3 _ _ _
    cases e : dget kvs p with
    | some q' =>
      rw [e] at q t
      obtain ⟨pp, v', h1, h2, h3⟩ := t
      refine call_pop_heap (hsz := by rw [← Paired.len r]; exact z') hms ha (nkroom hu) (key_is I hK rp hn) hs d h1 fun h' dd' hs' => ?_
      obtain ⟨o', es, ep, q1, q2, q3, q4, q5, q6⟩ := dd'
      obtain ⟨ob, eo, m⟩ := c.mut
      refine ⟨v', _, d_write I c.canW hs' ⟨o', q1⟩ (raw_ok q1), h2, q _ v' (.inr ⟨o', upd_same, hs, hlen z', _, q2, ⟨es, ep, q3, by rw [q4, hP, hw]⟩, q6, ?_⟩) h3⟩
      have st := stays_upd (μ := μ) (o' := rawO a o') eo m
      exact Paired.imp (tp_del r hn) fun _ _ z => ⟨z.1, z.2.1.stays st, let ⟨v, y1, y2⟩ := z.2.2; ⟨v, y1, y2.stays st⟩⟩
    | none =>
      rw [e] at q t
      obtain ⟨z, rfl, q⟩ := q
      cases rm with
      | cons rz t' =>
        cases t'
        exact call_pop_default_heap (hsz := by rw [← Paired.len r]; exact z') (nkroom hu) (key_is I hK rp hn) hs d t fun tk => ⟨z, H, I.tok _, rz, q⟩
def dPop (x : RV) (ps : List PV) : CM RV := fun cs => match contC cs x, ps with
  | some (.dict kvs), p :: more => if keyOk kvs p && decide (more.length ≤ 1) then match dget kvs p with
    | some q => .ok (.pv q) (wrC x (.dict (ddel kvs p)) cs)
    | none => match more with
      | [d] => .ok (.pv d) cs
      | _ => .stuck
    else .stuck
  | _, _ => .stuck
theorem pr_dpop : PrM g (rDPop g) dPop := fun W M μ H σ cs2 μ2 H2 x v ps vs Q k hx hp o => by
  unfold dPop at o
  split at o
  · rename_i kvs p more ex
    split at o
    · rename_i z
      simp only [Bool.and_eq_true, decide_eq_true_eq] at z
      obtain ⟨a, rfl, c, wr⟩ := wr_fct k hx ex
      cases hp with
      | @cons _ _ y ws r1 t =>
        have hm : ws = [] ∨ ∃ z, ws = [z] := by
          have hl := t.length
          cases ws with
          | nil => exact .inl rfl
          | cons w ws =>
            cases ws with
            | nil => exact .inr ⟨_, rfl⟩
            | cons _ _ => simp at hl; omega
        refine ⟨μ2, kvs, a, p, y, ws, rfl, rfl, hm, c, r1, z.1, ?_⟩
        cases e : dget kvs p with
        | some q =>
          rw [e] at o
          intro ho' v' hc hv
          obtain ⟨ob, eo, m⟩ := c.mut
          exact o μ2 _ (wr _ ho' hc) v' (hv.stays (stays_upd eo m))
        | none =>
          rw [e] at o
          cases t with
          | nil => exact o.elim
          | cons r2 t =>
            cases t with
            | nil => exact ⟨_, rfl, o μ2 H2 k _ r2⟩
            | cons _ _ => exact o.elim
    · exact o.elim
  · exact o.elim
end CL

/-! CL13: built-in functions of one or two arguments; stores to fields and places. -/
namespace CL
open PySem L2 PyProof.Rows
variable {g : G} {W : WX} {M : Addr → Prop} {μ μ' μ1 μ2 : List Addr} {H H' H0 H1 H2 : Hp} {σ σ1 σ2 : L2.St} {cs cs' cs1 cs2 : CSt} {X : Cx}
/-! ### f(e) -/
section
variable {x : Str} {id T : String} {r : List V → Hp → VK → Prop} {f : RV → CM RV} {e : Expr} {m : CM RV} {p pos : Pos}
theorem tOf_arg (pr : Pr1 g (fun v H Q => r [v] H Q) f) {σ : L2.St} {H : Hp} {Q : VK} (h : tOf g W (e1 f m) σ H Q) : tCB r (tCons (tOf g W m) tNil) σ H Q := by
  have h2 := tOf1 pr h
  exact h2
theorem se_cb1 (hc : CallR X (.builtin id) r) (pr : Pr1 g (fun v H Q => r [v] H Q) f) (hm : X.mg x = none) (ha : SE X g W e m) (hg : Gl X x := by rfl) (hv : bootBuiltins x = some (.builtin id) := by decide +kernel) (hn : x ≠ "__name__" := by decide) (hdb : (x == ("__debug__" : Str)) = false := by decide)
    (he : starEach [e] X.env = (false, eval e X.env) :: starEach [] X.env := by rfl) (hpl : (backTo pos (starEach [] X.env)).any (·.1) = false := by rfl) : SE X g W (.Call (.Name x p) [e] [] pos) (e1 f m) :=
  PE.mono (pe_callB hc hg hm hv (pa_cons ha pa_nil he) hn hdb he hpl) fun σ H Q h => tOf_arg pr h
theorem se_ct1 (hc : CallR X (.type T) r) (pr : Pr1 g (fun v H Q => r [v] H Q) f) (hm : X.mg x = none) (ha : SE X g W e m) (hg : Gl X x := by rfl) (hv : bootBuiltins x = some (.type T) := by decide +kernel) (hn : x ≠ "__name__" := by decide) (hdb : (x == ("__debug__" : Str)) = false := by decide)
    (he : starEach [e] X.env = (false, eval e X.env) :: starEach [] X.env := by rfl) (hpl : (backTo pos (starEach [] X.env)).any (·.1) = false := by rfl) : SE X g W (.Call (.Name x p) [e] [] pos) (e1 f m) :=
  PE.mono (pe_callTy hc hg hm hv (pa_cons ha pa_nil he) hn hdb he hpl) fun σ H Q h => tOf_arg pr h
end
/-- len -/
def opLen (x : RV) : CM RV := fun cs => match listC cs x with
  | some xs => .ok (.pv (.int xs.length)) cs
  | none => match valC cs x with
    | some (.tup xs) => .ok (.pv (.int xs.length)) cs
    | some (.str z) => if z.length ≤ 16777216 then .ok (.pv (.int z.length)) cs else .stuck
    | _ => .stuck
theorem pr_len {K : PySem.W.Frag} (hK : g.K = K) : Pr1 g (fun v H Q => ∃ x n, [v] = [x] ∧ LenV K x H n ∧ Q (V.int (n : Nat)) H) opLen := fun W M μ H σ cs2 μ2 H2 x v Q k hx o => by
  unfold opLen at o
  split at o
  · rename_i xs e
    obtain ⟨a, vs, rfl, h1, h2⟩ := listC_rel k.rel hx e
    exact ⟨_, xs.length, rfl, .inl ⟨vs, .inl h1, h2.length⟩, o μ2 H2 k _ (.int _)⟩
  · split at o
    · rename_i xs e
      obtain ⟨a, vs, rfl, h1, h2⟩ := tup_inv (valC_rel k.rel hx e)
      exact ⟨_, xs.length, rfl, .inr ⟨vs, hK ▸ h1, h2.length⟩, o μ2 H2 k _ (.int _)⟩
    · rename_i z e
      have q := valC_rel k.rel hx e
      cases q
      split at o
      · rename_i hz
        exact ⟨_, z.length, rfl, ⟨hz, rfl⟩, o μ2 H2 k _ (.int _)⟩
      · exact o.elim
    · exact o.elim
/-- int of an int or a bool -/
def opInt (x : RV) : CM RV := fun cs => match x with
  | .pv (.int i) => .ok (.pv (.int i)) cs
  | .pv (.bl b) => .ok (.pv (.int (if b then 1 else 0))) cs
  | _ => .stuck
theorem pr_int : Pr1 g (fun v H Q => (∃ i, [v] = [V.int i] ∧ Q (.int i) H) ∨ ∃ k, [v] = [V.bl k] ∧ Q (.int (if k then 1 else 0)) H) opInt := fun W M μ H σ cs2 μ2 H2 x v Q k hx o => by
  unfold opInt at o
  split at o
  · cases hx; exact .inl ⟨_, rfl, o μ2 H2 k _ (.int _)⟩
  · cases hx; exact .inr ⟨_, rfl, o μ2 H2 k _ (.int _)⟩
  · exact o.elim
/-- str of an int -/
def opStr (x : RV) : CM RV := fun cs => match x with
  | .pv (.int i) => if i.natAbs.log2 < 1920 then .ok (.pv (.str (toString i))) cs else .stuck
  | _ => .stuck
theorem pr_str : Pr1 g (fun v H Q => ∃ i : Int, [v] = [V.int i] ∧ i.natAbs.log2 < 1920 ∧ Q (.str (toString i)) H) opStr := fun W M μ H σ cs2 μ2 H2 x v Q k hx o => by
  unfold opStr at o
  split at o
  · cases hx
    split at o
    · rename_i z
      exact ⟨_, rfl, z, o μ2 H2 k _ (.str _)⟩
    · exact o.elim
  · exact o.elim
/-- tuple(xs) -/
def opTuple (x : RV) : CM RV := fun cs => match listC cs x with
  | some xs => .ok (.pv (.tup xs)) cs
  | none => match valC cs x with
    | some (.tup xs) => .ok (.pv (.tup xs)) cs
    | _ => .stuck
theorem pr_tuple {K : PySem.W.Frag} (hK : g.K = K) : Pr1 g (fun v H Q => ∃ p ys, [v] = [V.ref p] ∧ ((SqL K H p ys ∧ ∀ l, H l = none → Q (.ref l) (upd H l (.tup ys))) ∨ (SqT K H p ys ∧ Q (.ref p) H))) opTuple := fun W M μ H σ cs2 μ2 H2 x v Q k hx o => by
  unfold opTuple at o
  split at o
  · rename_i xs e
    obtain ⟨a, vs, rfl, h1, h2⟩ := listC_rel k.rel hx e
    exact ⟨a, vs, rfl, .inl ⟨.inl h1, fun p hp => o μ2 _ (k.fresh hp) _ (.tup (.of upd_same) (h2.stays (stays_fresh hp)))⟩⟩
  · split at o
    · rename_i xs e
      have q := valC_rel k.rel hx e
      obtain ⟨a, vs, rfl, h1, h2⟩ := tup_inv q
      exact ⟨a, vs, rfl, .inr ⟨hK ▸ h1, o μ2 H2 k _ q⟩⟩
    · exact o.elim
/-- list(xs) of a list or a tuple -/
def opList (x : RV) : CM RV := fun cs => match listC cs x with
  | some xs => .ok (.own (.list xs)) cs
  | none => match valC cs x with
    | some (.tup xs) => .ok (.own (.list xs)) cs
    | _ => .stuck
theorem pr_list {K : PySem.W.Frag} (hK : g.K = K) : Pr1 g (fun v H Q => ∃ p ys, [v] = [V.ref p] ∧ (SqL K H p ys ∨ SqT K H p ys) ∧ ∀ l, H l = none → Q (.ref l) (upd H l (.lst ys))) opList := fun W M μ H σ cs2 μ2 H2 x v Q k hx o => by
  unfold opList at o
  split at o
  · rename_i xs e
    obtain ⟨a, vs, rfl, h1, h2⟩ := listC_rel k.rel hx e
    exact ⟨a, vs, rfl, .inl (.inl h1), fun p hp => o μ2 _ (k.fresh hp) _ (RVRel.new k hp ⟨vs, upd_same, h2.stays (stays_fresh hp)⟩)⟩
  · split at o
    · rename_i xs e
      obtain ⟨a, vs, rfl, h1, h2⟩ := tup_inv (valC_rel k.rel hx e)
      exact ⟨a, vs, rfl, .inr (hK ▸ h1), fun p hp => o μ2 _ (k.fresh hp) _ (RVRel.new k hp ⟨vs, upd_same, h2.stays (stays_fresh hp)⟩)⟩
    · exact o.elim
section
variable {e : Expr} {m : CM RV} {p pos : Pos}
theorem se_len (hK : g.K = X.K) (hm : X.mg "len" = none) (ha : SE X g W e m) (hg : Gl X "len" := by rfl) (he : starEach [e] X.env = (false, eval e X.env) :: starEach [] X.env := by rfl) : SE X g W (.Call (.Name "len" p) [e] [] pos) (e1 opLen m) := se_cb1 call_len (pr_len hK) hm ha hg (by decide +kernel) (by decide) (by decide) he rfl
theorem se_intB (hm : X.mg "int" = none) (ha : SE X g W e m) (hg : Gl X "int" := by rfl) (he : starEach [e] X.env = (false, eval e X.env) :: starEach [] X.env := by rfl) : SE X g W (.Call (.Name "int" p) [e] [] pos) (e1 opInt m) := se_ct1 call_int1 pr_int hm ha hg (by decide +kernel) (by decide) (by decide) he rfl
theorem se_strI (hm : X.mg "str" = none) (ha : SE X g W e m) (hg : Gl X "str" := by rfl) (he : starEach [e] X.env = (false, eval e X.env) :: starEach [] X.env := by rfl) : SE X g W (.Call (.Name "str" p) [e] [] pos) (e1 opStr m) := se_ct1 call_str_int pr_str hm ha hg (by decide +kernel) (by decide) (by decide) he rfl
theorem se_tuple (hK : g.K = X.K) (hm : X.mg "tuple" = none) (ha : SE X g W e m) (hg : Gl X "tuple" := by rfl) (he : starEach [e] X.env = (false, eval e X.env) :: starEach [] X.env := by rfl) : SE X g W (.Call (.Name "tuple" p) [e] [] pos) (e1 opTuple m) := se_ct1 call_tuple_of (pr_tuple hK) hm ha hg (by decide +kernel) (by decide) (by decide) he rfl
theorem se_list (hK : g.K = X.K) (hm : X.mg "list" = none) (ha : SE X g W e m) (hg : Gl X "list" := by rfl) (he : starEach [e] X.env = (false, eval e X.env) :: starEach [] X.env := by rfl) : SE X g W (.Call (.Name "list" p) [e] [] pos) (e1 opList m) := se_ct1 call_list_of (pr_list hK) hm ha hg (by decide +kernel) (by decide) (by decide) he rfl
end

/-! ### isinstance(x, T) -/
def tyP : PV → Option String
  | .non => some "NoneType"
  | .bl _ => some "bool"
  | .int _ => some "int"
  | .str _ => some "str"
  | .tup _ => some "tuple"
  | .lst _ => some "list"
  | _ => none
/-- T: a built-in class -/
def opIsi (T : String) (x : RV) : CM RV := fun cs => match (match listC cs x with
    | some _ => some "list"
    | none => match valC cs x with
      | some p => tyP p
      | none => none) with
  | some t => match kitB t T with
    | some b => .ok (.pv (.bl b)) cs
    | none => .stuck
  | none => .stuck
def tIsi (K : PySem.W.Frag) (T : String) (ta : TE) : TE := fun σ H Q => ta σ H fun v H1 => ∃ t b, TyX K H1 v (.type t) ∧ kitB t T = some b ∧ Q (.bl b) H1
theorem tup_tyx {K : PySem.W.Frag} {a : Addr} {vs : List V} (h : SqT K H a vs) : TyX K H (.ref a) (.type "tuple") := by
  rcases h with (h | ⟨o, h⟩) | ⟨o, its, n, h1, h2, _⟩
  · exact .base (.tup h)
  · exact .fTuple h
  · exact .kTuple h1 h2

theorem tyP_x {p : PV} {v : V} {t : String} (h : PVRel g μ H p v) (e : tyP p = some t) : TyX g.K H v (.type t) := by
  cases h with
  | non => cases e; exact .base .non
  | bl b => cases e; exact .base (.bl b)
  | int i => cases e; exact .base (.int i)
  | str z => cases e; exact .base (.str z)
  | tup h _ => cases e; exact tup_tyx h
  | lst h _ => cases e; exact .base (.frz h)
  | loc _ => cases e
  | clo _ _ _ _ => cases e
theorem rd_tyx {K : PySem.W.Frag} {a : Addr} {vs : List V} (h : Rd H a (.lst vs)) : TyX K H (.ref a) (.type "list") := by
  rcases h with h | ⟨o, h⟩
  · exact .base (.lst h)
  · exact .base (.frz h)
theorem se_isi {T : Str} {T' : String} {e : Expr} {m : CM RV} {p p2 pos : Pos} (hK : g.K = X.K) (hm : X.mg "isinstance" = none) (hT : X.mg T = none) (ha : SE X g W e m) (hv : bootBuiltins T = some (.type T')) (hg : Gl X "isinstance" := by rfl) (hgT : Gl X T := by rfl) (hn : T ≠ "__name__" := by decide) (hdb : (T == ("__debug__" : Str)) = false := by decide)
    (he : starEach [e, .Name T p2] X.env = (false, eval e X.env) :: starEach [.Name T p2] X.env := by rfl) (he2 : starEach [.Name T p2] X.env = (false, eval (.Name T p2) X.env) :: starEach [] X.env := by rfl) (hpl : (backTo pos (starEach [.Name T p2] X.env)).any (·.1) = false := by rfl) :
    SE X g W (.Call (.Name "isinstance" p) [e, .Name T p2] [] pos) (e1 (opIsi T') m) :=
  PE.mono (pe_callB call_isi hg hm (by decide +kernel) (pa_cons ha (pa_cons (pe_bltn (v := .ty T') hgT hT hv rfl hn hdb) pa_nil he2) he) (by decide) (by decide) he hpl) fun σ H Q h => by
    obtain ⟨μ, cs, rel, o⟩ := h
    refine ⟨μ, cs, rel, (Out.bind o).mono fun x cs1 μ1 H1 _ k h1 v hv => ?_⟩
    show ∃ x c t u b, [v, V.ty T'] = [x, c] ∧ ClsV c u ∧ TyX X.K H1 x t ∧ PySem.W.kitOne X.K t u = some b ∧ Q (.bl b) H1
    unfold opIsi at h1
    split at h1
    · rename_i t et
      split at h1
      · rename_i b eb
        refine ⟨v, _, .type t, .type T', b, rfl, .ty T', ?_, kit_ty eb, h1 μ1 H1 k _ (.bl _)⟩
        split at et
        · rename_i xs el
          cases et
          obtain ⟨a, vs, rfl, h1, h2⟩ := listC_rel k.rel hv el
          exact rd_tyx h1
        · split at et
          · rename_i q eq
            exact hK ▸ tyP_x (valC_rel k.rel hv eq) et
          · cases et
      · exact h1.elim
    · exact h1.elim
/-! ### max, min of two ints -/
def opMM (mx : Bool) (ps : List PV) : CM RV := fun cs => match ps with
  | [.int i, .int j] => .ok (.pv (.int (if mx then (if j > i then j else i) else (if j < i then j else i)))) cs
  | _ => .stuck
def eMM (mx : Bool) (m : CM (List PV)) : CM RV := m >>= opMM mx
theorem mm_two {mx : Bool} {ps : List PV} {vs : List V} {Q : VK} (k : Fct g M μ H μ1 cs1 σ H1) (hv : PVsRel g μ1 H1 ps vs) (h1 : Out g W M μ H σ (opMM mx ps cs1) fun rv cs' μ' H' => ∀ v, RVRel g M H μ' cs' σ H' rv v → Q v H') :
    ∃ i j : Int, vs = [.int i, .int j] ∧ Q (.int (if mx then (if j > i then j else i) else (if j < i then j else i))) H1 := by
  unfold opMM at h1
  split at h1
  · rename_i i j
    cases hv with
    | cons q r =>
      cases q
      cases r with
      | cons q r =>
        cases q
        cases r
        exact ⟨i, j, rfl, h1 μ1 H1 k _ (.int _)⟩
  · exact h1.elim
section
variable {a b : Expr} {m : CM (List PV)} {p pos : Pos}
theorem se_max2 (hc : X.calm = true) (hm : X.mg "max" = none) (ha : SA X g W [a, b] m) (hg : Gl X "max" := by rfl) (he : starEach [a, b] X.env = (false, eval a X.env) :: starEach [b] X.env := by rfl) (hpl : (backTo pos (starEach [b] X.env)).any (·.1) = false := by rfl) :
    SE X g W (.Call (.Name "max" p) [a, b] [] pos) (eMM true m) := PE.mono (pe_callB (call_max2 hc) hg hm (by decide +kernel) ha (by decide) (by decide) he hpl) fun σ H Q h => by
  obtain ⟨μ, cs, rel, o⟩ := h
  exact ⟨μ, cs, rel, (Out.bind o).mono fun ps cs1 μ1 H1 _ k h1 vs hv => mm_two k hv h1⟩
theorem se_min2 (hc : X.calm = true) (hm : X.mg "min" = none) (ha : SA X g W [a, b] m) (hg : Gl X "min" := by rfl) (he : starEach [a, b] X.env = (false, eval a X.env) :: starEach [b] X.env := by rfl) (hpl : (backTo pos (starEach [b] X.env)).any (·.1) = false := by rfl) :
    SE X g W (.Call (.Name "min" p) [a, b] [] pos) (eMM false m) := PE.mono (pe_callB (call_min2 hc) hg hm (by decide +kernel) ha (by decide) (by decide) he hpl) fun σ H Q h => by
  obtain ⟨μ, cs, rel, o⟩ := h
  exact ⟨μ, cs, rel, (Out.bind o).mono fun ps cs1 μ1 H1 _ k h1 vs hv => mm_two k hv h1⟩
end

/-! ### stores -/
def putP (f : Str) (p : PV) : List (Str × PV) → List (Str × PV)
  | [] => [(f, p)]
  | (k, q) :: r => if k = f then (k, p) :: r else (k, q) :: putP f p r
theorem putF_nil (f : Str) (v : V) : putF f v [] = [(f, v)] := rfl
theorem putF_cons (f k : Str) (v w : V) (r : List (Str × V)) : putF f v ((k, w) :: r) = if k = f then (k, v) :: r else (k, w) :: putF f v r := rfl
theorem fld_put {fs : List (Str × PV)} {fv : List (Str × V)} {f : Str} {p : PV} {v : V} (r : FldRel g μ H fs fv) (q : PVRel g μ H p v) : FldRel g μ H (putP f p fs) (putF f v fv) := by
  induction r with
  | nil => exact .cons ⟨rfl, q⟩ .nil
  | @cons a b as bs h t ih =>
    obtain ⟨k, p'⟩ := a
    obtain ⟨k', v'⟩ := b
    obtain ⟨e, r⟩ := h
    simp only at e r
    subst e
    rw [putF_cons]
    simp only [putP]
    split
    · exact .cons ⟨rfl, q⟩ t
    · exact .cons ⟨rfl, r⟩ ih
/-- o.f = e: first e, then o -/
def sFldP (cls : Nat) (f : Str) (mo : CM RV) (mv : CM PV) : CM Fl := do
  let p ← mv
  let x ← mo
  fun cs => match valC cs x with
    | some (.loc l) => match cs.h[l]? with
      | some (.inst c fs) => if c = cls ∧ fs.length < 1000 then .ok .nx { cs with h := cs.h.set l (.inst c (putP f p fs)) } else .stuck
      | _ => .stuck
    | _ => .stuck
theorem ss_fld {cls : Nat} {f : Str} {o e : Expr} {mo : CM RV} {mv : CM PV} {pos pos' : Pos} (cl : Cls X.K (g.ct cls)) (na : NoAttr X.K (g.ct cls) f) (ho : SE X g W o mo) (hv : SPv X g W e mv) (hs : swapsWith e (some (.Attribute o f pos')) pos.line X.env = pure false := by rfl) :
    SS X g W (.Assign [.Attribute o f pos'] e pos) (sFldP cls f mo mv) := PS.mono (ps_fld ho hv hs) fun D σ H h => by
  obtain ⟨μ, cs, rel, oo⟩ := h
  refine ⟨μ, cs, rel, (OutS.bindE oo).mono fun p cs1 μ1 H1 _ k1 h1 v hp => ⟨μ1, cs1, k1.rel, ((OutS.bindE (σ := σ) h1).rebase k1).mono fun x cs2 μ2 H2 _ k2 h2 xv hx => ?_⟩⟩
  have k := k1.trans k2
  have hp' := hp.stays (k2.stays k1.rel)
  split at h2
  · rename_i l el
    split at h2
    · rename_i c fs ef
      split at h2
      · rename_i z
        obtain ⟨rfl, z⟩ := z
        obtain ⟨a, rfl, hl, dx, fv, e1, e2⟩ := locRel k.rel (valC_rel k.rel hx el) ef
        refine ⟨a, _, dx, fv, rfl, e1, cl, na, by rw [← Paired.len e2]; exact z, ?_⟩
        have st := stays_upd (μ := μ2) (o' := .ins (g.ct c) dx (putF f v fv)) e1 (.ins _ _ _)
        refine h2 μ2 σ _ (k.at (k.keep.k2 a (.inl (List.mem_of_getElem? hl))) (k.rel.heapSet (o' := .inst c (putP f p fs)) hl ⟨dx, _, upd_same, ?_⟩) (fun b z => .inl z) fun _ _ z => z)
        exact fld_put (Paired.imp e2 fun _ _ q => ⟨q.1, q.2.stays st⟩) (hp'.stays st)
      · exact h2.elim
    · exact h2.elim
  · exact h2.elim
/-- xs[i] = .. -/
def gLSet (mo mi : CM RV) (q : PV) : CM Unit := do
  let x ← mo
  let y ← mi
  fun cs => match contC cs x, y with
    | some (.list xs), .pv (.int i) => match ixN xs.length i with
      | some j => .ok () (wrC x (.list (xs.set j q)) cs)
      | none => .stuck
    | _, _ => .stuck
theorem sg_lset {o i : Expr} {mo mi : CM RV} {pos : Pos} (ho : SE X g W o mo) (hi : SE X g W i mi)
    (hs : ∀ v : Value, assign (.Subscript o i pos) X.env v = (do
      let ov ← holding [v] (eval o X.env)
      let iv ← holding [v, ov] (eval i X.env)
      standAt pos
      holding [v, ov, iv] (setItem ov iv v)
      release [v, ov, iv] []) := by exact fun _ => rfl) : SG X g W [] (.Subscript o i pos) (gLSet mo mi) := PG.mono (pg_sub ho hi set_list hs) fun v σ H Q h => by
  obtain ⟨μ, cs, q, rel, rq, oo⟩ := h
  refine ⟨μ, cs, rel, (OutG.bindE oo).mono fun x cs1 μ1 H1 _ k1 h1 xv hx => ⟨μ1, cs1, k1.rel, ((OutG.bindE (σ := σ) h1).rebase k1).mono fun y cs2 μ2 H2 ey2 k2 h2 yv hy => ?_⟩⟩
  clear ey2
  have k := k1.trans k2
  have hx' := hx.step k1.rel k2
  have rq' : PVRel g μ2 H2 q v := rq.stays (rel.stays k.keep k.ext)
  split at h2
  · rename_i xs i ex
    split at h2
    · rename_i j ej
      obtain ⟨a, rfl, ⟨ws, e1, e2⟩, wr⟩ := wr_fct k hx' ex
      cases hy
      have st := stays_upd (μ := μ2) (o' := .lst (ws.set j v)) e1 (.lst _)
      exact ⟨a, ws, i, j, rfl, rfl, e1, by rw [← e2.length]; exact ej, h2 μ2 σ _ (wr _ _ ⟨_, upd_same, PVsRel.set (rq'.stays st) j (e2.stays st)⟩) .refl⟩
    · exact h2.elim
  · exact h2.elim
end CL

/-! CL14: raise, try .. except X. -/
namespace CL
open PySem L2 PyProof.Rows
variable {g : G} {W : WX} {M : Addr → Prop} {μ μ' μ1 μ2 : List Addr} {H H' H0 H1 H2 : Hp} {σ σ1 σ2 : L2.St} {cs cs' cs1 cs2 : CSt} {X : Cx}
/-- an own class of exceptions over ValueError without an __init__ of its own -/
structure ExcOk (K : PySem.W.Frag) (mg : Str → Option Value) (g : G) (c : Nat) (x : Str) : Prop where
  mgC : mg x = some (.ref (g.ct c))
  exc : PySem.W.excIn K (g.ct c) [.type "ValueError", .type "Exception", .type "BaseException", .type "object"] "ValueError.__new__" = true
  kp : PySem.W.keepIn K (.ref (g.ct c)) = true
  sub : PySem.W.subIn K (.ref (g.ct c)) (.type "BaseException") = some true
  ty : PySem.W.typeIn K (.ref (g.ct c)) = some (.type "type")
def sRaise (c : Nat) : CM Fl := fun cs => .exc ⟨c, none⟩ cs
theorem ss_raise {c : Nat} {x m : Str} {j : Nat} {p p2 pos pos' : Pos} (hc : X.calm = true) (tk : Takes X W) (ok : ExcOk X.K X.mg g c x) (hg : Gl X x := by rfl) (hdb : (x == ("__debug__" : Str)) = false := by decide) :
    SS X g W (.Raise (some (.Call (.Name x p) [.Constant (.str m) j p2] [] pos)) none pos') (sRaise c) :=
  PS.mono (ps_raise hc tk (pmk_own PySem.F.excBase_ValueError ok.exc ok.mgC ok.kp (raises_own ok.sub ok.ty) hg hdb)) fun D σ H h => by
    obtain ⟨μ, cs, rel, o⟩ := h
    exact o μ σ H _ none (Fct.refl rel) ⟨rfl, rfl⟩
/-- which classes a clause takes -/
abbrev EM := Nat → Option Bool
def sTry (em : EM) (mb ms : CM Fl) : CM Fl := fun cs => match mb cs with
  | .exc x cs' => match em x.cls with
    | some true => noexc ms cs'
    | some false => .exc x cs'
    | none => .stuck
  | r => r
theorem ss_try {x : Str} {c : Value} {body suite : List Stmt} {b₀ : Stmt} {np pos pos' : Pos} {mb ms : CM Fl} {em : EM} (hs : X.stack = X.env :: X.outer) (hf : X.env.frame = some X.env.locals) (hc : Names X x c) (tk : Takes X W)
    (hem : ∀ n b, em n = some b → PySem.W.exmOne X.K (.ref (g.ct n)) c = some b)
    (hb : ∀ (W : WX) (pn : List (Addr × Obj)) (xe : Value → Shared → Prop), Takes (X.tr pn xe) W → PassesOwn (model X.prog X.w) X.A X.env xe → SSs (X.tr pn xe) g W body mb)
    (hsu : ∀ (a : Addr) (oe : Obj) (pn : List (Addr × Obj)), (∃ vs, oe.data = .fields vs) → SSs (X.suite a ((a, oe) :: pn)) g W0 (b₀ :: suite) ms) :
    SS X g W (.Try body [.ExceptHandler (some (.Name x np)) none (b₀ :: suite) pos'] [] [] pos) (sTry em mb ms) :=
  PS.mono (ps_try_only (tb := fun W => tOfS g W mb) (ts := fun _ _ _ => tOfS g W0 ms) hs hf hc tk hb fun a oe cls d pn _ hz => hsu a oe pn hz) fun D σ H h => by
    obtain ⟨μ, cs, rel, o⟩ := h
    refine ⟨μ, cs, rel, ?_⟩
    unfold sTry at o
    cases e : mb cs with
    | ok f cs' => rw [e] at o; cases f <;> exact o
    | stuck => rw [e] at o; exact o
    | exc x cs' =>
      rw [e] at o
      intro μ' σ' H' cls d k q
      cases ee : em x.cls with
      | none => simp only [ee] at o; exact o.elim
      | some b =>
        simp only [ee] at o
        refine ⟨b, by rw [q.1]; exact hem _ _ ee, fun hb a _ => ?_, fun hb => ?_⟩
        · subst hb
          simp only at o
          refine ⟨μ', cs', k.rel, ?_⟩
          unfold noexc at o
          cases e2 : ms cs' with
          | exc x' cs2 => rw [e2] at o; exact o.elim
          | stuck => rw [e2] at o; exact o.elim
          | ok f cs2 =>
            rw [e2] at o
            cases f with
            | nx => exact OutS.rebase (r := .ok .nx cs2) o k
            | rt r => exact OutS.rebase (r := .ok (.rt r) cs2) o k
        · subst hb
          simp only at o
          exact o μ' σ' H' cls d k q
end CL

/-! CL15: sorted. -/
namespace PySem.W
open PySem PySem.Calls PyProof.Rows SeqAt
section
variable {A : Around} {s : Shared}
theorem call_tuple_lt {prog : Program} {w : World} {E : Value → Shared → Prop} {Q : Value → Shared → Prop} {l b : Addr} {items items2 : Array Value} {e r : Nat → Bool} (hl : s.heap.IsTuple l items) (hb : s.heap.IsTuple b items2)
    (he : ∀ j (h1 : j < items.size) (h2 : j < items2.size), EqAt A.in1 s items[j] items2[j] (e j)) (hr : ∀ j (h1 : j < items.size) (h2 : j < items2.size), e j = false → RcLt A.in1 s items[j] items2[j] (r j))
    (h : Q (.bool (firstLt e r (decide (items.size < items2.size)) (List.range (min items.size items2.size)))) s) : wpAny (model prog w) A (call (.builtin "tuple.__lt__") [.ref l, .ref b]) Q E s := by
  obtain ⟨⟨cls, dd, data, sl⟩, ho, hc, n, hd⟩ := id hl
  obtain ⟨⟨cls2, dd2, data2, sl2⟩, ho2, hc2, n2, hd2⟩ := id hb
  simp only at hc hd hc2 hd2
  subst hc hd hc2 hd2
  exact call_meets F.slot_tuple_lt ⟨_, ho, rfl⟩ F.entry_tuple_lt (F.args_tuple_lt_2 _ _) (tuple_ltAt l b items items2 n n2 dd dd2 sl sl2 e r) ⟨ho, ho2, he, hr, h⟩
end
section
variable {prog : Program} {w : World} {A : Around} {s : Shared} {E : Value → Shared → Prop}
/-- one tuple against another, both of one type -/
theorem oneLt_tup {xs ys : List PyData} {a b : Value} {as bs : List Addr} {Q : Bool → Shared → Prop} (ra : Reads s.heap a (.tuple xs) as) (rb : Reads s.heap b (.tuple ys) bs) (hal : alikeAll xs ys = true)
    (hu : A.units + min (PyData.tuple xs).depth (PyData.tuple ys).depth < cLine) (hq : Q (dataLt (.tuple xs) (.tuple ys)) s) : wpAny (model prog w) A (oneLt' true a b) Q E s := by
  cases ra with
  | @tuple l o vs n _ as₁ h1 h2 h3 h4 =>
    cases rb with
    | @tuple l' o' vs' n' _ bs₁ k1 k2 k3 k4 =>
      have n1 : vs.size = xs.length := by simpa using ReadsAll.length _ _ _ h4
      have n2 : vs'.size = ys.length := by simpa using ReadsAll.length _ _ _ k4
      rw [dataLt_tuple, ← firstLt_toks xs ys hal, ← n1, ← n2] at hq
      rw [oneLt'_eq]
      simp only [if_true]
      refine wpAny_bind (wpAny_cRoomFor (room_here hu) ?_)
      refine wpAny_bind (wpAny_callSpecialIfBound?_slot (T := "tuple") ⟨_, h1, h2⟩ F.slot_tuple_lt (call_tuple_lt (e := pairEq xs ys) (r := fun j => dataLt (xs.getD j .none) (ys.getD j .none)) ⟨_, h1, h2, _, h3⟩ ⟨_, k1, k2, _, k3⟩ (fun j j1 j2 => ?_) (fun j j1 j2 hj => ?_) ?_))
      · have := eqAt_alikeAll xs ys A.in1 s vs.toList vs'.toList _ _ h4 k4 hal (room_in hu) j (by simpa using j1) (by simpa using j2)
        simpa using this
      · have := rcLt_alikeAll xs ys A.in1 s vs.toList vs'.toList _ _ h4 k4 hal (room_in hu) j (by simpa using j1) (by simpa using j2) hj
        simpa using this
      · exact wpAny_truthy_bool hq

theorem firsts_tups : ∀ (vs : List Value) (ds : List (List PyData)) {Q : List (Option Value) → Shared → Prop}, EachIs (fun v d => ∃ as, Reads s.heap v (.tuple d) as) vs ds → (∀ fs : List (Option Value), fs.map (·.isSome) = ds.map (fun d => !d.isEmpty) → Q fs s) →
    wpAny (model prog w) A (vs.mapM firstOfTuple') Q E s
  | _, _, _, .nil, h => by rw [List.mapM_nil]; exact wpAny_pure (h [] rfl)
  | _, _, Q, .cons (a := v) (as := vs) (b := d) (bs := ds) ⟨as, r⟩ t, h => by
    cases r with
    | @tuple a o xs n _ _ ho hc hd hr =>
      rw [List.mapM_cons]
      refine wpAny_bind ?_
      rw [kas_first_eq]
      refine wpAny_bind (Looks.here (show Looks (model prog w) s.heap (typeOf (.ref a)) o.cls from (Looks.ld ho).andThen .now) ?_)
      rw [hc, if_neg (by first | decide | simp)]
      refine wpAny_bind (listItems_at ho hd (wpAny_pure ?_))
      have hs : (xs[0]?).isSome = !d.isEmpty := by
        rw [← Array.getElem?_toList]
        have hl := SeqAt.ReadsAll.length _ _ _ hr
        cases hx : xs.toList with
        | nil =>
          rw [hx] at hl
          cases d with
          | nil => rfl
          | cons _ _ => simp at hl
        | cons y ys =>
          rw [hx] at hl
          cases d with
          | nil => simp at hl
          | cons _ _ => rfl
      exact wpAny_bind (firsts_tups vs ds (Q := fun bs s' => wpAny (model prog w) A (pure (xs[0]? :: bs)) Q E s') t fun fs hf => wpAny_pure (h _ (by rw [List.map_cons, List.map_cons, hs, hf])))
/-- tuples, some of them empty -/
theorem SortsAt.tuples0 {vs : List Value} {ds : List (List PyData)} (e : EachIs (fun v d => ∃ as, Reads s.heap v (.tuple d) as) vs ds) (hal : AllAlike (ds.map .tuple)) (hne : ∃ d ∈ ds, d = []) (hu : ∀ d, d ∈ ds → A.units + (PyData.tuple d).depth < cLine) : SortsAt prog w A s (dataKind s.heap (ds.map .tuple)) vs := by
  have e' : EachIs (fun v d => ∃ as, Reads s.heap v d as) vs (ds.map .tuple) := by
    clear hal hne hu
    induction e with
    | nil => exact .nil
    | cons h t ih => exact .cons h ih
  have room : ∀ {d d' : PyData}, d ∈ ds.map .tuple → A.units + min d.depth d'.depth < cLine := fun {d d'} hd => by
    obtain ⟨d0, hd0, rfl⟩ := List.mem_map.mp hd
    exact Nat.lt_of_le_of_lt (Nat.add_le_add_left (Nat.min_le_left _ _) _) (hu d0 hd0)
  have hlen : vs.length = ds.length := by
    have := e.length
    exact this
  refine ⟨fun v hv => ?_, ?_⟩
  · obtain ⟨d, hd, as, r⟩ := e'.left v hv
    exact ⟨_, dataKind_some hal hd r⟩
  · obtain ⟨d₀, ds₀, rfl⟩ : ∃ d₀ ds₀, ds = d₀ :: ds₀ := by
      obtain ⟨d, hd, _⟩ := hne
      cases ds with
      | nil => cases hd
      | cons d₀ ds₀ => exact ⟨d₀, ds₀, rfl⟩
    have hall : ∀ fs : List (Option Value), fs.map (·.isSome) = (d₀ :: ds₀).map (fun d => !d.isEmpty) → (fs.toArray.all fun x => x.isSome) = false := fun fs hf => by
      rw [List.all_toArray]
      obtain ⟨d, hd, hd0⟩ := hne
      have : false ∈ fs.map (·.isSome) := by
        rw [hf]
        exact List.mem_map.mpr ⟨d, hd, by rw [hd0]; rfl⟩
      obtain ⟨x, hx, hx2⟩ := List.mem_map.mp this
      rw [List.all_eq_false]
      exact ⟨x, hx, by simp [hx2]⟩
    refine ⟨if d₀.isEmpty then oneType' else general', ?_, fun h2 E Q hq => ?_⟩
    · intro E x y a b Q ha hb hq
      obtain ⟨d, as, hd, ra, rfl⟩ := dataKind_inv ha
      obtain ⟨d', as', hd', rb, rfl⟩ := dataKind_inv hb
      have hdd := hal d hd d' hd'
      obtain ⟨x1, _, rfl⟩ := List.mem_map.mp hd
      obtain ⟨x2, _, rfl⟩ := List.mem_map.mp hd'
      by_cases z : d₀.isEmpty = true
      · rw [if_pos z, keyLt'_oneType]
        exact oneLt_tup ra rb (by simpa [alike] using hdd) (room hd) hq
      · rw [if_neg z]
        show wpAny _ _ (oneLt' false x y) _ _ _
        exact oneLt_alike (fun z => by cases z) ra rb hdd (by simp) (room hd) hq
    · rw [kat_kind_eq, List.mapM_toArray, map_eq_pure_bind]
      refine wpAny_bind (wpAny_bind (firsts_tups vs _ e fun fs hf => wpAny_pure ?_))
      rw [if_neg (by rw [hall fs hf]; exact Bool.false_ne_true)]
      have h0 : (fs.toArray[0]?.bind id).isSome = !d₀.isEmpty := by
        cases fs with
        | nil => simp at hf
        | cons f fr =>
          simp only [List.map_cons, List.cons.injEq] at hf
          rw [← hf.1]
          simp
      by_cases z : d₀.isEmpty = true
      · rw [if_pos z] at hq
        rw [if_neg (by rw [h0, z]; simp)]
        obtain ⟨v₁, v₂, rest, rfl⟩ : ∃ v₁ v₂ rest, vs = v₁ :: v₂ :: rest := by
          match vs, h2 with
          | [], h2 => simp at h2
          | [_], h2 => simp at h2
          | v₁ :: v₂ :: rest, _ => exact ⟨v₁, v₂, rest, rfl⟩
        rw [oneTypeOnly'_eq, List.mapM_toArray, map_eq_pure_bind]
        have hT : ∀ v ∈ v₁ :: v₂ :: rest, Looks (model prog w) s.heap (typeOf v) (.type "tuple") := fun v hv => by
          obtain ⟨d, hd, as, r⟩ := e.left v hv
          exact looks_reads r
        refine wpAny_bind (wpAny_bind (wpAny_bind (kas_mapM (r := Value.type "tuple") _ (fun v hv Q' hq => (hT v hv).here hq) (wpAny_pure ?_))))
        have hall' : ((List.map (fun _ => Value.type "tuple") (v₁ :: v₂ :: rest)).toArray.all fun x => x == Value.type "tuple") = true := by
          simp only [List.all_toArray, List.all_map, List.all_eq_true]
          intro _ _
          exact beq_self_eq_true _
        have h0' : (List.map (fun _ => Value.type "tuple") (v₁ :: v₂ :: rest)).toArray[0]? = some (Value.type "tuple") := by simp
        rw [h0']
        simp only [hall', if_true]
        exact wpAny_pure (wpAny_pure hq)
      · rw [if_neg z] at hq
        have z' : d₀.isEmpty = false := by simpa using z
        rw [if_pos (by rw [h0, z']; rfl)]
        exact wpAny_pure hq
end
end PySem.W

/-! CL16: sorted of data. -/
namespace PySem.W
open PySem PySem.Calls PyProof.Rows SeqAt
section
variable {prog : Program} {w : World} {A : Around} {E : Value → Shared → Prop} {s : Shared} {β : Type} {vs : List Value} {bs : List β} {enc : β → PyData} {R : Value → β → Prop}
theorem sorted_dataG {l : Addr} {Q : Value → Shared → Prop} (hl : s.heap.IsList l vs.toArray) (e : EachIs R vs bs) (er : EachIs (fun v b => ∃ as, Reads s.heap v (enc b) as) vs bs) (hal : AllAlike (bs.map enc)) (hk : (∀ b ∈ bs, ∃ d, enc b = .tuple d) ∨ ∀ b ∈ bs, enc b ≠ .none ∧ ∀ xs, enc b ≠ .tuple xs) (hL : bs.length ≤ sizeLine)
    (hu : ∀ b, b ∈ bs → A.units + 2 + (enc b).depth < cLine) (h : ∀ out, out.length = bs.length → EachIs R out (bs.mergeSort (dataLe false enc)) → Q (.ref (s.heap.objs.size + 1)) { s with heap := sortedAll s.heap vs (List.toArray out) }) :
    wpAny (model prog w) A (call (.builtin "sorted") [.ref l]) Q E s := by
  by_cases hs : Sortable (bs.map enc)
  · exact sorted_data hl e er hal hs hL hu h
  · have er' : EachIs (fun v b => ∃ as, Reads (sortingHeap (copyHeap s.heap vs) (s.heap.objs.size + 1) vs) v (enc b) as) vs bs := er.mono fun _ _ ⟨as, r⟩ => ⟨as, PyProof.Rows.Reads.keeps (fun _ _ => sorting_copy_old) r⟩
    have ht : ∀ b ∈ bs, ∃ d, enc b = .tuple d := by
      rcases hk with hk | hk
      · exact hk
      · exact absurd (.inr fun d hd => by
          obtain ⟨b, hb, rfl⟩ := List.mem_map.mp hd
          exact hk b hb) hs
    obtain ⟨ds, hds⟩ : ∃ ds : List (List PyData), bs.map enc = ds.map .tuple := by
      clear hs er' er e hL hu h hal hk
      induction bs with
      | nil => exact ⟨[], rfl⟩
      | cons b bs ih =>
        obtain ⟨d, hd⟩ := ht b (List.mem_cons_self ..)
        obtain ⟨ds, h⟩ := ih fun b hb => ht b (List.mem_cons_of_mem _ hb)
        exact ⟨d :: ds, by simp [hd, h]⟩
    have hne : ∃ d ∈ ds, d = [] := by
      refine Classical.byContradiction fun hn => hs (.inl fun d hd => ?_)
      rw [hds] at hd
      obtain ⟨d', hd', rfl⟩ := List.mem_map.mp hd
      cases d' with
      | nil => exact absurd ⟨[], hd', rfl⟩ hn
      | cons x r => exact ⟨x, r, rfl⟩
    have er2 : EachIs (fun v d => ∃ as, Reads (sortingHeap (copyHeap s.heap vs) (s.heap.objs.size + 1) vs) v (.tuple d) as) vs ds := by
      have z := each_map (R := fun v d => ∃ as, Reads (sortingHeap (copyHeap s.heap vs) (s.heap.objs.size + 1) vs) v d as) enc er'
      rw [hds] at z
      exact each_of_map _ z
    have S := SortsAt.tuples0 (prog := prog) (w := w) (A := A.in1.in1) (s := { s with heap := sortingHeap (copyHeap s.heap vs) (s.heap.objs.size + 1) vs }) er2 (hds ▸ hal) hne (fun d hd => by
      have : PyData.tuple d ∈ bs.map enc := by rw [hds]; exact List.mem_map.mpr ⟨d, hd, rfl⟩
      obtain ⟨b, hb, e⟩ := List.mem_map.mp this
      rw [← e]
      exact hu b hb)
    rw [← hds] at S
    exact sorted_vals hl S (by rw [e.length]; exact hL) (h _ (by rw [sortVals_length false rfl]; exact e.length) (sortVals_data false e er' hal))
end
end PySem.W
namespace CL
open PySem L2 PyProof.Rows
variable {g : G} {W : WX} {M : Addr → Prop} {μ μ' μ1 μ2 : List Addr} {H H' H0 H1 H2 : Hp} {σ σ1 σ2 : L2.St} {cs cs' cs1 cs2 : CSt} {X : Cx}
def dOf (p : PV) : PyData := (toD p).getD .none
def isTupP : PV → Bool
  | .tup _ => true
  | _ => false
def sortOk (ps : List PV) : Bool := (ps.all fun p => (toD p).isSome && decide ((dOf p).depth ≤ 50)) && (ps.all fun p => ps.all fun q => PySem.W.alike (dOf p) (dOf q)) && (ps.all isTupP || ps.all fun p => !isTupP p && decide (p ≠ .non))
def sortPV (ps : List PV) : List PV := ps.mergeSort (PySem.W.dataLe false dOf)
def rSorted (g : G) : List V → Hp → VK → Prop := fun vs H Q => ∃ μ a ys ps, vs = [.ref a] ∧ SqL g.K H a ys ∧ PVsRel g μ H ps ys ∧ sortOk ps = true ∧ ∀ zs p, PVsRel g μ H (sortPV ps) zs → H p = none → Q (.ref p) (upd H p (.lst zs))
abbrev EachVR (g : G) (μ : List Addr) (H : Hp) : Value → PV → Prop := fun u p => ∃ v, RelV v u ∧ PVRel g μ H p v
theorem each_rel : ∀ {ps : List PV} {ys : List V} {us : List Value}, PVsRel g μ H ps ys → Vals ys us → PySem.W.EachIs (EachVR g μ H) us ps
  | _, _, _, .nil, .nil => .nil
  | _, _, _, .cons a b, .cons c d => .cons ⟨_, c, a⟩ (each_rel b d)
theorem rel_each : ∀ {ps : List PV} {us : List Value}, PySem.W.EachIs (EachVR g μ H) us ps → ∃ zs, PVsRel g μ H ps zs ∧ Vals zs us
  | _, _, .nil => ⟨[], .nil, .nil⟩
  | _, _, .cons ⟨v, a, b⟩ t => by
    obtain ⟨zs, c, d⟩ := rel_each t
    exact ⟨v :: zs, .cons b c, .cons a d⟩
theorem toD_depth0 {p : PV} {d : PyData} (h : toD p = some d) : dOf p = d := by unfold dOf; rw [h]; rfl
theorem cr_sorted (hK : g.K = X.K) (hu : X.A.units + 64 < cLine) : CallR X (.builtin "sorted") (rSorted g) := by
  intro pins s σ H vs us Q I r h
  obtain ⟨μ, a, ys, ps, rfl, hs, rp, ok, q⟩ := h
  obtain ⟨its, rv, hl, hz⟩ := I.list (hK ▸ hs)
  obtain ⟨u, rfl, ru⟩ := vals1 r
  obtain rfl : u = Value.ref a := ru
  unfold sortOk at ok
  simp only [Bool.and_eq_true, List.all_eq_true, decide_eq_true_eq, Bool.or_eq_true] at ok
  obtain ⟨⟨h1, h2⟩, h3⟩ := ok
  have rd : PySem.W.EachIs (EachVR g μ H) its ps := each_rel rp rv
  have e1 := (PySem.W.each_mem rd).mono fun u p ⟨⟨v, rv, rp⟩, hm⟩ => (show ∃ as, Reads s.heap u (dOf p) as from by
    obtain ⟨d, hd⟩ := Option.isSome_iff_exists.mp (h1 p hm).1
    rw [toD_depth0 hd]
    exact Dp.reads I d v u (toD_rel hK p v d rp hd) rv)
  refine PySem.W.sorted_dataG (enc := dOf) hl.isList rd e1 ?_ ?_ (by rw [rp.length]; exact hz) ?_ fun out ho hr => ?_
  · intro d hd d' hd'
    obtain ⟨p, hp, rfl⟩ := List.mem_map.mp hd
    obtain ⟨p', hp', rfl⟩ := List.mem_map.mp hd'
    exact h2 p hp p' hp'
  · rcases h3 with h3 | h3
    · refine .inl fun p hp => ?_
      have z := h3 p hp
      obtain ⟨d, hd⟩ := Option.isSome_iff_exists.mp (h1 p hp).1
      rw [toD_depth0 hd]
      cases p <;> simp [isTupP] at z
      simp only [toD, Option.map_eq_some_iff] at hd
      obtain ⟨ds, _, rfl⟩ := hd
      exact ⟨ds, rfl⟩
    · refine .inr fun p hp => ?_
      have z := h3 p hp
      obtain ⟨d, hd⟩ := Option.isSome_iff_exists.mp (h1 p hp).1
      rw [toD_depth0 hd]
      cases p <;> simp [isTupP] at z <;> simp [toD] at hd
      · subst hd; simp
      · subst hd; simp
      · subst hd; simp
      · obtain ⟨ds, _, rfl⟩ := hd; simp
  · intro p hp
    have := (h1 p hp).2
    omega
  · obtain ⟨zs, c, d⟩ := rel_each hr
    obtain ⟨n, hn⟩ := sortedAll_at s.heap its out.toArray
    refine ⟨.ref (s.heap.objs.size + 1), upd H (s.heap.objs.size + 1) (.lst zs), I.laid (t' := s.toks) (fun b o e => sortedAll_old e) (Nat.le_succ _) ⟨?_, out, n, d, hn⟩, rfl, q _ _ c (I.hok.fresh (Nat.le_succ _))⟩
    have := d.length
    rw [this, ho, rp.length]
    exact hz
def opSorted (x : RV) : CM RV := fun cs => match listC cs x with
  | some xs => if sortOk xs then .ok (.own (.list (sortPV xs))) cs else .stuck
  | none => match valC cs x with
    | some (.tup _) => .stuck
    | _ => .stuck
theorem pr_sorted {K : PySem.W.Frag} (hK : g.K = K) : Pr1 g (fun v H Q => rSorted g [v] H Q) opSorted := fun W M μ H σ cs2 μ2 H2 x v Q k hx o => by
  unfold opSorted at o
  split at o
  · rename_i xs e
    split at o
    · rename_i z
      obtain ⟨a, vs, rfl, h1, h2⟩ := listC_rel k.rel hx e
      exact ⟨μ2, a, vs, xs, rfl, .inl h1, h2, z, fun zs p hz hp => o μ2 _ (k.fresh hp) _ (RVRel.new k hp ⟨zs, upd_same, hz.stays (stays_fresh hp)⟩)⟩
    · exact o.elim
  · split at o <;> exact o.elim
section
variable {e : Expr} {m : CM RV} {p pos : Pos}
theorem se_sorted (hK : g.K = X.K) (hu : X.A.units + 64 < cLine) (hm : X.mg "sorted" = none) (ha : SE X g W e m) (hg : Gl X "sorted" := by rfl) (he : starEach [e] X.env = (false, eval e X.env) :: starEach [] X.env := by rfl) : SE X g W (.Call (.Name "sorted" p) [e] [] pos) (e1 opSorted m) := se_cb1 (cr_sorted hK hu) (pr_sorted hK) hm ha hg (by decide +kernel) (by decide) (by decide) he rfl
end
end CL

/-! CL17: dict(pairs); sorted(d.items()). -/
namespace CL
open PySem L2 PyProof.Rows
variable {g : G} {W : WX} {M : Addr → Prop} {μ μ' μ1 μ2 : List Addr} {H H' H0 H1 H2 : Hp} {σ σ1 σ2 : L2.St} {cs cs' cs1 cs2 : CSt} {X : Cx}
/-- all pairs -/
def pairOf : PV → Option (PV × PV)
  | .tup [k, v] => some (k, v)
  | _ => none
def pairsOf : List PV → Option (List (PV × PV))
  | [] => some []
  | p :: ps => match pairOf p, pairsOf ps with
    | some q, some qs => some (q :: qs)
    | _, _ => none
theorem pairOf_some {p : PV} {q : PV × PV} (h : pairOf p = some q) : p = .tup [q.1, q.2] := by
  unfold pairOf at h
  split at h
  · cases h; rfl
  · cases h
structure QP where
  T : Addr
  kv : V
  ku : Value
  vv : V
  vu : Value
structure QOk (g : G) (μ : List Addr) (H : Hp) (h : Heap) (p : PV × PV) (q : QP) : Prop where
  at_ : PairAt h q.T q.ku q.vu
  k1 : PVRel g μ H p.1 q.kv
  k2 : RelV q.kv q.ku
  v1 : PVRel g μ H p.2 q.vv
  v2 : RelV q.vv q.vu
section
variable {pins : List (Addr × Obj)} {s : Shared}
theorem qok (I : L2.Inv X pins σ H s) (hK : g.K = X.K) : ∀ {ps : List PV} {ys : List V} {us : List Value} {kvs : List (PV × PV)}, PVsRel g μ H ps ys → Vals ys us → pairsOf ps = some kvs → ∃ qs : List QP, Paired (QOk g μ H s.heap) kvs qs ∧ us = qs.map fun q => .ref q.T
  | _, _, _, _, .nil, .nil, h => by cases h; exact ⟨[], .nil, rfl⟩
  | _, _, _, _, .cons a b, .cons c d, h => by
    unfold pairsOf at h
    split at h
    · rename_i q qs e1 e2
      cases h
      obtain ⟨rs, h1, h2⟩ := qok I hK b d e2
      have e3 := pairOf_some e1
      subst e3
      obtain ⟨A, ws, rfl, h3, h4⟩ := tup_inv a
      cases c
      obtain ⟨its, r1, p, _⟩ := I.tuple (hK ▸ h3)
      cases h4 with
      | cons k1 h4 =>
        cases h4 with
        | cons v1 h4 =>
          cases h4
          obtain ⟨u, w', rfl, r3, r4⟩ := vals2 r1
          obtain ⟨o, ho, hc, n, hd⟩ := p
          exact ⟨⟨A, _, u, _, w'⟩ :: rs, .cons ⟨.inl ⟨o, ho, hc, n, hd⟩, k1, r3, v1, r4⟩ h1, by rw [h2]; rfl⟩
    · cases h
theorem q_items {h : Heap} {kvs : List (PV × PV)} {qs : List QP} (r : Paired (QOk g μ H h) kvs qs) : PairItems h (qs.map fun q => Value.ref q.T).toArray (fun j => (qs[j]?.map (·.T)).getD 0) (qs.map fun q => (q.ku, q.vu)) := by
  refine ⟨by simp, fun j k v hj => ?_⟩
  rw [List.getElem?_map, Option.map_eq_some_iff] at hj
  obtain ⟨q, hq, e⟩ := hj
  cases e
  refine ⟨by simp [hq], ?_⟩
  simp only [hq, Option.map_some, Option.getD_some]
  obtain ⟨p, _, ok⟩ := (show ∃ p, kvs[j]? = some p ∧ QOk g μ H h p q from by
    induction r generalizing j with
    | nil => simp at hq
    | @cons a b as bs x t ih =>
      cases j with
      | zero => simp at hq; subst hq; exact ⟨a, rfl, x⟩
      | succ j => exact ih j (by simpa using hq))
  exact ok.at_
end
/-- put all -/
def dputs (acc kvs : List (PV × PV)) : List (PV × PV) := kvs.foldl (fun a p => dput a p.1 p.2) acc
theorem dputs_length (kvs : List (PV × PV)) : ∀ acc, (dputs acc kvs).length ≤ acc.length + kvs.length := by
  induction kvs with
  | nil => intro acc; simp [dputs]
  | cons a as ih =>
    intro acc
    have h1 := ih (dput acc a.1 a.2)
    have h2 := dput_length acc a.1 a.2
    show (dputs (dput acc a.1 a.2) as).length ≤ _
    simp only [List.length_cons]
    omega
theorem leaf_fold {h : Heap} {kvs : List (PV × PV)} {qs : List QP} (r : Paired (QOk g μ H h) kvs qs) (hl : ∀ p ∈ kvs, (leafK p.1).isSome = true) : ∃ ns : List Key, ns.length = qs.length ∧ (∀ (i : Nat) (q : QP), qs[i]? = some q → ∃ n, ns[i]? = some n ∧ ∀ (P : Program) (w : World), (mixKind P w).is n q.ku = true) ∧
    ∀ (acc : List (PV × PV)) (kv : List (Key × V)) (vs : List (Key × Value)), Paired (LP g μ H) acc kv → KV kv vs → ∃ kv', Paired (LP g μ H) (dputs acc kvs) kv' ∧ KV kv' (merged vs ((ns.zip qs).map fun z => (z.1, z.2.vu))) := by
  induction r with
  | nil => exact ⟨[], rfl, fun i q h => by simp at h, fun acc kv vs h1 h2 => ⟨kv, h1, h2⟩⟩
  | @cons a b as bs x t ih =>
    obtain ⟨ns, e, h1, h2⟩ := ih fun p hp => hl p (List.mem_cons_of_mem _ hp)
    obtain ⟨n, hn⟩ := Option.isSome_iff_exists.mp (hl a (List.mem_cons_self ..))
    refine ⟨n :: ns, by simp [e], fun i q hi => ?_, fun acc kv vs r1 r2 => ?_⟩
    · cases i with
      | zero =>
        simp at hi
        subst hi
        refine ⟨n, rfl, ?_⟩
        have z := x.k2
        rw [leafK_V x.k1 hn] at z
        exact fun P w => kV_is z
      | succ i => simpa using h1 i q (by simpa using hi)
    · exact h2 _ _ _ (lp_put r1 hn x.v1) (KV.put r2 n x.v2)
theorem tup_fold {h : Heap} {kvs : List (PV × PV)} {qs : List QP} (r : Paired (QOk g μ H h) kvs qs) (hl : ∀ p ∈ kvs, (tupK p.1).isSome = true) : ∃ xs : List (NestedKey × Addr × Value), xs.length = qs.length ∧ (∀ (i : Nat) (q : QP), qs[i]? = some q → ∃ n b, xs[i]? = some (n, b, q.vu) ∧ q.ku = .ref b) ∧
    (∀ x ∈ xs, ∃ p, tupK p = some x.1 ∧ PVRel g μ H p (.ref x.2.1)) ∧
    ∀ (acc : List (PV × PV)) (ys : List (NestedKey × Addr × Value)), Paired (TP g μ H) acc ys → Paired (TP g μ H) (dputs acc kvs) (storedAllH ys xs) := by
  induction r with
  | nil => exact ⟨[], rfl, fun i q h => by simp at h, (fun _ h => nomatch h), fun acc kv h1 => h1⟩
  | @cons a b as bs x t ih =>
    obtain ⟨ns, e, h1, h3, h2⟩ := ih fun p hp => hl p (List.mem_cons_of_mem _ hp)
    obtain ⟨n, hn⟩ := Option.isSome_iff_exists.mp (hl a (List.mem_cons_self ..))
    obtain ⟨A, eA⟩ := tup_ref x.k1 hn
    have k1 := x.k1
    have k2 := x.k2
    rw [eA] at k1 k2
    cases b with
    | mk T kv ku vv vu =>
      simp only at eA k1 k2
      subst eA
      cases k2
      refine ⟨(n, A, vu) :: ns, by simp [e], fun i q hi => ?_, fun y hy => ?_, fun acc ys r1 => ?_⟩
      · cases i with
        | zero => simp at hi; subst hi; exact ⟨n, A, rfl, rfl⟩
        | succ i => simpa using h1 i q (by simpa using hi)
      · rcases List.mem_cons.mp hy with rfl | hy
        · exact ⟨a.1, hn, k1⟩
        · exact h3 y hy
      · exact h2 _ _ (tp_put r1 hn k1 x.v2 x.v1)
def pairsOk (kvs : List (PV × PV)) : Bool := (kvs.all fun p => (leafK p.1).isSome) || kvs.all fun p => (tupK p.1).isSome
def rDictP (g : G) : List V → Hp → VK → Prop := fun vs H Q => ∃ μ a ys ps kvs, vs = [.ref a] ∧ SqL g.K H a ys ∧ PVsRel g μ H ps ys ∧ pairsOf ps = some kvs ∧ pairsOk kvs = true ∧ ∀ p o, H p = none → ContRel g μ (upd H p o) (.dict (dputs [] kvs)) p → Q (.ref p) (upd H p o)
theorem pairsOf_length : ∀ {ps : List PV} {kvs : List (PV × PV)}, pairsOf ps = some kvs → kvs.length = ps.length
  | [], _, h => by cases h; rfl
  | p :: ps, _, h => by
    unfold pairsOf at h
    split at h
    · rename_i q qs e1 e2
      cases h
      simp [pairsOf_length e2]
    · cases h
theorem cr_dictP (hP : g.P = X.prog) (hw : g.w = X.w) (hK : g.K = X.K) (hc : X.calm = true) (hu : X.A.units + 64 < cLine) : CallR X (.type "dict") (rDictP g) := by
  intro pins s σ H vs us Q I r h
  obtain ⟨μ, a, ys, ps, kvs, rfl, hs, rp, ep, ok, q⟩ := h
  obtain ⟨its, rv, ⟨o, n, ho, hcl, hd, hdat⟩, hz⟩ := I.list (hK ▸ hs)
  obtain ⟨u, rfl, ru⟩ := vals1 r
  obtain rfl : u = Value.ref a := ru
  obtain ⟨qs, rq, rfl⟩ := qok I hK rp rv ep
  have hh : X.A.handled = none := I.ok.hd hc
  have len1 : kvs.length = qs.length := Paired.len rq
  have len2 : kvs.length ≤ sizeLine := by rw [pairsOf_length ep, rp.length]; exact hz
  have hsys : (s.heap.objs.size == sysModules) = false := beq_eq_false_iff_ne.mpr (Nat.ne_of_gt I.big)
  have fr : H s.heap.objs.size = none := I.hok.fresh (Nat.le_refl _)
  have pi := q_items rq
  have hps : PlainSeq "list" s.heap a (qs.map fun q => Value.ref q.T).toArray := ⟨o, n, ho, hcl, hd, hdat⟩
  have hlen : (dputs [] kvs).length ≤ sizeLine := by have := dputs_length kvs []; simp at this; omega
  unfold pairsOk at ok
  simp only [Bool.or_eq_true, List.all_eq_true] at ok
  rcases ok with ok | ok
  · obtain ⟨ns, e1, e2, e3⟩ := leaf_fold rq ok
    obtain ⟨kv', f1, f2⟩ := e3 [] [] [] .nil .nil
    refine call_dict_pairs (knd := mixKind X.prog X.w) (kvs := (ns.zip qs).map fun z => (z.1, z.2.vu)) (PairArg.list a (qs.map fun q => Value.ref q.T).toArray (fun j => (qs[j]?.map (·.T)).getD 0) (qs.map fun q => (q.ku, q.vu))) hh ⟨hps, pi⟩ ⟨by simp [e1], fun i key v hr => ?_⟩ (by simp; omega) fun h' tk dd hk => ?_
    · unfold PairRel at hr
      rw [List.getElem?_map, Option.map_eq_some_iff] at hr
      obtain ⟨z, hz', e⟩ := hr
      cases e
      obtain ⟨n', hn', hk'⟩ := e2 i z hz'
      exact ⟨n', by rw [List.getElem?_map, (List.getElem?_zip_eq_some (z := (n', z))).mpr ⟨hn', hz'⟩]; rfl, hk' _ _⟩
    · have st : ∀ b u, H b = some u → upd H s.heap.objs.size (.dK kv') b = some u := fun b u e => by rw [upd_ne (ne_of_none e fr)]; exact e
      have l3 : kv'.length ≤ sizeLine := by rw [← Paired.len f1]; exact hlen
      exact ⟨.ref _, _, I.laid (t' := tk) (fun b o e => hk b o (by simp) e) (Nat.le_refl _) (dk_new l3 hsys f2 dd), rfl, q _ _ fr (.inl ⟨kv', upd_same, Paired.imp f1 fun _ _ z => ⟨z.1, z.2.stays (stays_fresh fr)⟩⟩)⟩
  · obtain ⟨xs, e1, e2, e4, e3⟩ := tup_fold rq ok
    have f1 := e3 [] [] .nil
    refine call_dict_pairsH (knd := nestedKind X.prog X.w) (ps := xs) (PairArg.list a (qs.map fun q => Value.ref q.T).toArray (fun j => (qs[j]?.map (·.T)).getD 0) (qs.map fun q => (q.ku, q.vu))) hh (by show X.A.units + 1 + 1 + 8 < cLine; omega) ⟨hps, pi⟩ ⟨by simp [e1], fun i key v hr => ?_⟩ (fun h' hk x hx => ?_) (by simp; omega) fun h' tk dd hk => ?_
    · unfold PairRel at hr
      rw [List.getElem?_map, Option.map_eq_some_iff] at hr
      obtain ⟨z, hz', e⟩ := hr
      cases e
      exact e2 i z hz'
    · obtain ⟨p, hp1, hp2⟩ := e4 x hx
      have z := key_is I hK hp2 hp1
      exact ⟨NestedIs.at (fun b ob vs n hb hc => hk b ob (Nat.ne_of_lt (Heap.lt_size hb)) (by simp) hb) _ _ z.1, z.2⟩
    · obtain ⟨o', es, ep', q1, q2, q3, q4, q5, q6⟩ := dd
      refine ⟨.ref _, _, I.laid (o := rawO s.heap.objs.size o') (t' := tk) (fun b o e => hk b o (by simp) e) (Nat.le_refl _) (raw_ok q1), rfl, q _ _ fr (.inr ⟨o', upd_same, hsys, hlen, _, q2, ⟨es, ep', q3, by rw [q4, hP, hw]⟩, q6, ?_⟩)⟩
      exact Paired.imp f1 fun _ _ z => ⟨z.1, z.2.1.stays (stays_fresh fr), let ⟨v, y1, y2⟩ := z.2.2; ⟨v, y1, y2.stays (stays_fresh fr)⟩⟩
/-- dict(pairs) -/
def opDictP (x : RV) : CM RV := fun cs => match listC cs x with
  | some xs => match pairsOf xs with
    | some kvs => if pairsOk kvs then .ok (.own (.dict (dputs [] kvs))) cs else .stuck
    | none => .stuck
  | none => .stuck
theorem pr_dictP {K : PySem.W.Frag} (hK : g.K = K) : Pr1 g (fun v H Q => rDictP g [v] H Q) opDictP := fun W M μ H σ cs2 μ2 H2 x v Q k hx o => by
  unfold opDictP at o
  split at o
  · rename_i xs e
    split at o
    · rename_i kvs ek
      split at o
      · rename_i z
        obtain ⟨a, vs, rfl, h1, h2⟩ := listC_rel k.rel hx e
        exact ⟨μ2, a, vs, xs, kvs, rfl, .inl h1, h2, ek, z, fun p ob hp hc => o μ2 _ (k.fresh hp) _ (RVRel.new k hp hc)⟩
      · exact o.elim
    · exact o.elim
  · exact o.elim
section
variable {e : Expr} {m : CM RV} {p pos : Pos}
theorem se_dictP (hP : g.P = X.prog) (hw : g.w = X.w) (hK : g.K = X.K) (hc : X.calm = true) (hu : X.A.units + 64 < cLine) (hm : X.mg "dict" = none) (ha : SE X g W e m) (hg : Gl X "dict" := by rfl) (he : starEach [e] X.env = (false, eval e X.env) :: starEach [] X.env := by rfl) : SE X g W (.Call (.Name "dict" p) [e] [] pos) (e1 opDictP m) := se_ct1 (cr_dictP hP hw hK hc hu) (pr_dictP hK) hm ha hg (by decide +kernel) (by decide) (by decide) he rfl
end
end CL

/-! CL18: dicts told whole; sorted(d.items()). -/
namespace L2
open PySem PyProof.Rows
theorem Inv.grow {X : Cx} {pins : List (Addr × Obj)} {σ : St} {H H' : Hp} {s : Shared} {h' : Heap} {tk : Nat} (I : Inv X pins σ H s) (hk : ∀ b o, s.heap.get? b = some o → h'.get? b = some o) (kp : ∀ b u, H b = some u → H' b = some u)
    (fr : ∀ b u, s.heap.get? b = some u → H b = none → H' b = none) (new : ∀ b u, H b = none → H' b = some u → ObjOk X.prog X.w H' h' b u) : Inv X pins σ H' { s with heap := h', toks := tk } := by
  refine I.call' (ch := []) rfl ⟨fun b o q _ _ _ => hk b o q, fun b o q _ _ _ => ⟨o.slots, hk b o q⟩, fun b o q n _ => fr b o q n, fun b o q _ => ⟨o, hk b o q⟩, fun b xs q => kp b _ q, fun b o u q => kp b _ q, fun b ps q => ⟨#[], by rw [kp b _ q]; simp⟩⟩ (fun b u q => ?_) I.bare fun b z => by simp at z
  cases e : H b with
  | none => exact new b u e q
  | some u' =>
    have z := kp b u' e
    rw [q] at z
    cases z
    exact (I.hok b u e).stay (fun d v _ y => hk d v y) (fun d y => kp d _ y) fun d xs y => kp d _ y
end L2
namespace CL
open PySem L2 PyProof.Rows
variable {g : G} {W : WX} {M : Addr → Prop} {μ μ' μ1 μ2 : List Addr} {H H' H0 H1 H2 : Hp} {σ σ1 σ2 : L2.St} {cs cs' cs1 cs2 : CSt} {X : Cx}
/-! ### more heap -/
theorem stays_grow (e : ∀ b o, H b = some o → H' b = some o) : Stays μ H μ H' := ⟨fun b xs h => e b _ h, fun b o u h => e b _ h, fun b o h => e b _ h, fun _ _ h => h⟩
theorem Rel.grow (r : Rel g μ cs σ H) (e : ∀ b o, H b = some o → H' b = some o) : Rel g μ cs σ H' := by
  have st : Stays μ H μ H' := stays_grow e
  refine ⟨⟨r.hp.len, r.hp.nd, fun l o a h1 h2 => (r.hp.obj l o a h1 h2).stays st fun u h => e a u h⟩, r.len, fun i s v h1 h2 => ?_, r.ap⟩
  have q := r.sl i s v h1 h2
  cases s with
  | emp => trivial
  | exn x => obtain ⟨a, cl, d, z1, z2, z3⟩ := q; exact ⟨a, cl, d, z1, z2, z3.stays st⟩
  | pv p => obtain ⟨x, e, q⟩ := q; exact ⟨x, e, q.stays st⟩
  | own d =>
    obtain ⟨b, e2, q3, nb⟩ := q
    exact ⟨b, e2, q3.stays st fun o h => e b o h, nb⟩
theorem Fct.grow (k : Fct g M μ H μ2 cs2 σ H2) (e : ∀ b o, H2 b = some o → H' b = some o) : Fct g M μ H μ2 cs2 σ H' :=
  ⟨k.rel.grow e, ⟨fun a u h n => e a u (k.keep.k1 a u h n), k.keep.k2⟩, k.ext⟩
theorem RVRel.newG (k : Fct g M μ H μ2 cs2 σ H2) (e : ∀ b o, H2 b = some o → H' b = some o) {p : Addr} {c : Cont} (hp : H2 p = none) (q : ContRel g μ2 H' c p) : RVRel g M H μ2 cs2 σ H' (.own c) (.ref p) :=
  ⟨p, rfl, q, fun hm => md_some k.rel hm hp, avail k.keep hp⟩
/-! ### the entries -/
abbrev EntOk (g : G) (μ : List Addr) (H : Hp) : PV × PV → DictEntry → Prop := fun p e => ∃ k v, PVRel g μ H p.1 k ∧ RelV k e.key ∧ PVRel g μ H p.2 v ∧ RelV v e.val
theorem leafK_rel {p : PV} {n : Key} (e : leafK p = some n) : PVRel g μ H p (kV n) := by
  cases p <;> simp only [leafK, Option.some.injEq, reduceCtorEq] at e <;> subst e
  · exact .int _
  · exact .str _
section
variable {pins : List (Addr × Obj)} {s : Shared}
theorem ent_leaf {P : Program} {w : World} : ∀ {kvs : List (PV × PV)} {kv : List (Key × V)} {vs : List (Key × Value)} {es : List DictEntry}, Paired (LP g μ H) kvs kv → KV kv vs → Pairs (mixKind P w) es vs → Paired (EntOk g μ H) kvs es
  | _, _, _, _, .nil, .nil, .nil => .nil
  | _, _, _, _, .cons a b, .cons c d, .cons e f t => by
    refine .cons ⟨_, _, leafK_rel a.1, ?_, a.2, ?_⟩ (ent_leaf b d t)
    · rw [c.1]; exact relV_key e
    · rw [f]; exact c.2
theorem ent_tup {P : Program} {w : World} : ∀ {kvs : List (PV × PV)} {xs : List (NestedKey × Addr × Value)}, Paired (TP g μ H) kvs xs → Paired (EntOk g μ H) kvs (xs.map (entryOfKey (nestedKind P w)))
  | _, _, .nil => .nil
  | _, _, .cons a b => .cons ⟨_, a.2.2.choose, a.2.1, rfl, a.2.2.choose_spec.2, a.2.2.choose_spec.1⟩ (ent_tup b)
theorem dict_raw (I : L2.Inv X pins σ H s) {kvs : List (PV × PV)} {a : Addr} (c : ContRel g μ H (.dict kvs) a) : kvs.length ≤ sizeLine ∧ (a == sysModules) = false ∧ ∃ es ep, DT.Raw s.heap a es ep ∧ Paired (EntOk g μ H) kvs es.toList := by
  rcases c with ⟨kv, e, q⟩ | ⟨o, e, hs, z, xs, h1, ⟨es, ep, h2, h3⟩, h4, q⟩
  · obtain ⟨z, hd, vs, rel, o, es, ep, q1, q2, q3, q4, q5, _⟩ := dk_of I.hok e
    exact ⟨by rw [Paired.len q]; exact z, hd, es, ep, ⟨o, q1, q2, q3⟩, ent_leaf q rel q5⟩
  · exact ⟨z, hs, es, ep, ⟨o, raw_get I e, h1, h2⟩, by rw [h3]; exact ent_tup q⟩
end
def mkP (p : PV × PV) : PV := .tup [p.1, p.2]
/-! ### d.items() -/
def rItemsC (g : G) : V → List V → Hp → VK → Prop := fun x xs H Q => ∃ μ kvs a, x = .ref a ∧ xs = [] ∧ ContRel g μ H (.dict kvs) a ∧ ∀ p, H p = none → Q (.ref p) (upd H p (L2.DX.itemsO p a))
theorem mt_itemsC : MtR X "dict.items" (rItemsC g) := by
  intro pins s σ H x xs v us Q I rx rxs h
  obtain ⟨μ, kvs, a, rfl, rfl, c, q⟩ := h
  cases rx
  cases rxs
  obtain ⟨z, hd, es, ep, raw, _⟩ := dict_raw I c
  refine DT.callItems (es := es) (ep := ep) hd raw ?_
  have hf : H s.heap.objs.size = none := I.hok.fresh (Nat.le_refl _)
  exact ⟨.ref s.heap.objs.size, upd H s.heap.objs.size (L2.DX.itemsO s.heap.objs.size a), I.laid (t' := s.toks) (fun b u e => Heap.get?_push_of_some _ e) (Nat.le_refl _) (L2.DX.itemsO_ok (Heap.get?_push_size _ rfl)), rfl, q _ hf⟩
/-- the tuples tracked at their addresses -/
def putW : Hp → List Addr → List (V × V) → Hp
  | H, a :: as, p :: kvs => putW (upd H a (.tup [p.1, p.2])) as kvs
  | H, _, _ => H
theorem putW_off {b : Addr} : ∀ (as : List Addr) (kvs : List (V × V)) (H : Hp), b ∉ as → putW H as kvs b = H b
  | [], _, _, _ => rfl
  | _ :: _, [], _, _ => rfl
  | a :: as, p :: kvs, H, h => by
    show putW (upd H a (.tup [p.1, p.2])) as kvs b = H b
    rw [putW_off as kvs _ (fun z => h (List.mem_cons_of_mem _ z)), upd_ne (fun z => h (by rw [z]; exact List.mem_cons_self))]
theorem putW_at : ∀ (as : List Addr) (kvs : List (V × V)) (H : Hp), as.length = kvs.length → as.Nodup → ∀ (j : Nat) (a : Addr), as[j]? = some a → ∃ p, kvs[j]? = some p ∧ putW H as kvs a = some (.tup [p.1, p.2])
  | [], _, _, _, _, _, _, h => by simp at h
  | _ :: _, [], _, h, _, _, _, _ => by cases h
  | a :: as, p :: kvs, H, h, hn, j, b, hj => by
    have hn' := List.nodup_cons.mp hn
    cases j with
    | zero =>
      simp at hj
      subst hj
      refine ⟨p, rfl, ?_⟩
      show putW (upd H a (.tup [p.1, p.2])) as kvs a = _
      rw [putW_off as kvs _ hn'.1, upd_same]
    | succ j => exact putW_at as kvs _ (Nat.succ.inj h) hn'.2 j b (by simpa using hj)
theorem paired_at {α β : Type} {F : α → β → Prop} : ∀ {xs : List α} {ys : List β}, Paired F xs ys → ∀ {j : Nat} {y : β}, ys[j]? = some y → ∃ x, xs[j]? = some x ∧ F x y
  | _, _, .nil, j, y, h => by simp at h
  | _, _, .cons r t, 0, y, h => by simp at h; subst h; exact ⟨_, rfl, r⟩
  | _, _, .cons r t, j + 1, y, h => paired_at t (by simpa using h)
/-- V's of the entries -/
theorem ent_vs : ∀ {kvs : List (PV × PV)} {es : List DictEntry}, Paired (EntOk g μ H) kvs es → ∃ ws : List (V × V), Paired (fun (p : PV × PV) (w : V × V) => PVRel g μ H p.1 w.1 ∧ PVRel g μ H p.2 w.2) kvs ws ∧ Paired (fun (w : V × V) (e : DictEntry) => RelV w.1 e.key ∧ RelV w.2 e.val) ws es
  | _, _, .nil => ⟨[], .nil, .nil⟩
  | _, _, .cons ⟨k, v, a, b, c, d⟩ t => by
    obtain ⟨ws, h1, h2⟩ := ent_vs t
    exact ⟨(k, v) :: ws, .cons ⟨a, c⟩ h1, .cons ⟨b, d⟩ h2⟩
theorem refs_rel {H' : Hp} (e : ∀ b o, H b = some o → H' b = some o) : ∀ {kvs : List (PV × PV)} {ws : List (V × V)} {as : List Addr}, Paired (fun (p : PV × PV) (w : V × V) => PVRel g μ H p.1 w.1 ∧ PVRel g μ H p.2 w.2) kvs ws → as.length = ws.length → (∀ (j : Nat) (a : Addr), as[j]? = some a → ∃ p, ws[j]? = some p ∧ H' a = some (.tup [p.1, p.2])) → PVsRel g μ H' (kvs.map mkP) (as.map V.ref)
  | _, _, as, .nil, h, _ => by
    have : as = [] := by simpa using h
    subst this
    exact .nil
  | _, _, [], .cons _ _, h, _ => by cases h
  | _, _, a :: as, .cons r t, h, q => by
    obtain ⟨p, e1, e2⟩ := q 0 a rfl
    simp at e1
    subst e1
    exact .cons (.tup (.of e2) (.cons (r.1.stays (stays_grow e)) (.cons (r.2.stays (stays_grow e)) .nil))) (refs_rel e t (Nat.succ.inj h) fun j b hb => by simpa using q (j + 1) b (by simpa using hb))
/-! ### sorted(d.items()) -/
def rSortI (g : G) : List V → Hp → VK → Prop := fun vs H Q => ∃ μ p a kvs, vs = [.ref p] ∧ H p = some (L2.DX.itemsO p a) ∧ ContRel g μ H (.dict kvs) a ∧ sortOk (kvs.map mkP) = true ∧
  ∀ H' l zs, (∀ b o, H b = some o → H' b = some o) → H l = none → PVsRel g μ H' (sortPV (kvs.map mkP)) zs → H' l = some (.lst zs) → Q (.ref l) H'
theorem vals_refs : ∀ as : List Addr, Vals (as.map V.ref) (as.map Value.ref)
  | [] => .nil
  | _ :: as => .cons rfl (vals_refs as)
theorem cr_sortedI (hK : g.K = X.K) (hc : X.calm = true) (hu : X.A.units + 64 < cLine) : CallR X (.builtin "sorted") (rSortI g) := by
  intro pins s σ H vs us Q I r h
  obtain ⟨μ, p, a, kvs, rfl, hp, c, ok, q⟩ := h
  obtain ⟨u, rfl, ru⟩ := vals1 r
  obtain rfl : u = Value.ref p := ru
  have view : s.heap.IsItemsView p a := (show ObjOk X.prog X.w H s.heap p (L2.DX.itemsO p a) from I.hok p _ hp).1
  obtain ⟨z, hs, es, ep, raw, ent⟩ := dict_raw I c
  have l1 : kvs.length = es.size := by rw [Paired.len ent, Array.length_toList]
  have hh : X.A.handled = none := I.ok.hd hc
  obtain ⟨ws, w1, w2⟩ := ent_vs ent
  have l2 : kvs.length = ws.length := Paired.len w1
  refine DT.sortedI (es := es) (ep := ep) hh view raw (by rw [← l1]; exact z) fun h' tk as hk hlt hl hG => ?_
  have nd : as.Nodup := List.Pairwise.imp (fun h => Nat.ne_of_lt h) hG.rise
  have new : ∀ t ∈ as, H t = none := fun t ht => I.hok.fresh (Nat.le_of_lt (hG.above t ht))
  have lw : as.length = ws.length := by omega
  have at_ := putW_at as ws H lw nd
  have off : ∀ b, b ∉ as → putW H as ws b = H b := fun b h1 => putW_off as ws _ h1
  have kp : ∀ b u, H b = some u → putW H as ws b = some u := fun b u e => by
    rw [off b (fun z => by rw [new b z] at e; cases e)]
    exact e
  have I1 : L2.Inv X pins σ (putW H as ws) { s with heap := h', toks := tk } := by
    refine I.grow hk kp (fun b u e n => ?_) fun b u n e => ?_
    · rw [off b fun z => absurd (Heap.lt_size e) (Nat.not_lt.mpr (Nat.le_of_lt (hG.above b z)))]
      exact n
    · by_cases hb : b ∈ as
      · obtain ⟨j, hj⟩ := List.mem_iff_getElem?.mp hb
        obtain ⟨x, e1, e2⟩ := at_ j b hj
        rw [e2] at e
        cases e
        obtain ⟨en, f1, f2⟩ := hG.pairs j b hj
        obtain ⟨x', g1, g2⟩ := paired_at w2 (y := en) (j := j) (by rw [Array.getElem?_toList]; exact f1)
        rw [e1] at g1
        cases g1
        exact ⟨by show 2 ≤ sizeLine; decide, [en.key, en.val], .cons g2.1 (.cons g2.2 .nil), ⟨_, f2, rfl, _, rfl⟩⟩
      · rw [off b hb, n] at e
        cases e
  have rp := refs_rel kp w1 lw at_
  have rd : PySem.W.EachIs (EachVR g μ (putW H as ws)) (as.map Value.ref) (kvs.map mkP) := each_rel rp (vals_refs as)
  unfold sortOk at ok
  simp only [Bool.and_eq_true, List.all_eq_true, decide_eq_true_eq, Bool.or_eq_true] at ok
  obtain ⟨⟨o1, o2⟩, o3⟩ := ok
  have hob : (h'.push { cls := .type "list", data := .seq (as.map Value.ref).toArray }).get? h'.objs.size = some (seqObj "list" (as.map Value.ref).toArray 0) := Heap.get?_push_size _ rfl
  have ka : ∀ b o, h'.get? b = some o → (h'.push { cls := .type "list", data := .seq (as.map Value.ref).toArray }).get? b = some o := fun b o e => Heap.get?_push_of_some _ e
  have e1 := (PySem.W.each_mem rd).mono fun u p ⟨⟨v, rv, rp⟩, hm⟩ => (show ∃ bs, Reads (h'.push { cls := .type "list", data := .seq (as.map Value.ref).toArray }) u (dOf p) bs ∧ h'.objs.size ∉ bs from by
    obtain ⟨d, hd⟩ := Option.isSome_iff_exists.mp (o1 p hm).1
    rw [toD_depth0 hd]
    obtain ⟨bs, hb⟩ := Dp.reads I1 d v u (toD_rel hK p v d rp hd) rv
    refine ⟨bs, PyProof.Rows.Reads.keeps ka hb, fun z => ?_⟩
    obtain ⟨o, ho⟩ := PyProof.On.reads_mem_get hb _ z
    exact Nat.lt_irrefl _ (Heap.lt_size ho))
  refine PySem.W.list_sort_data (enc := dOf) (R := EachVR g μ (putW H as ws)) hob rd e1 ?_ ?_ (by rw [List.length_map]; exact z) ?_ fun out ho hr => ?_
  · intro d hd d' hd'
    obtain ⟨p, hp, rfl⟩ := List.mem_map.mp hd
    obtain ⟨p', hp', rfl⟩ := List.mem_map.mp hd'
    exact o2 p hp p' hp'
  · refine .inl fun d hd => ?_
    obtain ⟨p, hp, rfl⟩ := List.mem_map.mp hd
    obtain ⟨pp, hpp, rfl⟩ := List.mem_map.mp hp
    obtain ⟨d, hd⟩ := Option.isSome_iff_exists.mp (o1 _ hp).1
    rw [toD_depth0 hd]
    simp only [mkP, toD, toDs, Option.map_eq_some_iff] at hd
    obtain ⟨ds, hds, rfl⟩ := hd
    split at hds
    · cases hds; exact ⟨_, _, rfl⟩
    · cases hds
  · intro p hp
    have := (o1 p hp).2
    show X.A.units + 1 + 1 + _ < cLine
    omega
  · obtain ⟨zs, c1, d1⟩ := rel_each hr
    obtain ⟨n, hn⟩ := sortedHeap_at (out := out.toArray) hob
    have newL : putW H as ws h'.objs.size = none := I1.hok.fresh (Nat.le_refl _)
    have I2 : L2.Inv X pins σ (upd (putW H as ws) h'.objs.size (.lst zs)) { s with heap := PyProof.Rows.sortedHeap (h'.push { cls := .type "list", data := .seq (as.map Value.ref).toArray }) h'.objs.size (as.map Value.ref) out.toArray, toks := tk } := by
      refine I1.laid (t' := tk) (fun b o e => ?_) (Nat.le_refl _) ⟨?_, out, n, d1, hn⟩
      · have lt := Heap.lt_size e
        rw [sortedHeap_old (Nat.ne_of_lt lt) (by rw [size_push']; exact Nat.lt_succ_of_lt lt)]
        exact ka b o e
      · rw [d1.length, ho, List.length_map]
        exact z
    have gr : ∀ b o, putW H as ws b = some o → upd (putW H as ws) h'.objs.size (.lst zs) b = some o := fun b o e => by rw [upd_ne (ne_of_none e newL)]; exact e
    refine ⟨.ref h'.objs.size, _, I2, rfl, q _ _ zs (fun b o e => gr b o (kp b o e)) (I.hok.fresh (Nat.le_of_lt hlt)) (c1.stays (stays_grow gr)) upd_same⟩
def opSortI (x : RV) : CM RV := fun cs => match contC cs x with
  | some (.dict kvs) => if sortOk (kvs.map mkP) then .ok (.own (.list (sortPV (kvs.map mkP)))) cs else .stuck
  | _ => .stuck
section
variable {o : Expr} {m : CM RV} {p pos apos cpos : Pos}
theorem se_sortItems (hK : g.K = X.K) (hc : X.calm = true) (hu : X.A.units + 64 < cLine) (hm : X.mg "sorted" = none) (ho : SE X g W o m) (hg : Gl X "sorted" := by rfl)
    (hbase : attributeBase o "items" X.env (eval o X.env) = eval o X.env := by rfl) (hline : (apos.endLine == cpos.line) = true := by rfl)
    (he : starEach [.Call (.Attribute o "items" apos) [] [] cpos] X.env = (false, eval (.Call (.Attribute o "items" apos) [] [] cpos) X.env) :: starEach [] X.env := by rfl) :
    SE X g W (.Call (.Name "sorted" p) [.Call (.Attribute o "items" apos) [] [] cpos] [] pos) (e1 opSortI m) :=
  PE.mono (pe_callB (cr_sortedI (g := g) hK hc hu) hg hm (by decide +kernel) (pa_cons (pe_bm0G PySem.F.plainAttrs_dict PySem.F.slot_dict_items PySem.F.type_dict_items (mt_itemsC (g := g)) ho hbase hline) pa_nil he) (by decide) (by decide) he rfl) fun σ H Q h => by
    obtain ⟨μ, cs, rel, oo⟩ := h
    refine ⟨μ, cs, rel, (Out.bind oo).mono fun x cs1 μ1 H1 _ k1 h1 v hv => ?_⟩
    unfold opSortI at h1
    split at h1
    · rename_i kvs ec
      split at h1
      · rename_i z
        obtain ⟨a, rfl, c⟩ := cont_rel k1.rel hv ec
        refine ⟨ty_dict _ _ _ _ _ _ _ _ k1.rel hv (by unfold isDict; rw [ec]), μ1, kvs, a, rfl, rfl, c, fun q hq => ?_⟩
        have k2 := k1.fresh (o := L2.DX.itemsO q a) hq
        have gr : ∀ b u, H1 b = some u → upd H1 q (L2.DX.itemsO q a) b = some u := fun b u e => by rw [upd_ne (ne_of_none e hq)]; exact e
        refine ⟨μ1, q, a, kvs, rfl, upd_same, c.stays (stays_grow gr) (fun o h => gr a o h), z, fun H' l zs e hl hz hL => ?_⟩
        exact h1 μ1 H' (k2.grow e) _ (RVRel.newG k2 e hl ⟨zs, hL, hz⟩)
      · exact h1.elim
    · exact h1.elim
end
end CL

/-! CL19: xs[::-1]; list.count; list.reverse; a dict of the module; dict displays. -/
namespace CL
open PySem L2 PyProof.Rows
variable {g : G} {W : WX} {M : Addr → Prop} {μ μ' μ1 μ2 : List Addr} {H H' H0 H1 H2 : Hp} {σ σ1 σ2 : L2.St} {cs cs' cs1 cs2 : CSt} {X : Cx}
/-! ### xs[::-1] -/
def opRev (x : RV) : CM RV := fun cs => match listC cs x with
  | some xs => .ok (.own (.list xs.reverse)) cs
  | none => .stuck
theorem PVsRel.reverse : ∀ {ps : List PV} {vs : List V}, PVsRel g μ H ps vs → PVsRel g μ H ps.reverse vs.reverse
  | _, _, .nil => .nil
  | _, _, .cons r t => by
    rw [List.reverse_cons, List.reverse_cons]
    exact (PVsRel.reverse t).append (.cons r .nil)
theorem se_rev {e : Expr} {m : CM RV} {k : Nat} {p1 p2 p3 pos : Pos} (hK : g.K = X.K) (he : SE X g W e m) : SE X g W (.Subscript e (.Slice none none (some (.UnaryOp .USub (.Constant (.int 1) k p1) p2)) p3) pos) (e1 opRev m) := PE.mono (L2.pe_revL he) fun σ H Q h => by
  obtain ⟨μ, cs, rel, oo⟩ := h
  refine ⟨μ, cs, rel, (Out.bind oo).mono fun x cs1 μ1 H1 _ k1 h1 v hv => ?_⟩
  unfold opRev at h1
  split at h1
  · rename_i xs e
    obtain ⟨a, vs, rfl, z1, z2⟩ := listC_rel k1.rel hv e
    exact ⟨a, vs, rfl, .inl z1, fun p hp => h1 μ1 _ (k1.fresh hp) _ (RVRel.new k1 hp ⟨_, upd_same, (z2.reverse).stays (stays_fresh hp)⟩)⟩
  · exact h1.elim
/-! ### list.count -/
def rCountD (K : PySem.W.Frag) : V → List V → Hp → VK → Prop := fun x xs H Q => ∃ (a : Addr) (y : V) (d : PyData) (ds : List PyData), x = V.ref a ∧ xs = [y] ∧ Dp K H (V.ref a) (.list ds) ∧ Dp K H y d ∧
  SeqAt.shaped (.list ds) = true ∧ SeqAt.shaped d = true ∧ Q (.int (ds.countP fun z => PyData.eqv z d : Nat)) H
theorem mt_countD (hu : X.A.units + 65 < cLine) : MtR X "list.count" (rCountD X.K) := by
  intro pins s σ H x xs v us Q I rx rxs h
  obtain ⟨a, y, d, ds, rfl, rfl, hl, hy, sl, sd, q⟩ := h
  cases rx
  cases rxs with
  | cons ry rt =>
    rename_i uy ut
    cases rt
    obtain ⟨bs, r1⟩ := Dp.reads I d y uy hy ry
    have hxs : PyData.canLayAll0 ds = true := SeqAt.canLay_of_shaped sl
    have hroom : X.A.units + 1 + min (PyData.depthAll ds) d.depth < cLine := room_in_shaped sd hu
    cases hl with
    | lst hs ha =>
      obtain ⟨its, rv, ⟨⟨cls, dd, data, sls⟩, n, ho, hc, hdn, hdt⟩, hlen⟩ := I.list hs
      simp only at hc hdt
      subst hc hdt
      obtain ⟨as, h4⟩ := Dp.readsAll I ds _ its ha rv
      have hmap : its.map (SeqAt.readOf s.heap) = ds := SeqAt.readsAll_map ds its as hxs h4
      refine call_meets PySem.F.slot_list_count ⟨_, ho, rfl⟩ PySem.F.entry_list_count (PySem.F.args_list_count_2 _ _)
        (SeqAt.list_countAt a its.toArray n dd sls uy (fun u => PyData.eqv (SeqAt.readOf s.heap u) d)) ⟨ho, SeqAt.items_eqAt (vs := its.toArray) (show ReadsAll s.heap its.toArray.toList ds as from h4) r1 hxs (SeqAt.canLay_of_shaped sd) hroom, ?_⟩
      refine ⟨.int (ds.countP fun z => PyData.eqv z d : Nat), H, I.tok _, ⟨s.toks, ?_⟩, q⟩
      have : (its.countP fun u => PyData.eqv (SeqAt.readOf s.heap u) d) = ds.countP fun z => PyData.eqv z d := by rw [← hmap, List.countP_map]; rfl
      show Value.int ((its.toArray.toList.countP _ : Nat) : Int) s.toks = _
      rw [show its.toArray.toList = its from rfl, this]
def lCount (x : RV) (ps : List PV) : CM RV := fun cs => match dataC cs x, ps with
  | some (.list ds), [p] => match toD p with
    | some d => if SeqAt.shaped (.list ds) && SeqAt.shaped d then .ok (.pv (.int (ds.countP fun z => PyData.eqv z d : Nat))) cs else .stuck
    | none => .stuck
  | _, _ => .stuck
theorem pr_count : PrM g (rCountD g.K) lCount := fun W M μ H σ cs2 μ2 H2 x v ps vs Q k hx hp o => by
  unfold lCount at o
  split at o
  · rename_i ds p e
    split at o
    · rename_i d ed
      split at o
      · rename_i z
        simp only [Bool.and_eq_true] at z
        have hd := dataC_rel (K := g.K) rfl k.rel hx e
        have hv : ∃ a, v = .ref a := by cases hd; exact ⟨_, rfl⟩
        obtain ⟨a, rfl⟩ := hv
        cases hp with
        | cons q r =>
          cases r
          exact ⟨a, _, d, ds, rfl, rfl, hd, toD_rel rfl p _ d q ed, z.1, z.2, o μ2 H2 k _ (.int _)⟩
      · exact o.elim
    · exact o.elim
  · exact o.elim
/-! ### list.reverse -/
def lReverse (x : RV) (ps : List PV) : CM RV := fun cs => match contC cs x, ps with
  | some (.list xs), [] => .ok (.pv .non) (wrC x (.list xs.reverse) cs)
  | _, _ => .stuck
theorem pr_reverse : PrM g rReverse lReverse := fun W M μ H σ cs2 μ2 H2 x v ps vs Q k hx hp o => by
  unfold lReverse at o
  split at o
  · rename_i xs e
    obtain ⟨a, rfl, ⟨ws, h1, h2⟩, wr⟩ := wr_fct k hx e
    cases hp
    exact ⟨a, ws, rfl, rfl, h1, o μ2 _ (wr _ _ ⟨_, upd_same, (h2.reverse).stays (stays_upd h1 (.lst _))⟩) _ .non⟩
  · exact o.elim
/-! ### TAB.get(k, x), TAB a dict of the module: text keys, ints -/
structure TabOk (X : Cx) (x : Str) (tab : List (Str × Int)) : Prop where
  ex : ∃ d es n, X.mg x = some (.ref d) ∧ KDict X.K X.w d es n ∧ ∀ z, (∃ u, PySem.W.nsIn X.K d z = some u ∧ match tab.lookup z with
    | some i => ∃ w, u = some w ∧ RelV (.int i) w
    | none => u = none)
def rKGet (X : Cx) (d : Addr) (tab : List (Str × Int)) : V → List V → Hp → VK → Prop := fun x vs H Q => ∃ z y, x = .ref d ∧ vs = [.str z, y] ∧ Q (match tab.lookup z with | some i => .int i | none => y) H
theorem mt_kget {d : Addr} {es : Array DictEntry} {n : Nat} {tab : List (Str × Int)} (D : KDict X.K X.w d es n) (ht : ∀ z, (∃ u, PySem.W.nsIn X.K d z = some u ∧ match tab.lookup z with
    | some i => ∃ w, u = some w ∧ RelV (.int i) w
    | none => u = none)) : MtR X "dict.get" (rKGet X d tab) := by
  intro pins s σ H x vs v us Q I rx rv ⟨z, y, e1, e2, q⟩
  subst e1; subst e2
  cases rx
  obtain ⟨u, w, rfl, ⟨t, rfl⟩, rz⟩ := vals2 rv
  obtain ⟨r, hr, hm⟩ := ht z
  refine call_meetsIn PySem.F.slot_dict_get (kd_type D I) PySem.F.entry_dict_get (PySem.F.args_dict_get_3 _ _ _) (meets_dict_get_default (strKind X.prog X.w) d (PySem.strKind_is X.prog X.w z t) D.low w) ⟨_, PySem.W.mapOf_K (prog := X.prog) I.kIn D.at_ D.lit, ?_⟩
  rw [PySem.W.find_K D.at_ hr]
  cases e : tab.lookup z with
  | some i =>
    rw [e] at hm q
    obtain ⟨w', rfl, rw'⟩ := hm
    exact ⟨.int i, H, I.tok _, rw', q⟩
  | none =>
    rw [e] at hm q
    subst hm
    exact ⟨y, H, I.tok _, rz, q⟩
def eKGet (tab : List (Str × Int)) (ma : CM (List PV)) : CM RV := do
  let ps ← ma
  match ps with
  | [.str z, d] => fun cs => .ok (.pv (match tab.lookup z with | some i => .int i | none => d)) cs
  | _ => stuck
theorem se_kget {x : Str} {tab : List (Str × Int)} {a b : Expr} {ma : CM (List PV)} {p apos cpos : Pos} (T : TabOk X x tab) (ha : SA X g W [a, b] ma) (hg : Gl X x := by rfl) (hd : (x == ("__debug__" : Str)) = false := by decide)
    (hbase : attributeBase (.Name x p) "get" X.env (eval (.Name x p) X.env) = eval (.Name x p) X.env := by rfl)
    (hfew : ((backTo cpos (starEach [a, b] X.env)).all (fun x => !x.1) && (backToKw cpos (keywordEach [] X.env)).all (fun x => x.1.isSome)
      && decide (([a, b] : List Expr).length + ([] : List Keyword).length + (if ([] : List Keyword).isEmpty then 0 else 1) < 30)) = true := by rfl)
    (hline : (apos.endLine == cpos.line) = true := by rfl) (hs : starEach [a, b] X.env = (false, eval a X.env) :: starEach [b] X.env := by rfl) (hplain : (backTo cpos (starEach [b] X.env)).any (·.1) = false := by rfl) :
    SE X g W (.Call (.Attribute (.Name x p) "get" apos) [a, b] [] cpos) (eKGet tab ma) := by
  obtain ⟨d, es, n, hm, D, ht⟩ := T.ex
  refine PE.mono (pe_bmG PySem.F.plainAttrs_dict PySem.F.slot_dict_get PySem.F.type_dict_get (mt_kget D ht) (pe_glob (v := .ref d) hg hm rfl hd) ha hbase hfew hline hs hplain) fun σ H Q h => ?_
  obtain ⟨μ, cs, rel, o⟩ := h
  refine ⟨fun pins σ' s v I r => ?_, μ, cs, rel, (Out.bind o).mono fun ps cs1 μ1 H1 eps k1 h1 vs hv => ?_⟩
  · obtain rfl : v = Value.ref d := r
    refine ⟨kd_type D I, fun b e => ?_⟩
    cases e
    exact ⟨_, I.kIn _ _ D.at_, rfl⟩
  · clear eps
    split at h1
    · rename_i z q
      cases hv with
      | cons r1 t =>
        cases r1
        cases t with
        | cons r2 t =>
          cases t
          refine ⟨z, _, rfl, rfl, ?_⟩
          cases e : tab.lookup z with
          | some i => rw [e] at h1; exact h1 μ1 H1 k1 _ (.int _)
          | none => rw [e] at h1; exact h1 μ1 H1 k1 _ r2
    · exact h1.elim
/-! ### {k: v, ..} -/
def ePairs : List (CM PV × CM PV) → CM (List (PV × PV))
  | [] => fun cs => .ok [] cs
  | (a, b) :: r => do
    let x ← a
    let y ← b
    let ps ← ePairs r
    fun cs => .ok ((x, y) :: ps) cs
inductive DPs (X : Cx) (g : G) (W : WX) : List (Option Expr) → List Expr → List (CM PV × CM PV) → Prop
  | nil : DPs X g W [] [] []
  | cons {k v : Expr} {ks : List (Option Expr)} {vs : List Expr} {a b : CM PV} {r : List (CM PV × CM PV)} : SPv X g W k a → SPv X g W v b → DPs X g W ks vs r → DPs X g W (some k :: ks) (v :: vs) ((a, b) :: r)
abbrev trsOf (g : G) (W : WX) (ms : List (CM PV × CM PV)) : List (TE × TE) := ms.map fun m => (tOfP g W m.1, tOfP g W m.2)
theorem pps_of {pos : Pos} {ks : List (Option Expr)} {vs : List Expr} {ms : List (CM PV × CM PV)} (h : DPs X g W ks vs ms) : PPs X pos ks vs (trsOf g W ms) := by
  induction h with
  | nil => exact pps_nil
  | cons a b _ ih => exact pps_cons a b ih
abbrev PPRel (g : G) (μ : List Addr) (H : Hp) : List (PV × PV) → List (V × V) → Prop := Paired fun (p : PV × PV) (w : V × V) => PVRel g μ H p.1 w.1 ∧ PVRel g μ H p.2 w.2
theorem tPairs_of : ∀ (ms : List (CM PV × CM PV)) {cs1 : CSt} {μ1 : List Addr} {H1 : Hp} {Q : List (V × V) → Hp → Prop}, Rel g μ1 cs1 σ H1 → Out g W (Md μ1 cs1.sl σ) μ1 H1 σ (ePairs ms cs1) (fun ps cs' μ' H' => ∀ ws, PPRel g μ' H' ps ws → Q ws H') → tPairs (trsOf g W ms) σ H1 Q
  | [], cs1, μ1, H1, Q, k, o => o μ1 H1 (Fct.refl k) [] .nil
  | (a, b) :: r, cs1, μ1, H1, Q, k, o => by
    refine ⟨μ1, cs1, k, (Out.bind o).mono fun x cs2 μ2 H2 _ k2 h2 xv hx => ⟨μ2, cs2, k2.rel, ((Out.bind h2).rebase k2).mono fun y cs3 μ3 H3 _ k3 h3 yv hy => ?_⟩⟩
    refine tPairs_of r k3.rel (((Out.bind h3).rebase (k2.trans k3)).mono fun ps cs4 μ4 H4 _ k4 h4 ws hw => ?_)
    have st3 : Stays μ2 H2 μ3 H3 := k3.stays k2.rel
    have st4 : Stays μ3 H3 μ4 H4 := k4.stays k3.rel
    exact h4 μ4 H4 ((k2.trans k3).trans k4) ((xv, yv) :: ws) (.cons ⟨(hx.stays st3).stays st4, hy.stays st4⟩ hw)
theorem pp_leaf : ∀ {ps : List (PV × PV)} {ws : List (V × V)}, PPRel g μ H ps ws → (∀ p ∈ ps, (leafK p.1).isSome = true) → ∃ kvs : List (Key × V), ws = kvs.map (fun kv => (kV kv.1, kv.2)) ∧ kvs.length = ps.length ∧
    ∀ (acc : List (PV × PV)) (kv : List (Key × V)), Paired (LP g μ H) acc kv → Paired (LP g μ H) (dputs acc ps) (mergeK kv kvs)
  | _, _, .nil, _ => ⟨[], rfl, rfl, fun _ _ r => r⟩
  | a :: as, w :: ws, .cons r t, h => by
    obtain ⟨kvs, e1, e2, e3⟩ := pp_leaf t fun p hp => h p (List.mem_cons_of_mem _ hp)
    obtain ⟨n, hn⟩ := Option.isSome_iff_exists.mp (h a (List.mem_cons_self ..))
    refine ⟨(n, w.2) :: kvs, ?_, by simp [e2], fun acc kv q => e3 _ _ (lp_put q hn r.2)⟩
    rw [e1, List.map_cons, ← leafK_V r.1 hn]
def eDisp (ms : List (CM PV × CM PV)) : CM RV := do
  let ps ← ePairs ms
  fun cs => if (ps.all fun p => (leafK p.1).isSome) && decide (ps.length ≤ 15) then .ok (.own (.dict (dputs [] ps))) cs else .stuck
theorem se_disp {pos : Pos} {ks : List (Option Expr)} {vs : List Expr} {ms : List (CM PV × CM PV)} (h : DPs X g W ks vs ms) (hall : ks.all (·.isSome) = true := by rfl) (hl : ks.length = vs.length := by rfl) (h0 : ks ≠ [] := by simp) (h15 : ks.length ≤ 15 := by decide) :
    SE X g W (.Dict ks vs pos) (eDisp ms) := PE.mono (pe_disp (pps_of h) hall hl h0 h15) fun σ H Q q p hp => by
  obtain ⟨μ, cs, rel, o⟩ := q
  have k0 : Fct g (Md μ cs.sl σ) μ H μ cs σ (upd H p (.dK [])) := (Fct.refl rel).fresh hp
  have nm : ¬ Md μ cs.sl σ p := fun z => md_some rel z hp
  refine tPairs_of ms k0.rel (((Out.bind o).rebase k0).mono fun ps cs2 μ2 H2 _ k2 h2 ws hw => ?_)
  have hp2 : H2 p = some (.dK []) := k2.keep.k1 p _ upd_same nm
  split at h2
  · rename_i z
    simp only [Bool.and_eq_true, List.all_eq_true, decide_eq_true_eq] at z
    obtain ⟨kvs, e1, e2, e3⟩ := pp_leaf hw z.1
    refine ⟨hp2, kvs, e1, by rw [e2]; exact z.2, ?_⟩
    have k : Fct g (Md μ cs.sl σ) μ H μ2 cs2 σ H2 := k0.trans k2
    have nm2 : ¬ Md μ2 cs2.sl σ p := fun z => (k2.keep.k2 p z).elim nm fun y => by rw [upd_same] at y; cases y
    have st : Stays μ2 H2 μ2 (upd H2 p (.dK (mergeK [] kvs))) := stays_upd hp2 (.dK _)
    have f := k.at (.inr hp) (k.rel.updOut (o' := .dK (mergeK [] kvs)) hp2 (.dK _) nm2) (fun b z => .inl z) fun _ _ z => z
    exact h2 μ2 _ f _ ⟨p, rfl, .inl ⟨_, upd_same, Paired.imp (e3 [] [] .nil) fun _ _ z => ⟨z.1, z.2.stays st⟩⟩, nm2, .inr hp⟩
  · exact h2.elim
end CL

/-! CL20: exceptions with a field: raised, asked. -/
namespace L2
open PySem PySem.Spec PyProof.Rows
/-- B.__init__(self, ..), B an own class over ValueError -/
structure BInit (K : PySem.W.Frag) (B : Addr) : Prop where
  g : PySem.W.specialIn K (.ref B) "__getattribute__" = some (some (.builtin "type.__getattribute__"))
  r : PySem.W.readsIn K B (.type "type") = true
  f : PySem.W.findCls K (.ref B) (.type "type") "__init__" = some (.val (.builtin "ValueError.__init__"))
theorem pe_beinit {X : Cx} {x : Str} {B : Addr} {e : Expr} {es : List Expr} {ta : TA} {p1 p2 pos : Pos} {pl : Sem Bool} (hg : Gl X x) (hm : X.mg x = some (.ref B)) (b : BInit X.K B) (ha : PA X (e :: es) ta) (hdb : (x == ("__debug__" : Str)) = false := by decide)
    (hc : eval (.Call (.Attribute (.Name x p1) "__init__" p2) (e :: es) [] pos) X.env = (do
      let ov ← eval (.Name x p1) X.env
      standAt p2.atName
      let (f, first) ← holding [ov] (getMethod ov "__init__" pl)
      callWith pos f first (backTo pos (starEach (e :: es) X.env)) (backToKw pos (keywordEach [] X.env))) := by rfl)
    (he : starEach (e :: es) X.env = (false, eval e X.env) :: starEach es X.env := by rfl) (hpl : (backTo pos (starEach es X.env)).any (·.1) = false := by rfl) :
    PE X (.Call (.Attribute (.Name x p1) "__init__" p2) (e :: es) [] pos) (tVeI X.K ta) := by
  refine ⟨fun pins s σ H Q I h => ?_⟩
  refine PySem.W.methodCall_KW (ld_glob I hg hm ?_ hdb) hc
  refine PySem.W.method_cls I.kIn b.g (PySem.W.cls_value I.kIn b.r b.f (by decide +kernel) ?_)
  show wpAny _ _ (callWith pos (Value.builtin "ValueError.__init__") [] (backTo pos (starEach (e :: es) X.env)) []) _ _ _
  refine PyProof.Rows.callWith_method1 (thn (ha.run pos pins _ σ H _ (I.tok _) h) fun us s1 ⟨vs, H1, I1, r1, a, C, ws, ev, hl, T, ea, q⟩ => ?_) he hpl
  subst ev
  cases r1 with
  | @cons _ u0 _ ur ra rw' =>
    obtain rfl : u0 = Value.ref a := ra
    have hlen : ur.length ≤ sizeLine := by
      rw [← Paired.length rw', sizeLine_eq]
      omega
    exact oinit_ok T I1 ea hlen fun s' J => ⟨.non, H1, J, rfl, q⟩
/-- __init__(self, n): B.__init__(self, m); self.f = n -/
def spXI (C : Addr) (f : Str) : Sp := fun vs H Q _ => ∃ a v, vs = [.ref a, v] ∧ H a = some (exo a C none) ∧ ∀ dx, H dx = none → dx ≠ a → Q .non (upd (upd H dx (exd dx [(f, v)])) a (exo a C (some dx)))
def t_xi (K : PySem.W.Frag) (m f : Str) : TS := tSeq (tDrop (tVeI K (tCons (tVar 0) (tCons (tC (.str m)) tNil)))) (tOst K f (tVar 0) (tVar 1))
theorem pure_xi {K : PySem.W.Frag} {C : Addr} {m f n : Str} (T : OexC K C) (hno : PySem.W.findIn K (.ref C) f = some none) (vs : List V) (H : Hp) (Q : VK) (E : XK) (h : spXI C f vs H Q E) : t_xi K m f { nx := fun _ H' => Q .non H', rt := Q } (start ["self", n] vs) H := by
  obtain ⟨a, v, rfl, ea, hq⟩ := h
  exact ⟨_, rfl, a, C, [.str m], rfl, Nat.le_of_ble_eq_true rfl, T, ea, v, rfl, .ref a, rfl, a, C, rfl, T, hno, .inl ⟨ea, fun dx hd hne => hq dx hd hne⟩⟩
theorem xi_len {C : Addr} {f n : Str} (vs : List V) (H : Hp) (Q : VK) (E : XK) (h : spXI C f vs H Q E) : vs.length = (["self", n] : List Str).length := by
  obtain ⟨a, v, rfl, _⟩ := h
  rfl
end L2
namespace PySem.W
open PySem PySem.Spec PySem.Calls PyProof.Rows
section
variable {prog : Program} {w : World} {A : Around} {E : Value → Shared → Prop} {s : Shared} {K : Frag} {x D : Addr} {ox : Obj}
theorem findObj_dataO {C : Addr} {od : Option Obj} {name : Str} {a g : Value} (hc : (clsIn K C).isSome = true) (ha : findIn K (.ref C) name = some (some a)) (hg : specialIn K a "__get__" = some (some g)) (ht : takesIn K a = some true) : findObj K C od name = some (.bind g a) := by
  obtain ⟨cd, hc⟩ := Option.isSome_iff_exists.mp hc
  unfold findObj
  rw [hc, Option.bind_some, ha, Option.bind_some]
  simp [hg, ht]
theorem kin_classO {od : Option Obj} {Q : Option Value → Shared → Prop} (hga : findIn K (.ref D) "__getattribute__" = some (some (.builtin "BaseException.__getattribute__"))) (hgt : findIn K (.ref D) "__getattr__" = some none) (hsub : subIn K (.ref D) (.type "BaseException") = some true)
    (hdct : hasDictIn K D = true) (ha : findIn K (.ref D) "__class__" = some (some (.builtin "object.__class__")))
    (hn : specialIn K (.builtin "object.__class__") "__get__" = some (some (.builtin "getset_descriptor.__get__"))) (htk : takesIn K (.builtin "object.__class__") = some true) (hm : mroIn K D (.type "object") = some true)
    (X : K.In s.heap) (I : InstAt s.heap x ox D od) (h : Q (some (.ref D)) { s with toks := s.toks + 1 }) : wpAny (model prog w) A (getAttr? (.ref x) "__class__") Q E s := by
  have hf : findObj K D od "__class__" = some (.bind (.builtin "getset_descriptor.__get__") (.builtin "object.__class__")) := findObj_dataO (by obtain ⟨cd, hc, _⟩ := any_some hdct; rw [hc]; rfl) ha hn htk
  obtain ⟨hp, g, d, t, os⟩ := s
  have L0 := I.type (M := model prog w)
  have L1 := looks_findIn (M := model prog w) X hga
  have L2 := looks_findIn (M := model prog w) X hgt
  have L3 := looks_find (M := model prog w) X I hf
  have sub : Looks (model prog w) hp (isInstance (.ref x) (.type "BaseException")) true := L0.andThen (looks_subIn X hsub)
  have hx0 : (false && onTheHeap (Value.builtin "BaseException.__getattribute__")) = false := rfl
  have hx2 : (Value.builtin "BaseException.__getattribute__" == Value.builtin "object.__getattribute__") = false := by decide +kernel
  have hx1 : (onTheHeap (Value.ref D) && Value.builtin "BaseException.__getattribute__" == Value.builtin "object.__getattribute__") = false := by rw [hx2]; rfl
  unfold getAttr? getAttrBy? getAttrBy
  refine wpAny_bind (wpAny_mkText (wpAny_bind (wpAny_attempt (wpAny_holding (wpAny_bind (L0.at (wpAny_bind (L1.at ?_))))))))
  show wpAny _ _ (if (onTheHeap (Value.ref D) && Value.builtin "BaseException.__getattribute__" == Value.builtin "object.__getattribute__") = true then _ else _) _ _ _
  rw [hx1, if_neg Bool.false_ne_true]
  unfold getAttrByItsOwn hookBefore
  refine wpAny_bind ?_
  rw [if_pos (show onTheHeap (Value.ref D) = true from rfl)]
  refine L2.at ?_
  refine wpAny_bind (wpAny_attempt (wpAny_holding ?_))
  unfold callGetattribute
  rw [hx0, if_neg Bool.false_ne_true]
  unfold boundAndCalled
  rw [PySem.F.excAttr_ValueError.ga.bind (.ref x)]
  refine wpAny_bind (wpAny_pure ?_)
  show wpAny _ _ (call (.builtin "BaseException.__getattribute__") [.ref x, .str "__class__" t]) _ _ _
  refine wpAny_call (codeAny_call_builtin PySem.F.excAttr_ValueError.ga.plain PySem.F.entry_bexc_ga ?_)
  refine @check_slot (model prog w) _ _ ⟨hp, g, d, t + 1, os⟩ "BaseException.__getattribute__" "BaseException" "__getattribute__" (.ref x) [.str "__class__" t] [] _ (by decide +kernel) (by decide +kernel) sub (PySem.F.args_bexc_ga (.ref x) (.str "__class__" t)) ?_
  unfold Builtin.«object.__getattribute__»
  refine wpAny_bind (wpAny_of_eq (a := ((Value.ref x : Value), [Value.str "__class__" t])) (by first | rfl | (simp only [slotArgs]; rfl)) ?_)
  refine wpAny_bind (wpAny_pure (wpAny_bind (L0.at (wpAny_bind (L3.at ?_)))))
  show wpAny _ _ (holding [Value.builtin "object.__class__"] (call (.builtin "getset_descriptor.__get__") [.builtin "object.__class__", .ref x, .ref D]) >>= ret) _ _ _
  refine wpAny_bind (wpAny_holding (wpAny_call (class_get (s := ⟨hp, g, d, t + 1, os⟩) (ox := ox) (od := od) X I hm ?_)))
  refine wpAny_pure ?_
  show wpAny _ _ (handedOut (.ref D)) _ _ _
  rw [handedOut_of (v := .ref D) rfl]
  first
    | exact wpAny_pure (wpAny_pure h)
    | exact wpAny_pure h
    | exact wpAny_pure (wpAny_bind (wpAny_pure (wpAny_pure h)))
theorem kitx_exO (hga : findIn K (.ref D) "__getattribute__" = some (some (.builtin "BaseException.__getattribute__"))) (hgt : findIn K (.ref D) "__getattr__" = some none) (hsub : subIn K (.ref D) (.type "BaseException") = some true) (hdct : hasDictIn K D = true) (ha : findIn K (.ref D) "__class__" = some (some (.builtin "object.__class__")))
    (hn : specialIn K (.builtin "object.__class__") "__get__" = some (some (.builtin "getset_descriptor.__get__"))) (htk : takesIn K (.builtin "object.__class__") = some true) (hm : mroIn K D (.type "object") = some true) :
    KitX K (.ref x) (.ref D) (fun h => ∃ od, InstAt h x ox D od) where
  ty := fun _ _ _ I => I.choose_spec.type
  it := fun _ _ X _ => by
    obtain ⟨cdD, hcD, _⟩ := any_some hdct
    unfold clsIn at hcD
    split at hcD
    · rename_i c' d' cd' sl' ho
      intro A' Q' E' s' k q
      unfold isType loadHead
      exact wpAny_bind (wpAny_loadPart (k _ _ (X _ _ ho)) (wpAny_pure q))
    · cases hcD
  ne := fun h tp dd its n sl X htp => by
    obtain ⟨cdD, hcD, _⟩ := any_some hdct
    refine Bool.eq_false_iff.mpr fun q => ?_
    have e : D = tp := Value.ref.inj (beq_iff_eq.mp q)
    subst e
    unfold clsIn at hcD
    split at hcD
    · rename_i c' d' cd' sl' ho
      have z := (X _ _ ho).symm.trans htp
      cases z
    · cases hcD
  ca := fun X I k => kin_classO hga hgt hsub hdct ha hn htk hm X I.choose_spec k
end
end PySem.W
namespace CL
open PySem L2 PyProof.Rows
variable {g : G} {W : WX} {M : Addr → Prop} {μ μ' μ1 μ2 : List Addr} {H H' H0 H1 H2 : Hp} {σ σ1 σ2 : L2.St} {cs cs' cs1 cs2 : CSt} {X : Cx}
/-! ### raise C(e) -/
structure XcOk (X : Cx) (g : G) (c : Nat) (x f : Str) : Prop where
  ex : ∃ (fI : Addr) (fd : FuncData) (n : Str), X.mg x = some (.ref (g.ct c)) ∧ OexC X.K (g.ct c) ∧ PySem.W.findIn X.K (.ref (g.ct c)) "__init__" = some (some (.ref fI)) ∧ PySem.W.typeIn X.K (.ref fI) = some (.type "function") ∧
    FnOk X.prog X.w X.K X.mg X.base C8.CX0 1 fI fd ["self", n] (spXI (g.ct c) f) ∧ L2.Binds X.K fd ["self", n] []
def sRaiseA (c : Nat) (f : Str) (m : CM (List PV)) : CM Fl := do
  let ps ← m
  fun cs => match ps with
    | [p] => .exc ⟨c, some (f, p)⟩ cs
    | _ => .stuck
theorem ss_raiseA {c : Nat} {x f : Str} {e : Expr} {m : CM (List PV)} {p pos pos' : Pos} (hc : X.calm = true) (tk : Takes X W) (ok : XcOk X g c x f) (hr : Room 2 X.A) (ha : SA X g W [e] m) (hg : Gl X x := by rfl) (hdb : (x == ("__debug__" : Str)) = false := by decide)
    (he : starEach [e] X.env = (false, eval e X.env) :: starEach [] X.env := by rfl) (hpl : (backTo pos (starEach [] X.env)).any (·.1) = false := by rfl) :
    SS X g W (.Raise (some (.Call (.Name x p) [e] [] pos)) none pos') (sRaiseA c f m) := by
  obtain ⟨fI, fd, n, hm, T, iC, tI, F1, hb⟩ := ok.ex
  refine PS.mono (ps_raise hc tk (pmk_oex (dvs := []) (ds := []) T iC tI F1 hr hb .nil (fun _ _ _ _ _ _ _ z => z.elim) hg hm ha hdb he hpl)) fun D σ H h => ?_
  obtain ⟨μ, cs, rel, o⟩ := h
  refine ⟨μ, cs, rel, (OutS.bindE o).mono fun ps cs1 μ1 H1 eps k1 h1 vs hv => ?_⟩
  clear eps
  split at h1
  · rename_i p
    cases hv with
    | cons r1 t =>
      cases t
      rename_i v
      refine ⟨Nat.le_of_ble_eq_true rfl, fun a hn => ⟨a, v, rfl, upd_same, fun dx hd hne => ?_⟩⟩
      have hd1 : H1 dx = none := by rw [upd_ne hne] at hd; exact hd
      refine ⟨rfl, dx, [(f, v)], upd_same, ?_, hd1, ?_⟩
      · rw [upd_ne hne, upd_same]
      · have eH : upd (del (upd (upd (upd H1 a (exo a (g.ct c) none)) dx (exd dx [(f, v)])) a (exo a (g.ct c) (some dx))) a) dx (.xd [(f, v)]) = upd H1 dx (.xd [(f, v)]) := by
          funext b
          by_cases hb : b = dx
          · rw [hb, upd_same, upd_same]
          · rw [upd_ne hb, upd_ne hb]
            by_cases ha : b = a
            · rw [ha, del_same, hn]
            · rw [del_ne ha, upd_ne ha, upd_ne hb, upd_ne ha]
        rw [eH]
        exact h1 μ1 σ _ _ _ (k1.fresh hd1) ⟨rfl, dx, v, rfl, upd_same, r1.stays (stays_fresh hd1)⟩
  · exact h1.elim
/-! ### in the suite of except .. as e -/
section
variable {a : Addr} {cls : Value} {d : Option Addr} {oe : Obj} {pn : List (Addr × Obj)} {i : Nat} {x : Str} {p pos p1 p2 : Pos}
/-- the exception's slot -/
def rdExn (i : Nat) (cs : CSt) : Option PExc := match cs.sl[i]? with
  | some (.exn x) => some x
  | _ => none
theorem exn_rel (r : Rel g μ cs σ H) {y : PExc} (h : rdExn i cs = some y) (hx : g.xa = some (a, cls, d)) : σ[i]? = some (some (.ref a)) ∧ ExcRel g μ H y cls d := by
  unfold rdExn at h
  split at h
  · rename_i z e
    cases h
    have hi : i < σ.length := by rw [← r.len]; exact (List.getElem?_eq_some_iff.mp e).1
    have es : σ[i]? = some (σ[i]'hi) := List.getElem?_eq_getElem hi
    obtain ⟨a', cl', d', e1, e2, e3⟩ := r.sl i _ _ e es
    rw [hx] at e1
    cases e1
    exact ⟨by rw [es, e2], e3⟩
  · cases h
/-- e.f, of the classes that have it -/
def eXf (i : Nat) (f : Str) (okc : Nat → Bool) : CM RV := fun cs => match rdExn i cs with
  | some y => if okc y.cls then match y.arg with
    | some (f', p) => if f' = f then .ok (.pv p) cs else .stuck
    | none => .stuck
    else .stuck
  | none => .stuck
theorem se_xf {f : Str} {okc : Nat → Bool} (hz : Zc cls d oe) (hf : ∃ vs, oe.data = .fields vs) (hx : g.xa = some (a, cls, d)) (hcl : ∀ n, okc n = true → XfC X.K (g.ct n) ∧ PySem.W.findIn X.K (.ref (g.ct n)) f = some none)
    (hi : X.N[i]? = some x := by rfl) (hv : Vis X.env.scope x := by first | exact .inl rfl | exact .inr (.inl rfl) | exact .inr (.inr rfl)) (hd : (x == ("__debug__" : Str)) = false := by decide) (hcd : (x == ("__classdict__" : Str)) = false := by decide)
    (hb : attributeBase (.Name x p1) f X.env (eval (.Name x p1) X.env) = eval (.Name x p1) X.env := by rfl) : SE (X.suite a ((a, oe) :: pn)) g W (.Attribute (.Name x p1) f pos) (eXf i f okc) := by
  by_cases hc : ∃ n, cls = .ref (g.ct n) ∧ XfC X.K (g.ct n) ∧ PySem.W.findIn X.K (.ref (g.ct n)) f = some none
  · obtain ⟨n, hn, T, hno⟩ := hc
    have hi' : (X.suite a ((a, oe) :: pn)).N[i]? = some x := hi
    have hv' : Vis (X.suite a ((a, oe) :: pn)).env.scope x := hv
    refine PE.mono (pe_xf T hno hz hf (pe_var (X := X.suite a ((a, oe) :: pn)) hi' hv' hd hcd) hb) fun σ H Q h => ?_
    obtain ⟨μ, cs, rel, o⟩ := h
    unfold eXf at o
    cases e : rdExn i cs with
    | none => rw [e] at o; exact o.elim
    | some y =>
      rw [e] at o
      obtain ⟨e1, e2⟩ := exn_rel rel e hx
      refine ⟨_, e1, rfl, hn, ?_⟩
      obtain ⟨c, arg⟩ := y
      simp only at o
      split at o
      · cases arg with
        | none => exact o.elim
        | some q =>
          obtain ⟨f', p⟩ := q
          simp only at o
          split at o
          · rename_i ef
            subst ef
            obtain ⟨dx, v, z1, z2, z3⟩ := e2.2
            exact ⟨dx, _, v, z1, z2, by simp [List.lookup], o μ H (Fct.refl rel) v z3⟩
          · exact o.elim
      · exact o.elim
  · refine ⟨fun pins s σ H Q I h => ?_⟩
    obtain ⟨μ, cs, rel, o⟩ := h
    unfold eXf at o
    cases e : rdExn i cs with
    | none => rw [e] at o; exact o.elim
    | some y =>
      rw [e] at o
      simp only at o
      split at o
      · rename_i hk
        exact (hc ⟨_, (exn_rel rel e hx).2.1, hcl _ hk⟩).elim
      · exact o.elim
/-- isinstance(e, C) -/
def eIsE (i : Nat) (ki : Nat → Option Bool) : CM RV := fun cs => match rdExn i cs with
  | some y => match ki y.cls with
    | some b => .ok (.pv (.bl b)) cs
    | none => .stuck
  | none => .stuck
theorem call_isO {X : Cx} {a D : Addr} {oe : Obj} {d : Option Addr} {pn : List (Addr × Obj)} (C : ExcC X.K D) (hz : Zc (.ref D) d oe) (hf : ∃ vs, oe.data = .fields vs) : CallR (X.suite a ((a, oe) :: pn)) (.builtin "isinstance") fun xs H Q => (∀ dx, d = some dx → ∃ fs, H dx = some (.xd fs)) ∧ rIsE X.K D a xs H Q := by
  intro pins s σ H xs us Q I r hh
  obtain ⟨hdx, c, cv, b, rfl, hcv, e, q⟩ := hh
  cases r with
  | cons rx rr =>
    cases rr with
    | cons rt rr =>
      cases rr
      cases rx
      have ec := hcv _ rt
      subst ec
      obtain ⟨hget, _⟩ := I.pin (a, oe) (List.mem_append.mpr (.inl List.mem_cons_self))
      obtain ⟨vs, hv⟩ := hf
      have J : ∃ od, PySem.W.InstAt s.heap a oe D od := by
        obtain ⟨oc, od, oda, osl⟩ := oe
        obtain ⟨h1, h2⟩ := hz
        dsimp only at h1 h2 hv
        subst h1 h2 hv
        cases od with
        | none => exact ⟨none, hget, rfl, rfl, trivial⟩
        | some dx =>
          obtain ⟨fs, hd⟩ := hdx dx rfl
          obtain ⟨mA, ⟨od', _, _, e1, _⟩, _⟩ := (show ObjOk X.prog X.w H s.heap dx (.xd fs) from I.hok dx _ hd)
          exact ⟨some _, hget, rfl, rfl, e1⟩
      exact PySem.W.kia_one (PySem.W.kitx_exO C.hg C.hk C.hs C.hd C.ha C.hn C.ht C.hm) I.kIn J e (fun z => nomatch z) fun tk => ⟨.bl b, H, I.kept (t' := tk) fun _ _ z => z, rfl, q⟩
end
/-- C an own class (or a built-in one): ki tells of each class whether it is below -/
structure KiOk (X : Cx) (g : G) (x : Str) (ki : Nat → Option Bool) : Prop where
  ex : ∃ (c : V) (cv : Value), (∀ u, RelV c u → u = cv) ∧ (∀ (a : Addr) (oe : Obj) (pn : List (Addr × Obj)) (p : Pos), PE (X.suite a ((a, oe) :: pn)) (.Name x p) (tC c)) ∧ ∀ n b, ki n = some b → ExcC X.K (g.ct n) ∧ PySem.W.kitOne X.K (.ref (g.ct n)) cv = some b
theorem se_isE {a : Addr} {cls : Value} {d : Option Addr} {oe : Obj} {pn : List (Addr × Obj)} {i : Nat} {x y : Str} {p pos p1 p2 : Pos} {ki : Nat → Option Bool} (hz : Zc cls d oe) (hf : ∃ vs, oe.data = .fields vs) (hx : g.xa = some (a, cls, d)) (k : KiOk X g y ki) (hm : X.mg "isinstance" = none)
    (hi : X.N[i]? = some x := by rfl) (hv : Vis X.env.scope x := by first | exact .inl rfl | exact .inr (.inl rfl) | exact .inr (.inr rfl)) (hd : (x == ("__debug__" : Str)) = false := by decide) (hcd : (x == ("__classdict__" : Str)) = false := by decide) (hg : Gl X "isinstance" := by rfl)
    (he : starEach [.Name x p1, .Name y p2] X.env = (false, eval (.Name x p1) X.env) :: starEach [.Name y p2] X.env := by rfl) (he2 : starEach [.Name y p2] X.env = (false, eval (.Name y p2) X.env) :: starEach [] X.env := by rfl) (hpl : (backTo pos (starEach [.Name y p2] X.env)).any (·.1) = false := by rfl) :
    SE (X.suite a ((a, oe) :: pn)) g W (.Call (.Name "isinstance" p) [.Name x p1, .Name y p2] [] pos) (eIsE i ki) := by
  obtain ⟨c, cv, hcv, hy, hk⟩ := k.ex
  have hi' : (X.suite a ((a, oe) :: pn)).N[i]? = some x := hi
  have hv' : Vis (X.suite a ((a, oe) :: pn)).env.scope x := hv
  by_cases hc : ∃ n, cls = .ref (g.ct n) ∧ ExcC X.K (g.ct n)
  · obtain ⟨n, rfl, T⟩ := hc
    refine PE.mono (pe_callB (X := X.suite a ((a, oe) :: pn)) (call_isO T hz hf) hg hm (by decide +kernel) (pa_cons (pe_var (X := X.suite a ((a, oe) :: pn)) hi' hv' hd hcd) (pa_cons (hy a oe pn p2) pa_nil he2) he) (by decide) (by decide) he hpl) fun σ H Q h => ?_
    obtain ⟨μ, cs, rel, o⟩ := h
    unfold eIsE at o
    cases e : rdExn i cs with
    | none => rw [e] at o; exact o.elim
    | some z =>
      rw [e] at o
      obtain ⟨e1, e2⟩ := exn_rel rel e hx
      simp only at o
      split at o
      · rename_i b eb
        obtain ⟨_, z2⟩ := hk _ _ eb
        refine ⟨_, e1, fun dx hdx => ?_, c, cv, b, rfl, hcv, ?_, o μ H (Fct.refl rel) _ (.bl _)⟩
        · obtain ⟨c0, arg⟩ := z
          cases arg with
          | none => have z3 := e2.2; rw [z3] at hdx; cases hdx
          | some q =>
            obtain ⟨dx', v, w1, w2, _⟩ := e2.2
            rw [w1] at hdx
            cases hdx
            exact ⟨_, w2⟩
        · have z3 := e2.1
          rw [z3]
          exact z2
      · exact o.elim
  · refine ⟨fun pins s σ H Q I h => ?_⟩
    obtain ⟨μ, cs, rel, o⟩ := h
    unfold eIsE at o
    cases e : rdExn i cs with
    | none => rw [e] at o; exact o.elim
    | some z =>
      rw [e] at o
      simp only at o
      split at o
      · rename_i b eb
        exact (hc ⟨_, (exn_rel rel e hx).2.1, (hk _ _ eb).1⟩).elim
      · exact o.elim
end CL

/-! CL21: lambdas without arguments, with one default or none: made, kept, called. -/
namespace L2
open PySem PySem.Spec PyProof.Rows
/-- the cells of the frame X hold σ -/
structure Cel (X : Cx) (σ : St) (H : Hp) (h : Heap) : Prop where
  inj : ∀ y z c, X.env.cells.lookup y = some c → X.env.cells.lookup z = some c → y = z
  has : ∀ y, (X.env.scope.names.lookup y = some .cell ∨ X.env.scope.names.lookup y = some .free) → ∃ c, X.env.cells.lookup y = some c
  val : ∀ (i : Nat) y v c, X.N[i]? = some y → σ[i]? = some (some v) → (X.env.scope.names.lookup y = some .cell ∨ X.env.scope.names.lookup y = some .free) → X.env.cells.lookup y = some c → ∃ u, RelV v u ∧ h.IsCell c (some u)
  cell : ∀ y c, X.env.cells.lookup y = some c → ∃ v, h.IsCell c v
  free : ∀ y c, X.env.cells.lookup y = some c → H c = none
  len : σ.length = X.N.length
theorem Inv.cel {X : Cx} {pins : List (Addr × Obj)} {σ : St} {H : Hp} {s : Shared} (I : Inv X pins σ H s) : Cel X σ H s.heap where
  inj := I.ok.inj
  has := I.ok.has
  val := fun i y v c h1 h2 h3 h4 => by
    obtain ⟨m, hn, hl⟩ := I.loc
    obtain ⟨u, r, q⟩ := hl i y v h1 h2 (h3.elim (fun k => .inr (.inl k)) fun k => .inr (.inr k))
    rcases q with ⟨k, _⟩ | ⟨_, c2, e, z⟩
    · have k : X.env.scope.names.lookup y = some .local := k
      rcases h3 with h3 | h3 <;> rw [h3] at k <;> cases k
    · rw [h4] at e
      cases e
      exact ⟨u, r, z⟩
  cell := I.cell
  free := I.freeC
  len := I.len
theorem Cel.un {X : Cx} {σ : St} {fs ex : List Addr} {H H' : Hp} {h h' : Heap} (C : Cel X σ H h) (u : Un fs ex H H' h h') (hx : ∀ y c, X.env.cells.lookup y = some c → c ∉ ex) : Cel X σ H' h' := by
  have tr : ∀ y c v, X.env.cells.lookup y = some c → h.IsCell c v → h'.IsCell c v := fun y c v e ⟨o, ho, hd⟩ => by
    obtain ⟨sl, q⟩ := u.any ho (C.free y c e) (hx y c e)
    exact ⟨_, q, hd⟩
  exact ⟨C.inj, C.has, fun i y v c h1 h2 h3 h4 => by
    obtain ⟨w, r, q⟩ := C.val i y v c h1 h2 h3 h4
    exact ⟨w, r, tr y c _ h4 q⟩, fun y c e => let ⟨v, q⟩ := C.cell y c e; ⟨v, tr y c v e q⟩, fun y c e => by
    obtain ⟨v, o, ho, _⟩ := C.cell y c e
    exact u.free c o ho (C.free y c e) (hx y c e), C.len⟩
/-- a lambda as the text has it: dn its one parameter, of default 0, or none -/
structure LD where
  params : Arguments
  body : Expr
  scope : Scope
  dn : Option Str
/-- its names -/
structure LamS3 (N : List Str) (sc : Scope) (D : LD) : Prop where
  kind : D.scope.kind = .function
  co : D.scope.isCoroutine = false
  gen : D.scope.isGenerator = false
  own : ∀ y ∈ D.scope.names, y.2 ≠ .cell ∧ (y.2 = .local → y.1 ∉ N)
  free : ∀ y ∈ D.scope.names, y.2 = .free → sc.names.lookup y.1 = some .cell ∨ sc.names.lookup y.1 = some .free
  dl : ∀ n, D.dn = some n → D.scope.names.lookup n = some .local
def lamS3B (N : List Str) (sc : Scope) (D : LD) : Bool :=
  decide (D.scope.kind = .function) && !D.scope.isCoroutine && !D.scope.isGenerator && (D.scope.names.all fun y => !decide (y.2 = .cell) && (!decide (y.2 = .local) || !decide (y.1 ∈ N)) && (!decide (y.2 = .free) || decide (sc.names.lookup y.1 = some .cell) || decide (sc.names.lookup y.1 = some .free))) &&
    (match D.dn with
    | some n => decide (D.scope.names.lookup n = some .local)
    | none => true)
theorem lamS3_by {N : List Str} {sc : Scope} {D : LD} (h : lamS3B N sc D = true) : LamS3 N sc D := by
  unfold lamS3B at h
  simp only [Bool.and_eq_true, Bool.or_eq_true, Bool.not_eq_true', decide_eq_true_eq, decide_eq_false_iff_not, List.all_eq_true] at h
  obtain ⟨⟨⟨⟨h1, h2⟩, h3⟩, h4⟩, h5⟩ := h
  refine ⟨h1, h2, h3, fun y hy => ⟨(h4 y hy).1.1, fun e => ?_⟩, fun y hy e => ?_, fun n hn => ?_⟩
  · rcases (h4 y hy).1.2 with z | z
    · exact absurd e z
    · exact z
  · rcases (h4 y hy).2 with (z | z) | z
    · exact absurd e z
    · exact .inl z
    · exact .inr z
  · rw [hn] at h5
    exact of_decide_eq_true h5
/-- its arguments: none are handed in -/
structure LamB (D : LD) : Prop where
  none : D.dn = .none → ∀ (q : Str) (cl : List (Str × Addr)) (doc pm cv ctv : Value), bindArgs (PySem.W.kdv_fn "<lambda>" q D.params (.expr D.body) D.scope cl .none doc pm cv ctv) ⟨[], []⟩ = pure []
  some : ∀ n, D.dn = .some n → ∀ (q : Str) (cl : List (Str × Addr)) (T : Addr) (doc pm cv ctv : Value), ∃ k : Option (Array Value) → Sem (List (Str × Value)), bindArgs (PySem.W.kdv_fn "<lambda>" q D.params (.expr D.body) D.scope cl (.ref T) doc pm cv ctv) ⟨[], []⟩ = seqItems? (.ref T) >>= k ∧
    ∀ t, k (.some #[.int 0 t]) = pure [(n, .int 0 t)]
/-- o is the function object of D, made in the frame X; c its code object, oc that one's content -/
structure LamObj (X : Cx) (D : LD) (o : Obj) (c : Addr) (oc : Obj) : Prop where
  fn : ∃ dV doc pm ctv, o = PySem.W.kdv_obj "<lambda>" (X.env.qual ++ "<lambda>") D.params (.expr D.body) D.scope (cloFrom X.env.cells D.scope.names []) dV doc pm c ctv ∧ (match D.dn with
    | none => dV = .none
    | some _ => ∃ T, dV = .ref T)
  code : ∃ vs t, oc.data = .fields vs ∧ vs[1]? = some (.str (X.env.qual ++ "<lambda>") t)
/-- the defaults' tuple of a function object -/
def DefT (H : Hp) (o : Obj) : Prop := ∀ fd T, o.data = .func fd → fd.defaults = .ref T → H T = some (.tup [.int 0])
abbrev lamEnv3 (X : Cx) (D : LD) (L f c : Addr) : Env := PySem.W.envX (X.env.qual ++ "<lambda>") D.scope L f (.ref c) (cloFrom X.env.cells D.scope.names [])
/-- the context of its body -/
def lamCx3 (X : Cx) (D : LD) (A : Around) (outer : List Env) (s : Shared) (H : Hp) (E : XK) (f c : Addr) : Cx where
  prog := X.prog
  w := X.w
  K := X.K
  mg := X.mg
  base := X.base
  A := A.deeper (lamEnv3 X D s.heap.objs.size f c)
  N := X.N
  s_0 := s
  H_0 := H
  env := lamEnv3 X D s.heap.objs.size f c
  outer := outer
  stack := lamEnv3 X D s.heap.objs.size f c :: outer
  ex := []
  fn := fun _ => false
  calm := true
  pn := []
  xe := fun e s' => wpAny (model X.prog X.w) (A.deeper (lamEnv3 X D s.heap.objs.size f c)) (leaving (lamEnv3 X D s.heap.objs.size f c) e) (fun _ s'' => L2.CX X.prog X.w outer H s E e s'') (fun e' s'' => L2.CX X.prog X.w outer H s E e' s'') s'
section
variable {X : Cx} {σ : St} {D : LD}
theorem lam_start3 {A : Around} {outer : List Env} {H : Hp} {s : Shared} {E : XK} {f c' : Addr} {h₁ : Heap} {tk : Nat} {bs : List (Str × Value)} (C : Cel X σ H s.heap) (L : LamS3 X.N X.env.scope D) (e0 : Env0 X.prog X.w X.K X.mg X.base A outer s H) (hd : A.handled = none)
    (hns : h₁.Ns s.heap.objs.size fun y => bs.reverse.lookup y) (kp : ∀ b o, s.heap.get? b = some o → h₁.get? b = some o) :
    Inv (lamCx3 X D A outer s H E f c') [] σ H { s with heap := h₁, toks := tk } := by
  have hfree : ∀ y ∈ D.scope.names, y.2 = .free → ∃ c, X.env.cells.lookup y.1 = some c := fun y hy e => C.has _ (L.free y hy e)
  have cm : ∀ {y c}, (cloFrom X.env.cells D.scope.names []).lookup y = some c → X.env.cells.lookup y = some c := fun {y c} e => by
    rcases cloFrom_mem (PySem.mem_of_lookup e) with hm | ⟨h1, h2⟩
    · cases hm
    · obtain ⟨c1, hc⟩ := hfree _ h1 rfl
      have hc : X.env.cells.lookup y = some c1 := hc
      have e2 : c = c1 := by
        rw [h2, hc] <;> rfl
      rw [e2]
      exact hc
  have look : ∀ {y}, D.scope.names.lookup y = some .free → ∃ c, (cloFrom X.env.cells D.scope.names []).lookup y = some c := fun {y} hl => by
    have hy : (y, NameKind.free) ∈ D.scope.names := PySem.mem_of_lookup hl
    exact mem_lookup (cloFrom_has (cells := X.env.cells) (acc := []) hy)
  have noA : ∀ b : Addr, b ∉ (lamCx3 X D A outer s H E f c').ex := fun b z => absurd (show b ∈ ([] : List Addr) from z) (by simp)
  refine ⟨⟨e0.mod, L.kind, rfl, rfl, Nat.le_refl _, fun y z c e1 e2 => C.inj y z c (cm e1) (cm e2), fun y hy => ?_, fun y c z _ => ?_, fun _ => hd, Around.frames_deeper e0.frames, .inr ⟨rfl, rfl⟩, fun b z => absurd z (noA b), e0.bs, e0.bsz, fun b _ _ => noA b,
      fun b z => absurd z (noA b), e0.funs, e0.frf⟩,
    rfl, e0.bare, Un.kept kp, ⟨_, hns, fun i y v e1 e2 e3 => ?_⟩, fun y c e => ?_, e0.hok.fresh (Nat.le_refl _), fun y c e => ?_, fun q hq => absurd (show q ∈ ([] : List (Addr × Obj)) ++ [] from hq) (by simp), e0.hok.kept kp, C.len⟩
  · have hy : D.scope.names.lookup y = some .cell ∨ D.scope.names.lookup y = some .free := hy
    rcases hy with hy | hy
    · exact absurd rfl (L.own _ (PySem.mem_of_lookup hy)).1
    · exact look hy
  · have z : false = true := z
    cases z
  · have e3 : Vis D.scope y := e3
    have e1 : X.N[i]? = some y := e1
    rcases e3 with k | k | k
    · exact absurd (List.mem_of_getElem? e1) ((L.own _ (PySem.mem_of_lookup k)).2 rfl)
    · exact absurd rfl (L.own _ (PySem.mem_of_lookup k)).1
    · obtain ⟨c2, h2⟩ := look k
      obtain ⟨u, r, z⟩ := C.val i y v c2 e1 e2 (L.free _ (PySem.mem_of_lookup k) rfl) (cm h2)
      obtain ⟨o, ho, hdd⟩ := z
      exact ⟨u, r, .inr ⟨.inr k, c2, h2, o, kp _ _ ho, hdd⟩⟩
  · obtain ⟨v, o, ho, hdd⟩ := C.cell y c (cm e)
    exact ⟨v, o, kp _ _ ho, hdd⟩
  · exact C.free y c (cm e)
/-- x(), x the slot i -/
theorem pe_act3 {Z : Cx} {i k : Nat} {a : Str} {W : WX} {Ds : Nat → Option LD} {tb : Nat → XK → TE} {p1 p2 : Pos}
    (hP : Z.prog = X.prog) (hw : Z.w = X.w) (hK : Z.K = X.K) (hmg : Z.mg = X.mg) (hbs : Z.base = X.base) (hcal : Z.calm = true) (hex : Z.ex = []) (C : Cel X σ Z.H_0 Z.s_0.heap) (hb : ∀ j D, Ds j = some D → LamS3 X.N X.env.scope D ∧ LamB D) (tk : Takes Z W) (hr : Room (k + 1) Z.A)
    (hbody : ∀ j D, Ds j = some D → ∀ (A : Around) (outer : List Env) (s : Shared) (H : Hp) (E : XK) (f c' : Addr), Room k (A.deeper (lamEnv3 X D s.heap.objs.size f c')) → PE (lamCx3 X D A outer s H E f c') D.body (tb j E))
    (hN : Z.N[i]? = some a) (hv : Vis Z.env.scope a) (hd : (a == ("__debug__" : Str)) = false := by decide) (hcd : (a == ("__classdict__" : Str)) = false := by decide) :
    PE Z (.Call (.Name a p1) [] [] p2)
      (fun σZ HZ Q => ∃ j D f o c oc, Ds j = some D ∧ σZ[i]? = some (some (.ref f)) ∧ HZ f = some (.frz o (.own f)) ∧ HZ c = some (.frz oc (.own c)) ∧ LamObj X D o c oc ∧ DefT HZ o ∧ tb j (WE W σZ) σ HZ Q) := by
  refine ⟨fun pinsZ sZ σZ HZ Q IZ h => ?_⟩
  obtain ⟨j, D, f, o, c, oc, hj, hs, hf, hc, ob, dt, ht⟩ := h
  obtain ⟨L, B⟩ := hb j D hj
  refine wpAny_Call_Name_kw (thn ((pe_var (pos := p1) (i := i) hN hv hd hcd).run pinsZ sZ σZ HZ (fun v H1 => v = .ref f ∧ H1 = HZ) IZ ⟨.ref f, hs, rfl, rfl⟩) fun u s1 ⟨v, H1, I1, r1, q1⟩ => ?_)
  obtain ⟨ev, eH⟩ := q1
  subst ev
  rw [eH] at I1
  obtain rfl : u = Value.ref f := r1
  obtain ⟨of1, _⟩ := I1.hok f _ hf
  obtain ⟨oc1, _⟩ := I1.hok c _ hc
  obtain ⟨⟨dV, doc, pm, ctv, eo, hdV⟩, vs, t, hdc, hvc⟩ := ob
  subst eo
  refine PySem.W.callWith_F0 ⟨_, _, _, _, of1⟩ ?_
  have C1 : Cel X σ HZ s1.heap := C.un I1.base fun y c _ z => by rw [hex] at z; cases z
  obtain ⟨bs, hbs1, hbl⟩ : ∃ bs : List (Str × Value), BindsTo s1 (PySem.W.kdv_fn "<lambda>" (X.env.qual ++ "<lambda>") D.params (.expr D.body) D.scope (cloFrom X.env.cells D.scope.names []) dV doc pm (.ref c) ctv) ⟨[], []⟩ bs ∧ ∀ y ∈ bs, D.scope.names.lookup y.1 = some .local := by
    cases e : D.dn with
    | none =>
      rw [e] at hdV
      subst hdV
      exact ⟨[], .of_eq (B.none e _ _ _ _ _ _), fun y hy => nomatch hy⟩
    | some n =>
      rw [e] at hdV
      obtain ⟨T, rfl⟩ := hdV
      have hT : HZ T = some (.tup [.int 0]) := dt _ T rfl rfl
      obtain ⟨_, its, rv, oT, h1, h2, nn, h3⟩ := (show ObjOk Z.prog Z.w HZ s1.heap T (.tup [.int 0]) from I1.hok T _ hT)
      obtain ⟨u, rfl, tt, rfl⟩ := vals1 rv
      obtain ⟨kk, k1, k2⟩ := B.some n e (X.env.qual ++ "<lambda>") (cloFrom X.env.cells D.scope.names []) T doc pm (.ref c) ctv
      exact ⟨[(n, .int 0 tt)], .of_defaults rfl h1 h3 k1 (k2 tt), fun y hy => by
        rw [List.mem_singleton] at hy
        subst hy
        exact L.dl n e⟩
  have rc : codeAny (model X.prog X.w) Z.A (.call (.ref f) ⟨[], []⟩) (CR (L2.CX X.prog X.w) Z.stack X.prog X.w HZ s1 Q (WE W σZ)) s1 := by
    refine PySem.W.kla_callFunE hr.depth of1 rfl L.co L.gen rfl ⟨c, oc, vs, t, rfl, oc1, hdc, hvc⟩ (hbs1 _ _ _ _ ?_)
    refine wpAny_newFunctionEnv (fun y hy => (L.own y hy).1) hbl (fun h₁ hns hsb => ⟨I1.nolimit.fresh _ hsb, ?_⟩) L.kind
    show codeAny _ _ (.expr D.body (lamEnv3 X D s1.heap.objs.size f c)) _ _
    have kp : ∀ b o, s1.heap.get? b = some o → h₁.get? b = some o := fun b o e => hsb.extBut b o (Nat.ne_of_lt (Heap.lt_size e)) (Heap.get?_push_of_some _ e)
    have e0 : Env0 X.prog X.w X.K X.mg X.base Z.A Z.stack s1 HZ := by
      have := I1.env0
      rw [hP, hw, hK, hmg, hbs] at this
      exact this
    have J : Inv (lamCx3 X D Z.A Z.stack s1 HZ (WE W σZ) f c) [] σ HZ { s1 with heap := h₁, toks := s1.toks + bs.length } := lam_start3 C1 L e0 hr.hd hns kp
    refine PySem.W.kla_codeExpr (wpAny_mono ((hbody j D hj _ _ s1 HZ _ f c (hr.deeper _)).run [] _ _ HZ Q J ht) (fun v s' hq => ?_) fun e s' hq => hq)
    obtain ⟨w', H', J', rv, q⟩ := hq
    exact ⟨w', H', J'.os, J'.bare, J'.base, J'.hok, rv, q⟩
  have hx := passAt tk σZ
  refine wpAny_call (codeAny_mono (by rw [hP, hw]; exact rc) fun r s' hq => ?_)
  cases r with
  | error e => exact hx pinsZ HZ s1 e s' I1 (by rw [hP, hw]; exact hq)
  | ok fl =>
    cases fl with
    | ret u =>
      obtain ⟨v, H', J1, J2, J3, J4, J5, J6⟩ := hq
      exact I1.after ⟨v, H', J1, J2, J3, by rw [hP, hw]; exact J4, J5, J6⟩
    | next => exact False.elim hq
    | brk => exact False.elim hq
    | cont => exact False.elim hq
end
end L2

/-! CL22: lambdas made. -/
namespace L2
open PySem PySem.Spec PyProof.Rows
/-- the table at P: each code object that it tells is known, by the name q -/
def TabH (H : Hp) (P : Addr) (q : Str) : Prop := ∃ ps : Array Value, H P = some (.tbl ps) ∧ TriplesOk ps.toList ∧ ∀ (pos : Pos) (cv : Value), codeAmong pos ps.toList = some cv → ∃ (c : Addr) (oc : Obj) (vs : Array Value) (t : Tok), cv = .ref c ∧ H c = some (.frz oc (.own c)) ∧ oc.data = .fields vs ∧ vs[1]? = some (.str q t)
section
variable {X : Cx} {pins : List (Addr × Obj)} {σ : St} {H : Hp} {s : Shared}
theorem inv_table3 {P c : Addr} {oc : Obj} {ps more : Array Value} {h' : Heap} {t' : Nat} (I : Inv X pins σ H s) (hP : H P = some (.tbl ps)) (k : ∀ b o, b ≠ P → s.heap.get? b = some o → h'.get? b = some o)
    (hm : h'.get? P = some { cls := .none, data := .fields (ps ++ more) }) (hc : s.heap.objs.size ≤ c) (ho : h'.get? c = some oc) :
    Inv X pins σ (upd (upd H P (.tbl (ps ++ more))) c (.frz oc (.own c))) { s with heap := h', toks := t' } := by
  have nC : H c = none := I.hok.fresh hc
  have nPc : P ≠ c := ne_of_none hP nC
  have away : ∀ b, b ≠ P → b ≠ c → upd (upd H P (.tbl (ps ++ more))) c (.frz oc (.own c)) b = H b := fun b h1 h2 => by rw [upd_ne h2, upd_ne h1]
  have atP : upd (upd H P (.tbl (ps ++ more))) c (.frz oc (.own c)) P = some (.tbl (ps ++ more)) := by rw [upd_ne nPc, upd_same]
  have notP : ∀ b u, H b = some u → (∀ q, u ≠ .tbl q) → b ≠ P := fun b u e q z => by
    rw [z, hP] at e
    exact q ps (Option.some.inj e).symm
  have nN : ∀ b, H b = none → b ≠ P := fun b e z => by
    rw [z, hP] at e
    cases e
  have lt' : ∀ b o, s.heap.get? b = some o → b ≠ c := fun b o e z => by
    rw [z] at e
    exact Nat.lt_irrefl _ (Nat.lt_of_lt_of_le (Heap.lt_size e) hc)
  have sm : ∀ b u, H b = some u → b ≠ c := fun b u e => ne_of_none e nC
  refine I.step (g' := s.gens) (d' := s.drawn) (ch := []) (fun b hb => absurd hb (by simp)) (fun b o _ _ _ e n => k b o (nN b n) e) (fun b o _ _ _ e n => ⟨o.slots, k b o (nN b n) e⟩)
    (fun b o _ e n => by rw [away b (nN b n) (lt' b o e)]; exact n) (fun b o _ e => ?_) (fun b xs e => by rw [away b (notP b _ e (fun q z => by cases z)) (sm b _ e)]; exact e) (fun b o u e => by rw [away b (notP b _ e (fun q z => by cases z)) (sm b _ e)]; exact e) (fun b qs e => ?_) (fun m hn => ?_) (fun b u e => ?_) I.bare
  · by_cases hb : b = P
    · rw [hb]
      exact ⟨_, hm⟩
    · exact ⟨o, k b o hb e⟩
  · by_cases hb : b = P
    · rw [hb, hP] at e
      cases e
      rw [hb, atP]
      exact ⟨more, rfl⟩
    · rw [away b hb (sm b _ e), e]
      exact ⟨#[], by simp⟩
  · obtain ⟨ob, es, ep, ho, r⟩ := hn
    exact ⟨ob, es, ep, k _ ob (nN _ I.free) ho, r⟩
  · by_cases hb : b = c
    · rw [hb, upd_same] at e
      cases e
      rw [hb]
      exact ⟨ho, oc, ho⟩
    · by_cases hb2 : b = P
      · rw [hb2, atP] at e
        cases e
        rw [hb2]
        exact hm
      · rw [away b hb2 hb] at e
        refine (I.hok b u e).stay (fun d v hd q => k d v ?_ q) (fun d q => by rw [away d (notP d _ q (fun q z => by cases z)) (sm d _ q)]; exact q) fun d xs q => by rw [away d (notP d _ q (fun q z => by cases z)) (sm d _ q)]; exact q
        rcases hd with z | z
        · rw [z]
          exact hb2
        · exact notP d _ z (fun q z => by cases z)
/-- what is known behind the making -/
structure Made3 (X : Cx) (D : LD) (P : Addr) (H H' : Hp) (f c : Addr) (o oc : Obj) : Prop where
  keep : ∀ b u, H b = some u → b ≠ P → H' b = some u
  tab : TabH H' P (X.env.qual ++ "<lambda>")
  newF : H f = none
  atF : H' f = some (.frz o (.own f))
  atC : H' c = some (.frz oc (.own c))
  ob : LamObj X D o c oc
  dt : DefT H' o
theorem tail3 {D : LD} {c P : Addr} {dV : Value} {pos : Pos} {line : Nat} {E : Value → Shared → Prop} {Q : Value → Shared → Prop} (I : Inv X pins σ H s) (TB : LamX.TabB X.base X.mg c P) (hcode : X.env.code = .ref c) (hT : TabH H P (X.env.qual ++ "<lambda>"))
    (hdV : match D.dn with
      | none => dV = .none
      | some _ => ∃ T, dV = .ref T ∧ H T = some (.tup [.int 0])) (hfree : ∀ y ∈ D.scope.names, y.2 = .free → ∃ c, X.env.cells.lookup y.1 = some c)
    (h : ∀ (H' : Hp) (f c' : Addr) (o oc : Obj) (s' : Shared), Inv X pins σ H' s' → Made3 X D P H H' f c' o oc → Q (.ref f) s') :
    wpAny (model X.prog X.w) X.A (makeTail "<lambda>" (X.env.qual ++ "<lambda>") D.params (.expr D.body) D.scope X.env dV .none none pos line) Q E s := by
  obtain ⟨ps, hP, ht, ha⟩ := hT
  have bP : s.heap.BuiltinsAt X.mg P := TB.bm.keeps I.bk
  have hP' : s.heap.get? P = some { cls := .none, data := .fields ps } := I.hok P _ hP
  have hdV' : match D.dn with
      | none => dV = .none
      | some _ => ∃ T, dV = .ref T := by
    cases e : D.dn with
    | none => rw [e] at hdV; exact hdV
    | some n => rw [e] at hdV; obtain ⟨T, q, _⟩ := hdV; exact ⟨T, q⟩
  have dtH : ∀ (H' : Hp) doc pm c' ctv, (∀ b u, H b = some u → b ≠ P → H' b = some u) → DefT H' (PySem.W.kdv_obj "<lambda>" (X.env.qual ++ "<lambda>") D.params (.expr D.body) D.scope (cloFrom X.env.cells D.scope.names []) dV doc pm c' ctv) := fun H' doc pm c' ctv kp fd T e1 e2 => by
    cases e1
    have e2 : dV = .ref T := e2
    cases e : D.dn with
    | none => rw [e] at hdV; rw [hdV] at e2; cases e2
    | some n =>
      rw [e] at hdV
      obtain ⟨T', q1, q2⟩ := hdV
      rw [q1] at e2
      cases e2
      exact kp _ _ q2 fun z => by rw [z, hP] at q2; cases q2
  -- the function object is laid, its code object known
  have fin : ∀ (H1 : Hp) (h1 : Heap) (tk : Nat) (doc ctv : Value) (c' : Addr) (oc : Obj) (vs : Array Value) (t : Tok), Inv X pins σ H1 { s with heap := h1, toks := tk } → (∀ b u, H b = some u → b ≠ P → H1 b = some u) → (∀ b, H1 b = none → H b = none) → TabH H1 P (X.env.qual ++ "<lambda>") → H1 c' = some (.frz oc (.own c')) → oc.data = .fields vs → vs[1]? = some (.str (X.env.qual ++ "<lambda>") t) →
      Q (.ref h1.objs.size) { s with heap := h1.push (PySem.W.kdv_obj "<lambda>" (X.env.qual ++ "<lambda>") D.params (.expr D.body) D.scope (cloFrom X.env.cells D.scope.names []) dV doc ((X.mg "__name__").getD .none) c' ctv), toks := tk } := by
    intro H1 h1 tk doc ctv c' oc vs t I1 k1 n1 t1 hc hd hv
    have nf : H1 h1.objs.size = none := I1.hok.fresh (Nat.le_refl _)
    have gr : ∀ b u, H1 b = some u → upd H1 h1.objs.size (.frz (PySem.W.kdv_obj "<lambda>" (X.env.qual ++ "<lambda>") D.params (.expr D.body) D.scope (cloFrom X.env.cells D.scope.names []) dV doc ((X.mg "__name__").getD .none) c' ctv) (.own h1.objs.size)) b = some u := fun b u e => by rw [upd_ne (ne_of_none e nf)]; exact e
    have J := I1.laid (t' := tk) (a := h1.objs.size) (o := .frz (PySem.W.kdv_obj "<lambda>" (X.env.qual ++ "<lambda>") D.params (.expr D.body) D.scope (cloFrom X.env.cells D.scope.names []) dV doc ((X.mg "__name__").getD .none) c' ctv) (.own h1.objs.size)) (h' := h1.push (PySem.W.kdv_obj "<lambda>" (X.env.qual ++ "<lambda>") D.params (.expr D.body) D.scope (cloFrom X.env.cells D.scope.names []) dV doc ((X.mg "__name__").getD .none) c' ctv))
      (fun b o e => Heap.get?_push_of_some _ e) (Nat.le_refl _) ⟨Heap.get?_push_size _ rfl, _, Heap.get?_push_size _ rfl⟩
    have kk : ∀ b u, H b = some u → b ≠ P → upd H1 h1.objs.size (.frz (PySem.W.kdv_obj "<lambda>" (X.env.qual ++ "<lambda>") D.params (.expr D.body) D.scope (cloFrom X.env.cells D.scope.names []) dV doc ((X.mg "__name__").getD .none) c' ctv) (.own h1.objs.size)) b = some u := fun b u e n => gr b u (k1 b u e n)
    refine h _ h1.objs.size c' _ oc _ J ⟨kk, ?_, n1 _ nf, upd_same, gr _ _ hc, ⟨⟨dV, doc, _, ctv, rfl, hdV'⟩, vs, t, hd, hv⟩, dtH _ _ _ _ _ kk⟩
    obtain ⟨qs, q1, q2, q3⟩ := t1
    exact ⟨qs, gr _ _ q1, q2, fun p cv e => let ⟨c, oc, vs, t, e1, e2, e3, e4⟩ := q3 p cv e; ⟨c, oc, vs, t, e1, gr _ _ e2, e3, e4⟩⟩
  cases hc : codeAmong pos ps.toList with
  | none =>
    refine PySem.W.kdv_makeTail (mg := X.mg) (c := c) (P := P) (ps := ps) (closure_ok hfree) I.ok.glob (I.mod.glob.keeps I.bk) hcode (TB.code.keeps I.bk) hP' ht hc TB.gP bP fun c' ctv doc h' tk hx hge hlt hrec htb => ?_
    obtain ⟨c2, oc, vs, t, e2, hoc, hd, hv⟩ := hrec
    cases e2
    have nC : H c' = none := I.hok.fresh hge
    have I1 := inv_table3 (t' := tk) (more := #[rawInt pos.line, rawInt pos.col, .ref c']) (h' := h') I hP (fun b o hb e => hx b o hb e) htb hge hoc
    have kp : ∀ b u, H b = some u → b ≠ P → upd (upd H P (.tbl (ps ++ #[rawInt pos.line, rawInt pos.col, .ref c']))) c' (.frz oc (.own c')) b = some u := fun b u e n => by rw [upd_ne (ne_of_none e nC), upd_ne n]; exact e
    have eL : (ps ++ #[rawInt pos.line, rawInt pos.col, .ref c']).toList = ps.toList ++ [rawInt pos.line, rawInt pos.col, .ref c'] := by simp
    refine fin _ h' tk doc ctv c' oc vs t I1 kp (fun b e => ?_) ⟨_, by rw [upd_ne (ne_of_none hP nC), upd_same], by rw [eL]; exact PySem.TriplesOk_snoc _ _ _ _ ht, fun p' cv hcv => ?_⟩ upd_same hd hv
    · by_cases hb : b = c'
      · rw [hb, upd_same] at e; cases e
      · rw [upd_ne hb] at e
        by_cases hb2 : b = P
        · rw [hb2, upd_same] at e; cases e
        · rw [upd_ne hb2] at e; exact e
    · rw [eL] at hcv
      rcases LamX.among_app _ ht hcv with z | z
      · obtain ⟨c0, oc0, vs0, t0, e1, e2, e3, e4⟩ := ha p' cv z
        exact ⟨c0, oc0, vs0, t0, e1, kp _ _ e2 (fun z => by rw [z, hP] at e2; cases e2), e3, e4⟩
      · exact ⟨c', oc, vs, t, z, upd_same, hd, hv⟩
  | some cv =>
    obtain ⟨c', oc, vs, t, e, hco, hd, hv⟩ := ha pos cv hc
    subst e
    refine PySem.W.kdv_makeTailHit (mg := X.mg) (c := c) (P := P) (ps := ps) (closure_ok hfree) I.ok.glob (I.mod.glob.keeps I.bk) hcode (TB.code.keeps I.bk) hP' ht hc bP fun ctv doc h' tk hx hsz => ?_
    exact fin H h' tk doc ctv c' oc vs t (I.kept hx) (fun b u e _ => e) (fun b e => e) ⟨ps, hP, ht, ha⟩ hco hd hv
/-- its default is written -/
structure LamW (D : LD) : Prop where
  kw : D.params.kw_defaults = []
  none : D.dn = .none → D.params.defaults = []
  some : ∀ n, D.dn = .some n → ∃ k p, D.params.defaults = [.Constant (.int 0) k p]
theorem pe_lam3 {D : LD} {c P : Addr} {pos : Pos} (TB : LamX.TabB X.base X.mg c P) (hcode : X.env.code = .ref c) (L : LamS3 X.N X.env.scope D) (Wr : LamW D) :
    PE X (.Lambda D.params D.body D.scope pos) (fun σ H Q => TabH H P (X.env.qual ++ "<lambda>") ∧ ∀ H' f c' o oc, Made3 X D P H H' f c' o oc → Q (.ref f) H') := by
  refine ⟨fun pins s σ H Q I h => ?_⟩
  obtain ⟨hT, h⟩ := h
  have hfree : ∀ y ∈ D.scope.names, y.2 = .free → ∃ c, X.env.cells.lookup y.1 = some c := fun y hy e => I.ok.has _ (L.free y hy e)
  have hkw := Wr.kw
  cases e : D.dn with
  | none =>
    have hdf := Wr.none e
    rw [arm_eval_Lambda, defaultsOf_eq, hkw, hdf]
    show wpAny _ _ (do let dv ← evalAll []; let kdv ← holding dv (evalAllOpt []); makeFunction "<lambda>" (X.env.qual ++ "<lambda>") D.params (.expr D.body) D.scope X.env dv kdv [] pos pos.line) _ _ s
    refine wpAny_bind (wpAny_pure (wpAny_bind (wpAny_holding (wpAny_pure ?_))))
    rw [makeFunction_eq]
    simp only [List.zip_nil_right, List.filterMap_nil, List.isEmpty_nil, if_true, pure_bind]
    exact tail3 I TB hcode hT (by rw [e]) hfree fun H' f c' o oc s' I' m => ⟨.ref f, H', I', rfl, h H' f c' o oc m⟩
  | some n =>
    obtain ⟨k, p, hdf⟩ := Wr.some n e
    rw [arm_eval_Lambda, defaultsOf_eq, hkw, hdf]
    show wpAny _ _ (do let dv ← evalAll (evalEach [.Constant (.int 0) k p] X.env); let kdv ← holding dv (evalAllOpt []); makeFunction "<lambda>" (X.env.qual ++ "<lambda>") D.params (.expr D.body) D.scope X.env dv kdv [] pos pos.line) _ _ s
    refine wpAny_bind ?_
    refine PySem.W.kdv_all1 ?_
    refine thn ((pe_int (X := X) (i := 0) (j := k) (pos := p)).run pins s σ H (fun v H1 => v = .int 0 ∧ H1 = H) I ⟨rfl, rfl⟩) fun u s1 ⟨v, H1, I1, r1, ev, eH⟩ => ?_
    subst ev
    rw [eH] at I1
    obtain ⟨t, rfl⟩ := r1
    refine PySem.W.kdv_all0 (wpAny_bind (wpAny_holding (wpAny_pure ?_)))
    rw [makeFunction_eq]
    simp only [List.zip_nil_right, List.filterMap_nil, List.isEmpty_nil, if_true, pure_bind, List.isEmpty_cons, Bool.false_eq_true, if_false]
    refine wpAny_bind (wpAny_newTextTuple ?_)
    have nT : H s1.heap.objs.size = none := I1.hok.fresh (Nat.le_refl _)
    have gr : ∀ b u, H b = some u → upd H s1.heap.objs.size (.tup [.int 0]) b = some u := fun b u e => by rw [upd_ne (ne_of_none e nT)]; exact e
    have I2 : Inv X pins σ (upd H s1.heap.objs.size (.tup [.int 0])) { s1 with heap := s1.heap.push (PySem.W.kdv_tup [.int 0 t]) } := I1.laid (t' := s1.toks) (fun b o e => Heap.get?_push_of_some _ e) (Nat.le_refl _) ⟨by show 1 ≤ sizeLine; decide, [.int 0 t], .cons ⟨t, rfl⟩ .nil, ⟨_, Heap.get?_push_size _ rfl, rfl, _, rfl⟩⟩
    have hT2 : TabH (upd H s1.heap.objs.size (.tup [.int 0])) P (X.env.qual ++ "<lambda>") := by
      obtain ⟨qs, q1, q2, q3⟩ := hT
      exact ⟨qs, gr _ _ q1, q2, fun p cv e => let ⟨c, oc, vs, t, e1, e2, e3, e4⟩ := q3 p cv e; ⟨c, oc, vs, t, e1, gr _ _ e2, e3, e4⟩⟩
    refine tail3 (s := { s1 with heap := s1.heap.push (PySem.W.kdv_tup [.int 0 t]) }) I2 TB hcode hT2 (by rw [e]; exact ⟨_, rfl, upd_same⟩) hfree fun H' f c' o oc s' I' m => ⟨.ref f, H', I', rfl, h H' f c' o oc ⟨fun b u e n => m.keep b u (gr b u e) n, m.tab, ?_, m.atF, m.atC, m.ob, m.dt⟩⟩
    have z := m.newF
    by_cases hb : f = s1.heap.objs.size
    · rw [hb, upd_same] at z; cases z
    · rw [upd_ne hb] at z; exact z
end
end L2

/-! CL23: lambdas in the clean layer: made; told (called under try .. except .. as e by the def that gets them). -/
namespace CL
open PySem L2 PyProof.Rows
variable {g : G} {W : WX} {M : Addr → Prop} {μ μ' μ1 μ2 : List Addr} {H H' H0 H1 H2 : Hp} {σ σ1 σ2 : L2.St} {cs cs' cs1 cs2 : CSt} {X : Cx}
/-! ### made -/
def eLam (lP i : Nat) : CM RV := fun cs => match cs.h[lP]? with
  | some .tbl => .ok (.pv (.clo i [])) cs
  | _ => .stuck
theorem se_lam {i lP : Nat} {D : LD} {c : Addr} {pos : Pos} (TB : LamX.TabB X.base X.mg c g.tP) (hcode : X.env.code = .ref c) (L : LamS3 X.N X.env.scope D) (Wr : LamW D) (hq : g.lq = X.env.qual ++ "<lambda>") (hPhi : ∀ o c oc, LamObj X D o c oc → g.Phi i o c oc) :
    SE X g W (.Lambda D.params D.body D.scope pos) (eLam lP i) := PE.mono (pe_lam3 TB hcode L Wr) fun σ H Q h => by
  obtain ⟨μ, cs, rel, o⟩ := h
  unfold eLam at o
  split at o
  · rename_i el
    obtain ⟨a, ea⟩ : ∃ a, μ[lP]? = some a := ⟨_, List.getElem?_eq_getElem (by rw [rel.hp.len]; exact (List.getElem?_eq_some_iff.mp el).1)⟩
    obtain ⟨e1, ps, h1, h2, h3⟩ : ObjRel g μ H .tbl a := rel.hp.obj lP _ a el ea
    subst e1
    rw [hq] at h3
    refine ⟨⟨ps, h1, h2, h3⟩, fun H' f c' o' oc m => ?_⟩
    obtain ⟨qs, q1, q2, q3⟩ := m.tab
    -- the step: what stood stands, the table has grown
    have st : Stays μ H μ H' := ⟨fun b xs e => m.keep b _ e (fun z => by (rw [z, h1] at e; cases e)), fun b o u e => m.keep b _ e (fun z => by (rw [z, h1] at e; cases e)), fun b u e => m.keep b _ e (fun z => by (rw [z, h1] at e; cases e)), fun _ _ e => e⟩
    have mdP : Md μ cs.sl σ g.tP := .inl (List.mem_of_getElem? ea)
    have relH : Rel g μ cs σ H' := by
      refine ⟨⟨rel.hp.len, rel.hp.nd, fun l u b z1 z2 => ?_⟩, rel.len, fun j s v z1 z2 => ?_, rel.ap⟩
      · by_cases hl : l = lP
        · subst hl
          rw [el] at z1
          rw [ea] at z2
          cases z1; cases z2
          exact ⟨rfl, qs, q1, q2, by rw [hq]; exact q3⟩
        · have nb : b ≠ g.tP := fun z => hl ((List.getElem?_inj (List.getElem?_eq_some_iff.mp z2).1 rel.hp.nd).mp (by rw [z2, ea, z]))
          exact (rel.hp.obj l u b z1 z2).stays st fun w hw => m.keep b w hw nb
      · have q := rel.sl j s v z1 z2
        cases s with
        | emp => trivial
        | pv p => obtain ⟨x, e, q⟩ := q; exact ⟨x, e, q.stays st⟩
        | own d =>
          obtain ⟨b, e2, q3, nb⟩ := q
          exact ⟨b, e2, q3.stays st fun w hw => m.keep b w hw fun z => nb (by rw [z]; exact List.mem_of_getElem? ea), nb⟩
        | exn y => obtain ⟨a, cl, d, z1, z2, z3⟩ := q; exact ⟨a, cl, d, z1, z2, z3.stays st⟩
    have fc : Fct g (Md μ cs.sl σ) μ H μ cs σ H' := ⟨relH, ⟨fun b u e n => m.keep b u e fun z => n (z ▸ mdP), fun b hb => .inl hb⟩, fun _ _ e => e⟩
    exact o μ H' fc _ (.clo (hPhi _ _ _ m.ob) m.atF m.atC m.dt)
  · exact o.elim
/-! ### another eye on exceptions -/
def G.withX (g : G) (x : Option (Addr × Value × Option Addr)) : G := { g with xa := x }
section
variable {x : Option (Addr × Value × Option Addr)}
mutual
theorem PVRel.toX : ∀ {p : PV} {v : V}, PVRel g μ H p v → PVRel (g.withX x) μ H p v
  | _, _, .non => .non
  | _, _, .bl b => .bl b
  | _, _, .int i => .int i
  | _, _, .str i => .str i
  | _, _, .tup h r => .tup h (PVsRel.toX r)
  | _, _, .lst h r => .lst h (PVsRel.toX r)
  | _, _, .loc h => .loc h
  | _, _, .clo h r q d => .clo h r q d
theorem PVsRel.toX : ∀ {p : List PV} {v : List V}, PVsRel g μ H p v → PVsRel (g.withX x) μ H p v
  | _, _, .nil => .nil
  | _, _, .cons h r => .cons (PVRel.toX h) (PVsRel.toX r)
end
mutual
theorem PVRel.ofX : ∀ {p : PV} {v : V}, PVRel (g.withX x) μ H p v → PVRel g μ H p v
  | _, _, .non => .non
  | _, _, .bl b => .bl b
  | _, _, .int i => .int i
  | _, _, .str i => .str i
  | _, _, .tup h r => .tup h (PVsRel.ofX r)
  | _, _, .lst h r => .lst h (PVsRel.ofX r)
  | _, _, .loc h => .loc h
  | _, _, .clo h r q d => .clo h r q d
theorem PVsRel.ofX : ∀ {p : List PV} {v : List V}, PVsRel (g.withX x) μ H p v → PVsRel g μ H p v
  | _, _, .nil => .nil
  | _, _, .cons h r => .cons (PVRel.ofX h) (PVsRel.ofX r)
end
theorem ContRel.toX {c : Cont} {a : Addr} (h : ContRel g μ H c a) : ContRel (g.withX x) μ H c a := by
  cases c with
  | list xs => obtain ⟨vs, h1, h2⟩ := h; exact ⟨vs, h1, h2.toX⟩
  | dict kvs =>
    rcases h with ⟨kv, h1, h2⟩ | ⟨o, h1, h2, z, xs, h3, h4, h5, h6⟩
    · exact .inl ⟨kv, h1, Paired.imp h2 fun _ _ q => ⟨q.1, q.2.toX⟩⟩
    · exact .inr ⟨o, h1, h2, z, xs, h3, h4, h5, Paired.imp h6 fun _ _ q => ⟨q.1, q.2.1.toX, let ⟨v, a, b⟩ := q.2.2; ⟨v, a, b.toX⟩⟩⟩
theorem ContRel.ofX {c : Cont} {a : Addr} (h : ContRel (g.withX x) μ H c a) : ContRel g μ H c a := by
  cases c with
  | list xs => obtain ⟨vs, h1, h2⟩ := h; exact ⟨vs, h1, h2.ofX⟩
  | dict kvs =>
    rcases h with ⟨kv, h1, h2⟩ | ⟨o, h1, h2, z, xs, h3, h4, h5, h6⟩
    · exact .inl ⟨kv, h1, Paired.imp h2 fun _ _ q => ⟨q.1, q.2.ofX⟩⟩
    · exact .inr ⟨o, h1, h2, z, xs, h3, h4, h5, Paired.imp h6 fun _ _ q => ⟨q.1, q.2.1.ofX, let ⟨v, a, b⟩ := q.2.2; ⟨v, a, b.ofX⟩⟩⟩
theorem HRel.toX {h : List CO} (r : HRel g μ h H) : HRel (g.withX x) μ h H := ⟨r.len, r.nd, fun l o a h1 h2 => by
  have q := r.obj l o a h1 h2
  cases o with
  | cont c => exact ContRel.toX q
  | inst cls fs => obtain ⟨dx, fv, e1, e2⟩ := q; exact ⟨dx, fv, e1, Paired.imp e2 fun _ _ q => ⟨q.1, q.2.toX⟩⟩
  | tbl => exact q⟩
theorem HRel.ofX {h : List CO} (r : HRel (g.withX x) μ h H) : HRel g μ h H := ⟨r.len, r.nd, fun l o a h1 h2 => by
  have q := r.obj l o a h1 h2
  cases o with
  | cont c => exact ContRel.ofX q
  | inst cls fs => obtain ⟨dx, fv, e1, e2⟩ := q; exact ⟨dx, fv, e1, Paired.imp e2 fun _ _ q => ⟨q.1, q.2.ofX⟩⟩
  | tbl => exact q⟩
theorem ExcRel.toX {y : PExc} {cls : Value} {d : Option Addr} (h : ExcRel g μ H y cls d) : ExcRel (g.withX x) μ H y cls d := by
  obtain ⟨c, arg⟩ := y
  cases arg with
  | none => exact h
  | some q => obtain ⟨h1, dx, v, h2, h3, h4⟩ := h; exact ⟨h1, dx, v, h2, h3, h4.toX⟩
end
/-! ### told -/
/-- slots without own things -/
def maskS : SV → SV
  | .pv p => .pv p
  | _ => .emp
def maskC (sl : List SV) : List SV := sl.map maskS
def exnS (n i : Nat) (x : PExc) : List SV := (List.replicate n .emp).set i (.exn x)
def lamF (mi : CM RV) (sl : List SV) (h : List CO) : FRes := finF (sRet mi ⟨maskC sl, h⟩)
/-- what the teller gives -/
def toldF (n i : Nat) (em : EM) (ms : CM Fl) (r : FRes) : FRes := match r with
  | .exc x h => match em x.cls with
    | some true => match finF (ms ⟨exnS n i x, h⟩) with
      | .exc _ _ => .stuck
      | r' => r'
    | _ => .stuck
  | r' => r'
def eTold (bodies : Nat → Option (CM RV)) (n i : Nat) (em : EM) (ms : CM Fl) (ma : CM PV) : CM RV := do
  let p ← ma
  match p with
  | .clo j _ => match bodies j with
    | some mi => fun cs => liftF (toldF n i em ms (lamF mi cs.sl cs.h)) cs
    | none => stuck
  | _ => stuck
theorem mask_rel (r : Rel g μ cs σ H) : Rel g μ ⟨maskC cs.sl, cs.h⟩ σ H := by
  refine ⟨r.hp, by show (maskC cs.sl).length = _; unfold maskC; rw [List.length_map]; exact r.len, fun i s v h1 h2 => ?_, fun i j c d a h1 h2 h3 h4 => ?_⟩
  · have h1 : (maskC cs.sl)[i]? = some s := h1
    unfold maskC at h1
    rw [List.getElem?_map, Option.map_eq_some_iff] at h1
    obtain ⟨s0, e, rfl⟩ := h1
    have q := r.sl i s0 v e h2
    cases s0 with
    | pv p => exact q
    | _ => trivial
  · have h1 : (maskC cs.sl)[i]? = some (.own c) := h1
    unfold maskC at h1
    rw [List.getElem?_map, Option.map_eq_some_iff] at h1
    obtain ⟨s0, e, z⟩ := h1
    cases s0 <;> cases z
theorem mask_md {a : Addr} (m : Md μ (maskC cs.sl) σ a) : a ∈ μ := by
  rcases m with m | ⟨i, c, h1, h2⟩
  · exact m
  · exfalso
    unfold maskC at h1
    rw [List.getElem?_map, Option.map_eq_some_iff] at h1
    obtain ⟨s0, e, z⟩ := h1
    cases s0 <;> cases z
/-- the outcome of a body from slots that own nothing -/
theorem body_outG {sl : List SV} {h : List CO} {m : CM Fl} {Q : VK} {E : XK} (r : Rel g μ ⟨sl, h⟩ σ H) (nm : ∀ a, Md μ sl σ a → a ∈ μ) (o : OutF g μ H (finF (m ⟨sl, h⟩)) Q E) :
    OutS g (fun cls d _ H => E cls d H) (Md μ sl σ) μ H (m ⟨sl, h⟩) { nx := fun _ H' => Q .non H', rt := Q } := by
  have ff : ∀ {μ' : List Addr} {cs' : CSt} {σ' : L2.St} {H' : Hp}, Fct g (Md μ sl σ) μ H μ' cs' σ' H' → FFct g μ H μ' cs'.h H' := fun {μ' cs' σ' H'} k =>
    ⟨k.rel.hp, ⟨fun a o e n => k.keep.k1 a o e fun m => n (nm a m), fun a m => by
      rcases k.keep.k2 a (.inl m) with z | z
      · exact .inl (nm a z)
      · exact .inr z⟩, k.ext⟩
  cases e : m ⟨sl, h⟩ with
  | stuck => rw [e] at o; exact o
  | exc x cs' => rw [e] at o; exact fun μ' σ' H' cls d k q => o μ' H' cls d (ff k) q
  | ok f cs' =>
    rw [e] at o
    cases f with
    | nx => exact fun μ' σ' H' k => o μ' H' .non (ff k) .non
    | rt rv =>
      intro μ' σ' H' v k rvr
      have ff := ff k
      cases rv with
      | pv p => exact o μ' H' v ff rvr
      | own c =>
        obtain ⟨a, rfl, q, n2, av⟩ := rvr
        refine o μ' H' _ ff ⟨a, rfl, q, fun z => n2 (.inl z), ?_⟩
        rcases av with z | z
        · exact .inl (nm a z)
        · exact .inr z
      | als i =>
        have es : σ'[i]? = some (some v) := rvr
        simp only [finF] at o
        split at o
        · rename_i p ep
          obtain ⟨x, ex, q⟩ := k.rel.sl i _ _ ep es
          cases ex
          exact o μ' H' _ ff q
        · rename_i c ec
          obtain ⟨a, ea, q, na⟩ := k.rel.sl i _ _ ec es
          cases ea
          refine o μ' H' _ ff ⟨a, rfl, q, na, ?_⟩
          rcases k.keep.k2 a (.inr ⟨i, c, ec, es⟩) with z | z
          · exact .inl (nm a z)
          · exact .inr z
        · exact o.elim
theorem lift_out {r : FRes} {Q : VK} (k : Fct g M μ H μ1 cs1 σ H1) (o : Out g W M μ H σ (liftF r cs1) fun rv cs' μ' H' => ∀ v, RVRel g M H μ' cs' σ H' rv v → Q v H') : OutF g μ1 H1 r Q (WE W σ) := by
  cases r with
  | stuck => exact o
  | exc x h' => exact fun μ' H' cls d f q => o μ' H' cls d (call_fct k f) q
  | ok rv h' =>
    intro μ' H' v f q
    have kk := call_fct k f
    cases rv with
    | pv p => exact o μ' H' kk v q
    | own c =>
      obtain ⟨a, rfl, q, na, av⟩ := q
      refine o μ' H' kk _ ⟨a, rfl, q, fun hm => ?_, ?_⟩
      · rcases hm with hm | ⟨i, d, h1, h2⟩
        · exact na hm
        · obtain ⟨b, eb, qb, nb⟩ := k.rel.sl i _ _ h1 h2
          cases eb
          rcases av with z | z
          · exact nb z
          · obtain ⟨o', ho, _⟩ := qb.mut
            rw [ho] at z; cases z
      · rcases av with z | z
        · exact k.keep.k2 a (.inl z)
        · exact avail k.keep z
end CL

/-! CL24: told. -/
namespace CL
open PySem L2 PyProof.Rows
variable {g : G} {W : WX} {M : Addr → Prop} {μ μ' μ1 μ2 : List Addr} {H H' H0 H1 H2 : Hp} {σ σ1 σ2 : L2.St} {cs cs' cs1 cs2 : CSt} {X : Cx}
theorem FFct.trans {h1 h2 : List CO} (a : FFct g μ H μ1 h1 H1) (b : FFct g μ1 H1 μ2 h2 H2) : FFct g μ H μ2 h2 H2 := ⟨b.rel, a.keep.trans b.keep, fun l c e => b.ext l c (a.ext l c e)⟩
theorem FFct.ofX {x : Option (Addr × Value × Option Addr)} {h1 : List CO} (a : FFct (g.withX x) μ H μ1 h1 H1) : FFct g μ H μ1 h1 H1 := ⟨a.rel.ofX, a.keep, a.ext⟩
theorem fv_back {x : Option (Addr × Value × Option Addr)} {h1 : List CO} {rv : FV} {v : V} (a : FFct g μ H μ1 h1 H1) (b : FVRel (g.withX x) μ1 H1 μ2 H2 rv v) : FVRel g μ H μ2 H2 rv v := by
  cases rv with
  | pv p => exact b.ofX
  | own c =>
    obtain ⟨t, e, q, n, av⟩ := b
    refine ⟨t, e, q.ofX, n, ?_⟩
    rcases av with z | z
    · exact a.keep.k2 t z
    · by_cases hm : t ∈ μ
      · exact .inl hm
      · cases hq : H t with
        | none => exact .inr rfl
        | some o => rw [a.keep.k1 t o hq hm] at z; cases z
/-- the slots where the suite begins -/
theorem exn_start {n i : Nat} {h' : List CO} {N : List Str} {v : V} {a : Addr} {cls : Value} {d : Option Addr} {y : PExc} (hn : N.length = n) (h1 : 1 ≤ n) (hp : HRel g μ h' H) (he : ExcRel g μ H y cls d) :
    Rel (g.withX (some (a, cls, d))) μ ⟨exnS n i y, h'⟩ ((L2.start N [v]).set i (some (.ref a))) H := by
  refine ⟨hp.toX, ?_, fun j s w z1 z2 => ?_, fun j k c d2 b z1 z2 z3 z4 => ?_⟩
  · show (exnS n i y).length = _
    unfold exnS L2.start
    simp
    omega
  · have z1 : ((List.replicate n SV.emp).set i (.exn y))[j]? = some s := z1
    by_cases hj : i = j
    · subst hj
      rw [List.getElem?_set] at z1 z2
      simp only [if_true] at z1 z2
      split at z1
      · split at z2
        · cases z1; cases z2
          exact ⟨a, cls, d, rfl, rfl, he.toX⟩
        · cases z2
      · cases z1
    · rw [List.getElem?_set_ne hj, List.getElem?_replicate] at z1
      split at z1
      · cases z1; trivial
      · cases z1
  · exfalso
    have z1 : ((List.replicate n SV.emp).set i (.exn y))[j]? = some (.own c) := z1
    by_cases hj : i = j
    · subst hj
      rw [List.getElem?_set] at z1
      simp only [if_true] at z1
      split at z1 <;> cases z1
    · rw [List.getElem?_set_ne hj, List.getElem?_replicate] at z1
      split at z1 <;> cases z1
theorem exn_md {n i : Nat} {N : List Str} {σ' : L2.St} {y : PExc} {b : Addr} (m : Md μ (exnS n i y) σ' b) : b ∈ μ := by
  rcases m with m | ⟨j, c, z1, _⟩
  · exact m
  · exfalso
    have z1 : ((List.replicate n SV.emp).set i (.exn y))[j]? = some (.own c) := z1
    by_cases hj : i = j
    · subst hj
      rw [List.getElem?_set] at z1
      simp only [if_true] at z1
      split at z1 <;> cases z1
    · rw [List.getElem?_set_ne hj, List.getElem?_replicate] at z1
      split at z1 <;> cases z1
def tbOf (g : G) (bodies : Nat → Option (CM RV)) (j : Nat) (E : XK) : TE := match bodies j with
  | some mj => tOf g (fun cls d _ H => E cls d H) mj
  | none => fun _ _ _ => False
/-- the teller: def x(a): try: return a() except B as e: suite -/
structure Teller (X : Cx) (g : G) (k : Nat) (x : Str) (n iE : Nat) (em : EM) (ms : CM Fl) : Prop where
  ex : ∃ (a bx en : Str) (N : List Str) (scope : Scope) (params : Arguments) (gA B : Addr) (fd : FuncData) (p1 p2 p3 np pos pos' : Pos) (b₀ : Stmt) (suite : List Stmt),
    X.mg x = some (.ref gA) ∧ FunD X.K x x params [.Try [.Return (some (.Call (.Name a p1) [] [] p2)) p3] [.ExceptHandler (some (.Name bx np)) (some en) (b₀ :: suite) pos'] [] [] pos] scope [] [] gA fd ∧
    L2.Binds X.K fd [a] [] ∧ FnScope N [a] scope ∧ N.length = n ∧ N[0]? = some a ∧ Vis scope a ∧ (a == ("__debug__" : Str)) = false ∧ (a == ("__classdict__" : Str)) = false ∧ N[iE]? = some en ∧ scope.names.lookup en = some .local ∧
    scope.names.lookup bx = some .globalImplicit ∧ (bx == ("__debug__" : Str)) = false ∧ X.mg bx = some (.ref B) ∧ (∀ m b, em m = some b → PySem.W.exmOne X.K (.ref (g.ct m)) (.ref B) = some b) ∧
    ∀ (cdv : Value) (A : Around) (outer : List Env) (s : Shared) (H : Hp) (a0 : Addr) (oe : Obj) (cls : Value) (d : Option Addr) (pn : List (Addr × Obj)), Room k (A.deeper (envOfC x scope s.heap.objs.size gA cdv)) → Zc cls d oe → (∃ vs, oe.data = .fields vs) →
      SSs ((cxOf C8.CX0 X.prog X.w X.K X.mg X.base N x scope gA cdv A outer s H C8.E0).suite a0 ((a0, oe) :: pn)) (g.withX (some (a0, cls, d))) W0 (b₀ :: suite) ms
section
variable {Ds : Nat → Option LD} {bodies : Nat → Option (CM RV)} {k n iE : Nat} {em : EM} {ms : CM Fl} {x : Str}
theorem told_core {Y : Cx} {pins : List (Addr × Obj)} {σY : L2.St} {s1 : Shared} {j : Nat} {D : LD} {mi : CM RV} {f c : Addr} {o oc : Obj} {Q : VK} (hP : Y.prog = X.prog) (hw : Y.w = X.w) (hK : Y.K = X.K) (hmg : Y.mg = X.mg) (hbs : Y.base = X.base)
    (T : Teller X g (k + 1) x n iE em ms) (hr : Room (k + 2) Y.A) (hb : ∀ j D, Ds j = some D → LamS3 X.N X.env.scope D ∧ LamB D)
    (hbody : ∀ j D, Ds j = some D → ∃ mj, bodies j = some mj ∧ ∀ (A : Around) (outer : List Env) (s : Shared) (H : Hp) (E : XK) (f c' : Addr), Room k (A.deeper (lamEnv3 X D s.heap.objs.size f c')) → SE (lamCx3 X D A outer s H E f c') g (fun cls d _ H => E cls d H) D.body mj)
    (I : L2.Inv Y pins σY H1 s1) (C : Cel X σ H1 s1.heap) (hj : Ds j = some D) (hm : bodies j = some mi) (hf : H1 f = some (.frz o (.own f))) (hc : H1 c = some (.frz oc (.own c))) (ob : LamObj X D o c oc) (dt : DefT H1 o)
    (rel : Rel g μ1 cs1 σ H1) (oF : OutF g μ1 H1 (toldF n iE em ms (lamF mi cs1.sl cs1.h)) Q fun _ _ _ => False) :
    ∃ gA, X.mg x = some (.ref gA) ∧ PySem.W.keepIn X.K (.ref gA) = true ∧ wpAny (model Y.prog Y.w) Y.A (call (.ref gA) [.ref f]) (EP Y pins σY Q) Y.xe s1 := by
  obtain ⟨a, bx, en, N, scope, params, gA, B, fd, p1, p2, p3, np, pos, pos', b₀, suite, hmx, FT, bT, S, hn, hNa, hva, hda, hca, hNe, hle, hgb, hdb, hmb, hem, hsu⟩ := T.ex
  refine ⟨gA, hmx, FT.kp, ?_⟩
  obtain ⟨ocl, od, dV, kV, doc, pm, an, cdv, ct, osl, efd, lk, hcd, hD, hKw⟩ := FT.ex
  subst efd
  have e0 : Env0 X.prog X.w X.K X.mg X.base Y.A Y.stack s1 H1 := by
    have := I.env0
    rw [hP, hw, hK, hmg, hbs] at this
    exact this
  have bb := bT s1 [.ref f] (by rw [← hK]; exact I.kIn) (by rfl)
  rw [List.append_nil] at bb
  have h1n : 1 ≤ n := by
    rw [← hn]
    exact (List.getElem?_eq_some_iff.mp hNa).1
  have rc : codeAny (model X.prog X.w) Y.A (.call (.ref gA) ⟨[.ref f], []⟩) (CR C8.CX0 Y.stack X.prog X.w H1 s1 Q C8.E0) s1 := by
    refine LamX.run_ofS (N := N) (ps := [a]) (us := [.ref f]) (vs := [.ref f]) lk hcd S hr e0 bb (.cons rfl .nil) rfl fun hr' => ?_
    refine ⟨_, pss_one (ps_try_as (X := cxOf C8.CX0 X.prog X.w X.K X.mg X.base N x scope gA cdv Y.A Y.stack s1 H1 C8.E0) (i := iE) (c := .ref B) (n := en)
      (tb := fun W => tRet fun σZ HZ Q => ∃ j D f o c oc, Ds j = some D ∧ σZ[0]? = some (some (.ref f)) ∧ HZ f = some (.frz o (.own f)) ∧ HZ c = some (.frz oc (.own c)) ∧ LamObj X D o c oc ∧ DefT HZ o ∧ tbOf g bodies j (WE W σZ) σ HZ Q)
      (ts := fun a0 cls d => tOfS (g.withX (some (a0, cls, d))) W0 ms)
      rfl rfl S.nd hNe (by show Env.kindOf _ en = _; exact hle) ⟨hgb, hdb, .inl hmb⟩ takes0 (fun W pn xe tk _ => ?_) (fun a0 oe cls d pn hz hf => ?_)), ?_⟩
    · refine pss_one (ps_ret (pe_act3 (X := X) (σ := σ) (Z := (cxOf C8.CX0 X.prog X.w X.K X.mg X.base N x scope gA cdv Y.A Y.stack s1 H1 C8.E0).tr pn xe) (k := k) (i := 0) rfl rfl rfl rfl rfl rfl rfl C hb tk hr' (fun j D hj A outer s H E f c' hr2 => ?_) hNa hva hda hca))
      obtain ⟨mj, e1, e2⟩ := hbody j D hj
      unfold tbOf
      rw [e1]
      exact e2 A outer s H E f c' hr2
    · exact hsu cdv Y.A Y.stack s1 H1 a0 oe cls d pn hr' hz hf
    · refine ⟨j, D, f, o, c, oc, hj, rfl, hf, hc, ob, dt, ?_⟩
      unfold tbOf
      rw [hm]
      refine ⟨μ1, ⟨maskC cs1.sl, cs1.h⟩, mask_rel rel, ?_⟩
      -- the body's outcome
      have key : OutF g μ1 H1 (finF (sRet mi ⟨maskC cs1.sl, cs1.h⟩)) Q (WE (wAs X.K (.ref B) iE (fun a0 cls d => tOfS (g.withX (some (a0, cls, d))) W0 ms) (fun _ _ _ _ => False) { nx := fun _ H' => Q .non H', rt := Q }) (L2.start N [.ref f])) := by
        unfold lamF at oF
        cases er : finF (sRet mi ⟨maskC cs1.sl, cs1.h⟩) with
        | stuck => rw [er] at oF; exact oF
        | ok rv h' => rw [er] at oF; exact oF
        | exc y h' =>
          rw [er] at oF
          unfold toldF at oF
          intro μ' H' cls d ff he
          cases em' : em y.cls with
          | none => simp only [em'] at oF; exact oF.elim
          | some b =>
            cases b with
            | false => simp only [em'] at oF; exact oF.elim
            | true =>
              simp only [em'] at oF
              refine ⟨true, by rw [he.1]; exact hem _ _ em', fun _ a0 _ => ?_, fun z => nomatch z⟩
              refine ⟨μ', ⟨exnS n iE y, h'⟩, exn_start hn h1n ff.rel he, ?_⟩
              have o2 : OutF (g.withX (some (a0, cls, d))) μ' H' (finF (ms ⟨exnS n iE y, h'⟩)) Q fun _ _ _ => False := by
                cases e2 : finF (ms ⟨exnS n iE y, h'⟩) with
                | stuck => rw [e2] at oF; exact oF
                | exc y2 h2 => rw [e2] at oF; exact oF.elim
                | ok rv h2 =>
                  rw [e2] at oF
                  intro μ2 H2 v f2 q2
                  exact oF μ2 H2 v (ff.trans f2.ofX) (fv_back ff q2)
              exact body_outG (exn_start hn h1n ff.rel he) (fun b m => exn_md (N := N) m) o2
      have z := body_outG (mask_rel rel) (fun b m => mask_md m) key
      exact (OutS.bindE (σ := σ) z).mono fun rv cs2 μ2 H2 _ k2 h2 v hv => h2 μ2 σ H2 v k2 hv
  refine wpAny_call (codeAny_mono (by rw [hP, hw]; exact rc) fun r s' hq => ?_)
  cases r with
  | error e => exact (show False from hq).elim
  | ok fl =>
    cases fl with
    | ret u =>
      obtain ⟨v, H', J1, J2, J3, J4, J5, J6⟩ := hq
      exact I.after ⟨v, H', J1, J2, J3, by rw [hP, hw]; exact J4, J5, J6⟩
    | next => exact False.elim hq
    | brk => exact False.elim hq
    | cont => exact False.elim hq
/-- told(e), in the def that made the lambdas -/
theorem se_told {e : Expr} {ma : CM PV} {p pos : Pos} (T : Teller X g (k + 1) x n iE em ms) (hr : Room (k + 2) X.A) (hb : ∀ j D, Ds j = some D → LamS3 X.N X.env.scope D ∧ LamB D)
    (hbody : ∀ j D, Ds j = some D → ∃ mj, bodies j = some mj ∧ ∀ (A : Around) (outer : List Env) (s : Shared) (H : Hp) (E : XK) (f c' : Addr), Room k (A.deeper (lamEnv3 X D s.heap.objs.size f c')) → SE (lamCx3 X D A outer s H E f c') g (fun cls d _ H => E cls d H) D.body mj)
    (hPhi : ∀ j o c oc, g.Phi j o c oc → ∃ D, Ds j = some D ∧ LamObj X D o c oc) (ha : SPv X g W e ma) (hg : Gl X x := by rfl) (hdb : (x == ("__debug__" : Str)) = false := by decide)
    (he : starEach [e] X.env = (false, eval e X.env) :: starEach [] X.env := by rfl) (hpl : (backTo pos (starEach [] X.env)).any (·.1) = false := by rfl) :
    SE X g W (.Call (.Name x p) [e] [] pos) (eTold bodies n iE em ms ma) := by
  refine ⟨fun pins s σ H Q I h => ?_⟩
  obtain ⟨μ, cs, rel, oo⟩ := h
  have hT := T
  obtain ⟨a, bx, en, N, scope, params, gA, B, fd, p1, p2, p3, np, pos2, pos', b₀, suite, hmx, FT, _⟩ := T.ex
  refine wpAny_Call_Name_kw (ld_glob I hg hmx ?_ hdb)
  refine PySem.W.callWith_K (h₀ := X.base) I.ok.mod.kin FT.kp (thn ((pa_cons ha pa_nil he).run pos pins s σ H (fun vs H1 => ∃ f μ1 cs1 j D mi o c oc, vs = [.ref f] ∧ Ds j = some D ∧ bodies j = some mi ∧ H1 f = some (.frz o (.own f)) ∧ H1 c = some (.frz oc (.own c)) ∧ LamObj X D o c oc ∧ DefT H1 o ∧ Rel g μ1 cs1 σ H1 ∧ OutF g μ1 H1 (toldF n iE em ms (lamF mi cs1.sl cs1.h)) Q fun _ _ _ => False) I
    ⟨μ, cs, rel, (Out.bind oo).mono fun q cs1 μ1 H1 _ k1 h1 v hv => ?_⟩) fun us s1 ⟨vs, H1, I1, r1, f, μ1, cs1, j, D, mi, o, c, oc, e1, hj, hm, hf, hc, ob, dt, rel1, oF⟩ => ⟨I1.kIn, ?_⟩) he hpl
  · -- the argument is a lambda
    cases q with
    | clo j caps =>
      cases hv with
      | clo z1 z2 z3 z4 =>
        obtain ⟨D, hj, ob⟩ := hPhi _ _ _ _ z1
        obtain ⟨mj, hm, _⟩ := hbody j D hj
        simp only [hm] at h1
        refine ⟨_, μ1, cs1, j, D, mj, _, _, _, rfl, hj, hm, z2, z3, ob, z4, k1.rel, ?_⟩
        have oF := lift_out k1 h1
        -- nothing is let out
        revert oF
        cases er : toldF n iE em ms (lamF mj cs1.sl cs1.h) with
        | exc y h' =>
          exfalso
          unfold toldF at er
          split at er
          · split at er
            · split at er
              · cases er
              · rename_i z; exact z _ _ er
            · cases er
          · rename_i z; exact z _ _ er
        | stuck => exact fun o => o
        | ok rv h' => exact fun o => o
    | _ => exact h1.elim
  · subst e1
    cases r1 with
    | cons ru rn =>
      cases rn
      cases ru
      obtain ⟨gA', e1, _, w⟩ := told_core (X := X) (Y := X) rfl rfl rfl rfl rfl hT hr hb hbody I1 I1.cel hj hm hf hc ob dt rel1 oF
      rw [hmx] at e1
      cases e1
      exact w
end
end CL

/-! CL25: a comprehension whose test tells lambdas of the def around it. -/
namespace L2
open PySem PySem.Spec PyProof.Rows
/-- what is known where the block begins -/
structure EntryOk (X : Cx) (pins : List (Addr × Obj)) (σ : St) (H : Hp) (s : Shared) (fp : List Addr) : Prop where
  inv : Inv X pins σ H s
  cel : ∀ b ∈ fp, ∀ y c, X.env.cells.lookup y = some c → c ≠ b
section
variable {X : Cx}
theorem lc_entry {pins : List (Addr × Obj)} {s : Shared} {σ : St} {H : Hp} {Q : VK} {elt tg iter : Expr} {ifs : List Expr} {scope : Scope} {own : List (Str × Nat)} {pos pos' : Pos} {wi : TI} {g : TG} {tt : TT} {te : TE} {use : Option (Value → Sem Unit)} {Qf : Value → Shared → Prop}
    (hc : X.calm = true) (hN : X.N.Nodup) (I : Inv X pins σ H s) (hi : PI X tg iter wi) (ok : BlkOk X.N X.env.scope scope own)
    (hg : ∀ (s : Shared) (H : Hp) (C : Addr) (cl : List (Str × Addr)) (fp : List Addr), PG (X.blk s H scope (compEnvC scope cl C X.env) fp) tg g) (ht : ∀ (s : Shared) (H : Hp) (C : Addr) (cl : List (Str × Addr)) (fp : List Addr), EntryOk X pins σ H s fp → PTs (X.blk s H scope (compEnvC scope cl C X.env) fp) ifs tt)
    (he : ∀ (s : Shared) (H : Hp) (C : Addr) (cl : List (Str × Addr)) (fp : List Addr), PE (X.blk s H scope (compEnvC scope cl C X.env) fp) elt te) (hs : ∀ x, foldedSetIterable iter X.env x = pure x)
    (h : tLc wi g tt te (own.map (·.2)) σ H Q)
    (hRR : ∀ D C s' m H', Inv X pins σ H' s' → Q (.ref D) H' → s'.heap.Ns C m → FpOk X pins H' C → compPost (model X.prog X.w) X.A X.xe use Qf (.ref D) C (.ok .next) s') :
    wpAny (model X.prog X.w) X.A (comprehension (.ListComp elt [⟨tg, iter, ifs, 0⟩] scope pos) scope X.env pos' (newList []) false (eval iter X.env) use) Qf X.xe s := by
  have hfree : ∀ y ∈ scope.names, y.2 = .free → ∃ c, X.env.cells.lookup y.1 = some c := fun y hy e => by
    rcases ok.free y hy e with k | k
    · exact I.ok.has _ (.inl k)
    · exact I.ok.has _ (.inr k)
  refine wpAny_comprehension_free (use := use) rfl hs (closure_ok hfree) ok.kind (fun y hy e => by rw [ok.uniq y hy, e])
    (thn (hi.run pins s σ H _ I h) fun xv s1 hx => thn hx fun itv s2 h2 => ?_)
  obtain ⟨it, fp, tn, J, H2, e, I2, T, st2, f2, q⟩ := h2
  subst e
  refine wpAny_newObj_type (newEnv_comp ?_) (by show 0 ≤ sizeLine; decide)
  generalize hD : s2.heap.objs.size = D
  have hDn : H2 D = none := I2.hok.fresh (Nat.le_of_eq hD)
  obtain ⟨W, ⟨m0, w0⟩, turn⟩ := q D hDn
  -- the new list
  generalize hs3 : ({ s2 with heap := s2.heap.push { cls := .type "list", data := .seq ([] : List Value).toArray } } : Shared) = s3
  have I3 : Inv X pins σ (upd H2 D (.lst [])) s3 := by
    rw [← hs3]
    refine I2.laid (t' := s2.toks) (fun b o e => Heap.get?_push_of_some _ e) (Nat.le_of_eq hD) ⟨Nat.zero_le _, [], 0, .nil, ?_⟩
    rw [← hD]
    exact Heap.get?_push_size _ rfl
  have h3 : s3.heap = s2.heap.push { cls := .type "list", data := .seq ([] : List Value).toArray } := by rw [← hs3]
  have sz : ∀ b ∈ fp, b < s2.heap.objs.size := fun b hb => by
    obtain ⟨o, e, _⟩ := T.obj _ _ st2 b hb
    exact Heap.lt_size e
  have f3 : ∀ b ∈ fp, FpOk X pins (upd H2 D (.lst [])) b ∧ b < s3.heap.objs.size := fun b hb => by
    have hlt := sz b hb
    refine ⟨⟨?_, (f2 b hb).2⟩, by rw [h3, Heap.size_push]; exact Nat.lt_succ_of_lt hlt⟩
    rw [upd_ne (by rw [← hD]; exact Nat.ne_of_lt hlt)]
    exact (f2 b hb).1
  have st3 : tn 0 s3.heap := T.keep _ _ _ st2 fun b _ o e => by rw [h3]; exact Heap.get?_push_of_some _ e
  have I4 := block_start I3 ok hN f3
  have pg := hg s3 (upd H2 D (.lst [])) s3.heap.objs.size (cellsFrom (s3.heap.objs.size + 1) scope.names (cloFrom X.env.cells scope.names [])) fp
  have pt := ht s3 (upd H2 D (.lst [])) s3.heap.objs.size (cellsFrom (s3.heap.objs.size + 1) scope.names (cloFrom X.env.cells scope.names [])) fp ⟨I3, fun b hb y c e => (f3 b hb).1.2.2.2.2.1 y c e⟩
  have pe := he s3 (upd H2 D (.lst [])) s3.heap.objs.size (cellsFrom (s3.heap.objs.size + 1) scope.names (cloFrom X.env.cells scope.names [])) fp
  show codeAny _ _ (.compStart (.ListComp elt [⟨tg, iter, ifs, 0⟩] scope pos) 0 (.ref it) (.ref D) (compEnvC scope (cellsFrom (s3.heap.objs.size + 1) scope.names (cloFrom X.env.cells scope.names [])) s3.heap.objs.size X.env)) (compPost (model X.prog X.w) X.A X.xe use Qf (.ref D) s3.heap.objs.size) { s3 with heap := pushCells (s3.heap.push { cls := .type "dict", data := .dict #[] }) scope.names }
  have nfp : ∀ b ∈ fp, (upd H2 D (.lst [])) b = none := fun b hb => (f3 b hb).1.1
  generalize hce : compEnvC scope (cellsFrom (s3.heap.objs.size + 1) scope.names (cloFrom X.env.cells scope.names [])) s3.heap.objs.size X.env = ce at I4 pg pt pe ⊢
  have cL : ce.locals = s3.heap.objs.size := by subst hce; rfl
  generalize hH3 : upd H2 D (.lst []) = H3 at I3 I4 pg pt pe w0 nfp f3
  generalize hs4 : ({ s3 with heap := pushCells (s3.heap.push { cls := .type "dict", data := .dict #[] }) scope.names } : Shared) = s4 at I4 ⊢
  have st4 : tn 0 s4.heap := T.keep _ _ _ st3 fun b _ o e => by rw [← hs4]; exact pushCells_keeps _ _ _ _ (Heap.get?_push_of_some _ e)
  have stat : ∀ {σ' : St} {H' : Hp} {s' : Shared}, Inv (X.blk s3 H3 scope ce fp) [] σ' H' s' → (∀ b ∈ fp, H' b = none) → ∀ b ∈ fp, FpOk (X.blk s3 H3 scope ce fp) [] H' b := fun {σ' H' s'} I' hn b hb =>
    ⟨hn b hb, (I'.ok.exf b hb).1, I'.ok.exfs b hb, .inl hb, fun x c e => (I'.ok.exf b hb).2 x c e, fun p hp => absurd (show p ∈ ([] : List (Addr × Obj)) ++ [] from hp) (by simp)⟩
  have loop : codeAny (model X.prog X.w) X.A (.compLoop (.ListComp elt [⟨tg, iter, ifs, 0⟩] scope pos) 0 (.ref it) (.ref D) ce) (compPost (model X.prog X.w) X.A X.xe use Qf (.ref D) s3.heap.objs.size) s4 := by
    refine compLoop_any (fun n s' => ∃ i H', Inv (X.blk s3 H3 scope ce fp) [] (wipe σ (own.map (·.2))) H' s' ∧ tn i s'.heap ∧ (∀ b ∈ fp, H' b = none) ∧ W i n H') ?_ m0 ⟨0, H3, I4, st4, nfp, w0⟩
    rintro n s5 ⟨i, H5, I5, st5, n5, w5⟩
    rcases turn i n H5 w5 with ⟨stop, qq⟩ | ⟨go, Nx, hNx, step⟩
    · have td := T.done (X.blk s3 H3 scope ce fp) rfl rfl rfl hc i [] s5 _ H5 (fun _ _ => False) I5 (stat I5 n5) st5 stop
      refine thnF td fun r s6 ⟨hr, I6⟩ => ?_
      subst hr
      -- back in the def's context
      have I7 : Inv X pins σ H5 s6 := I3.call' (ch := fp) I6.os I6.base I6.hok I6.bare fun b hb => ⟨(f3 b hb).1.2.2.2.1, (f3 b hb).1.2.1, (f3 b hb).1.2.2.2.2.1, (f3 b hb).1.2.2.2.2.2⟩
      have nC : H5 s3.heap.objs.size = none := by
        have z : H5 ce.locals = none := I6.free
        rw [cL] at z
        exact z
      obtain ⟨m, hn, _⟩ := I6.loc
      have hn : s6.heap.Ns ce.locals m := hn
      rw [cL] at hn
      exact hRR D s3.heap.objs.size s6 m H5 I7 qq hn (I3.fpOk (Nat.le_refl _) nC)
    · have ti := T.item (X.blk s3 H3 scope ce fp) rfl rfl rfl hc i [] s5 _ H5 (fun _ _ => False) I5 (stat I5 n5) st5 go
      refine thnF ti fun r s6 ⟨u, hr, h6⟩ => ?_
      subst hr
      refine thnF h6 fun _ s7 ⟨x, H7, I7, r7, y7, st7, n7⟩ => ?_
      have I7' := I7.pinned (stat I7 n7) (T.obj _ _ st7)
      refine thnF (pg.run _ s7 _ H7 x u _ I7' r7 (step x H7 y7)) fun _ s8 ⟨σ8, H8, I8, hw8, q8⟩ => ?_
      refine thnF (pt.run _ s8 σ8 H8 _ I8 q8) fun b s9 ⟨H9, I9, q9⟩ => ?_
      -- the turn's end
      have fin : ∀ {s' : Shared} {H' : Hp}, Inv (X.blk s3 H3 scope ce fp) ([] ++ pinsAt fp s7.heap) σ8 H' s' → Nx H' → ∃ m, m < n ∧ ∃ i H', Inv (X.blk s3 H3 scope ce fp) [] (wipe σ (own.map (·.2))) H' s' ∧ tn i s'.heap ∧ (∀ b ∈ fp, H' b = none) ∧ W i m H' := fun {s' H'} I' nx => by
        obtain ⟨m', hm, w'⟩ := hNx H' nx
        have pin' : ∀ b ∈ fp, ∀ o, s7.heap.get? b = some o → s'.heap.get? b = some o ∧ H' b = none := fun b hb o e =>
          let z := I'.pin (b, o) (List.mem_append_right _ (List.mem_append_right _ (mem_pinsAt hb e)))
          ⟨z.1, z.2.1⟩
        have hl : (wipe σ (own.map (·.2))).length = σ8.length := by rw [← hw8, wipe_length]
        refine ⟨m', hm, i + 1, H', (I'.unpinned (pins := [])).weak hl (fun j v e => ?_), T.keep _ _ _ st7 fun b hb o e => (pin' b hb o e).1, fun b hb => ?_, w'⟩
        · rw [← hw8] at e
          exact (wipe_some e).1
        · obtain ⟨o, e, _⟩ := T.obj _ _ st7 b hb
          exact (pin' b hb o e).2
      cases b with
      | false =>
        simp only [Bool.false_eq_true, if_false] at q9 ⊢
        exact fin I9 q9
      | true =>
        simp only [if_true] at q9 ⊢
        refine thnF (pe.run _ s9 σ8 H9 _ I9 q9) fun z s10 ⟨yv, H10, I10, r10, acc, hD10, hz10, nx⟩ => ?_
        exact app_ok (X := X.blk s3 H3 scope ce fp) I10 hD10 hz10 r10 fun s11 I11 => fin I11 nx
  exact codeAny_compStart_list loop (T.self X.A 0 _ _ _ st4 loop)
/-- as a value -/
theorem pe_lcE {elt tg iter : Expr} {ifs : List Expr} {scope : Scope} {own : List (Str × Nat)} {pos : Pos} {wi : TI} {g : TG} {tt : St → TT} {te : TE} (hc : X.calm = true) (hN : X.N.Nodup) (hi : PI X tg iter wi) (ok : BlkOk X.N X.env.scope scope own)
    (hg : ∀ (s : Shared) (H : Hp) (C : Addr) (cl : List (Str × Addr)) (fp : List Addr), PG (X.blk s H scope (compEnvC scope cl C X.env) fp) tg g)
    (ht : ∀ (pins : List (Addr × Obj)) (σ : St) (s : Shared) (H : Hp) (C : Addr) (cl : List (Str × Addr)) (fp : List Addr), EntryOk X pins σ H s fp → PTs (X.blk s H scope (compEnvC scope cl C X.env) fp) ifs (tt σ))
    (he : ∀ (s : Shared) (H : Hp) (C : Addr) (cl : List (Str × Addr)) (fp : List Addr), PE (X.blk s H scope (compEnvC scope cl C X.env) fp) elt te) (hs : ∀ x, foldedSetIterable iter X.env x = pure x := by intro _; rfl) :
    PE X (.ListComp elt [⟨tg, iter, ifs, 0⟩] scope pos) (fun σ H Q => tLc wi g (tt σ) te (own.map (·.2)) σ H Q) := by
  refine ⟨fun pins s σ H Q I h => ?_⟩
  rw [eval_ListComp]
  refine lc_entry (pins := pins) (σ := σ) hc hN I hi ok hg (fun s H C cl fp k => ht pins σ s H C cl fp k) he hs h fun D C s' m H' I' q hn f => ⟨m, hn, fun h'' sb => ?_⟩
  obtain ⟨f0, f1, f2, f3, f4, f5⟩ := f
  exact ⟨.ref D, H', I'.turned (t' := s'.toks) (fun b o hb e => (sb.2 b hb).trans e) f0 f1 f3 f4 f5, rfl, q⟩
end
theorem tLc_entry {wi : TI} {g : TG} {tt : TT} {te : TE} {vs : List Nat} {σ : St} {H : Hp} {Q : VK} (h : tLc wi g tt te vs σ H Q) (mw : ∀ R R' : It → Hp → Prop, (∀ J H, R J H → R' J H) → wi σ H R → wi σ H R') (mg : ∀ v σ H (R R' : St → Hp → Prop), (∀ σ H, R σ H → R' σ H) → g v σ H R → g v σ H R') :
    tLc wi g (fun σ' H' R => wipe σ' vs = wipe σ vs ∧ tt σ' H' R) te vs σ H Q := by
  refine mw _ _ (fun J H1 hJ D hD => ?_) h
  obtain ⟨W, w0, hW⟩ := hJ D hD
  refine ⟨W, w0, fun i m H hw => ?_⟩
  rcases hW i m H hw with z | ⟨z1, Nx, z2, z3⟩
  · exact .inl z
  · exact .inr ⟨z1, Nx, z2, fun x H' hy => mg _ _ _ _ _ (fun σ2 H2 q => ⟨q.1, q.1, q.2⟩) (z3 x H' hy)⟩
end L2
namespace CL
open PySem L2 PyProof.Rows
variable {g : G} {W : WX} {M : Addr → Prop} {μ μ' μ1 μ2 : List Addr} {H H' H0 H1 H2 : Hp} {σ σ1 σ2 : L2.St} {cs cs' cs1 cs2 : CSt} {X : Cx}
theorem tOfI_mono {m : CM Src} {R R' : It → Hp → Prop} (f : ∀ J H, R J H → R' J H) (h : tOfI g W m σ H R) : tOfI g W m σ H R' := by
  obtain ⟨μ, cs, rel, o⟩ := h
  exact ⟨μ, cs, rel, o.mono fun s cs' μ' H' _ k h J hJ => f _ _ (h J hJ)⟩
theorem tOfG_mono {ts : List Nat} {m : PV → CM Unit} {v : V} {R R' : L2.St → Hp → Prop} (f : ∀ σ H, R σ H → R' σ H) (h : tOfG g W ts m v σ H R) : tOfG g W ts m v σ H R' := by
  obtain ⟨μ, cs, p, rel, q, o⟩ := h
  exact ⟨μ, cs, p, rel, q, o.mono fun _ cs' μ' σ' H' _ k h off => f _ _ (h off)⟩
theorem se_compE {elt tg iter : Expr} {ifs : List Expr} {scope : Scope} {own : List (Str × Nat)} {pos : Pos} {m : CM Src} {t : PV → CM Unit} {c : CM Bool} {e : CM PV} (hc : X.calm = true) (hN : X.N.Nodup) (hi : SI X g W tg iter m) (hblk : BlkOk X.N X.env.scope scope own)
    (ht : ∀ (s : Shared) (H : Hp) (C : Addr) (cl : List (Str × Addr)) (fp : List Addr), SG (X.blk s H scope (compEnvC scope cl C X.env) fp) g W0 (own.map (·.2)) tg t)
    (htt : ∀ (pins : List (Addr × Obj)) (σ : L2.St) (s : Shared) (H : Hp) (C : Addr) (cl : List (Str × Addr)) (fp : List Addr), EntryOk X pins σ H s fp → PTs (X.blk s H scope (compEnvC scope cl C X.env) fp) ifs (fun σ' H' R => wipe σ' (own.map (·.2)) = wipe σ (own.map (·.2)) ∧ tOfB g W0 c σ' H' R))
    (he : ∀ (s : Shared) (H : Hp) (C : Addr) (cl : List (Str × Addr)) (fp : List Addr), SPv (X.blk s H scope (compEnvC scope cl C X.env) fp) g W0 elt e)
    (hf : ∀ x : Value, foldedSetIterable iter X.env x = pure x := by exact fun _ => rfl) :
    SE X g W (.ListComp elt [{ target := tg, iter := iter, ifs := ifs, is_async := 0 }] scope pos) (eComp (own.map (·.2)) m t c e) :=
  PE.mono (pe_lcE hc hN hi hblk ht htt he hf) fun σ H Q h => tLc_entry (comp_read h) (fun R R' f => tOfI_mono f) (fun v σ H R R' f => tOfG_mono f)
end CL

/-! CL26: told in the test of a comprehension. -/
namespace CL
open PySem L2 PyProof.Rows
variable {g : G} {W : WX} {M : Addr → Prop} {μ μ' μ1 μ2 : List Addr} {H H' H0 H1 H2 : Hp} {σ σ1 σ2 : L2.St} {cs cs' cs1 cs2 : CSt} {X : Cx}
/-- a reading under a condition of the slots -/
abbrev gd (P : L2.St → Prop) (t : TE) : TE := fun σ H Q => P σ ∧ t σ H Q
abbrev gdT (P : L2.St → Prop) (t : TT) : TT := fun σ H Q => P σ ∧ t σ H Q
theorem se_neG {P : L2.St → Prop} {a b : Expr} {ma mb : CM RV} {pos : Pos} (hg : g.K = X.K) (hu : X.A.units + 64 < cLine) (ha : PE X a (gd P (tOf g W ma))) (hb : SE X g W b mb) : PE X (.Compare a [.NotEq] [b] pos) (gd P (tOf g W (e2 opNe ma mb))) :=
  PE.mono (pe_cmpR (op_neD hu) ha hb (nomark _)) fun _ _ _ h => ⟨h.1, tOf2 (hg ▸ pr_ne) h.2⟩
theorem sb_valG {P : L2.St → Prop} {e : Expr} {m : CM RV} (h : PE X e (gd P (tOf g W m))) (he : ∀ whole, isTrue e X.env whole = (do let v ← whole; standAt e.pos; holding [v] (truthy v)) := by intro _; rfl) : PT X e (gdT P (tOfB g W (tst m))) := PT.mono (pt_val h he) fun σ H Q h => by
  obtain ⟨hP, μ, cs, rel, o⟩ := h
  refine ⟨hP, μ, cs, rel, (Out.bind o).mono fun x cs1 μ1 H1 _ k1 h1 v hv => ?_⟩
  cases x with
  | pv p =>
    cases p with
    | bl b => cases hv; exact ⟨b, rfl, h1 μ1 H1 k1⟩
    | _ => exact h1.elim
  | _ => exact h1.elim
def eToldB (vs : List Nat) (bodies : Nat → Option (CM RV)) (n i : Nat) (em : EM) (ms : CM Fl) (ma : CM PV) : CM RV := do
  let p ← ma
  match p with
  | .clo j _ => match bodies j with
    | some mi => fun cs => liftF (toldF n i em ms (lamF mi (wipeC cs.sl vs) cs.h)) cs
    | none => stuck
  | _ => stuck
/-- the slots of the def around, but for the block's own -/
theorem back_rel {vs : List Nat} {σ0 : L2.St} (r : Rel g μ cs σ H) (h : wipe σ vs = wipe σ0 vs) : Rel g μ { cs with sl := wipeC cs.sl vs } σ0 H := by
  have hl : σ.length = σ0.length := by have := congrArg List.length h; rwa [wipe_length, wipe_length] at this
  have key : ∀ (j : Nat) (s : SV) (v : Option V), (wipeC cs.sl vs)[j]? = some s → σ0[j]? = some v → s = .emp ∨ (cs.sl[j]? = some s ∧ σ[j]? = some v) := fun j s v h1 h2 => by
    rw [wipeC_get] at h1
    by_cases hj : j ∈ vs
    · rw [if_pos hj] at h1
      split at h1
      · cases h1; exact .inl rfl
      · cases h1
    · rw [if_neg hj] at h1
      have z := congrArg (fun l => l[j]?) h
      simp only [wipe_get, if_neg hj] at z
      exact .inr ⟨h1, by rw [z]; exact h2⟩
  refine ⟨r.hp, by show (wipeC cs.sl vs).length = _; rw [wipeC_len, r.len, hl], fun j s v h1 h2 => ?_, fun j k c d a h1 h2 h3 h4 => ?_⟩
  · rcases key j s v h1 h2 with rfl | ⟨a, b⟩
    · trivial
    · exact r.sl j s v a b
  · rcases key j _ _ h1 h3 with z | ⟨a1, b1⟩
    · cases z
    · rcases key k _ _ h2 h4 with z | ⟨a2, b2⟩
      · cases z
      · exact r.ap j k c d a a1 a2 b1 b2
section
variable {Ds : Nat → Option LD} {bodies : Nat → Option (CM RV)} {k n iE : Nat} {em : EM} {ms : CM Fl} {x : Str}
theorem pe_toldB {e : Expr} {ma : CM PV} {p pos : Pos} {pins0 : List (Addr × Obj)} {σ0 : L2.St} {s3 : Shared} {H3 : Hp} {scope : Scope} {cenv : Env} {fp : List Addr} {vs : List Nat} (K : EntryOk X pins0 σ0 H3 s3 fp)
    (T : Teller X g (k + 1) x n iE em ms) (hr : Room (k + 2) X.A) (hb : ∀ j D, Ds j = some D → LamS3 X.N X.env.scope D ∧ LamB D)
    (hbody : ∀ j D, Ds j = some D → ∃ mj, bodies j = some mj ∧ ∀ (A : Around) (outer : List Env) (s : Shared) (H : Hp) (E : XK) (f c' : Addr), Room k (A.deeper (lamEnv3 X D s.heap.objs.size f c')) → SE (lamCx3 X D A outer s H E f c') g (fun cls d _ H => E cls d H) D.body mj)
    (hPhi : ∀ j o c oc, g.Phi j o c oc → ∃ D, Ds j = some D ∧ LamObj X D o c oc) (ha : SPv (X.blk s3 H3 scope cenv fp) g W0 e ma) (hg : Gl (X.blk s3 H3 scope cenv fp) x := by rfl) (hdb : (x == ("__debug__" : Str)) = false := by decide)
    (he : starEach [e] (X.blk s3 H3 scope cenv fp).env = (false, eval e (X.blk s3 H3 scope cenv fp).env) :: starEach [] (X.blk s3 H3 scope cenv fp).env := by rfl) (hpl : (backTo pos (starEach [] (X.blk s3 H3 scope cenv fp).env)).any (·.1) = false := by rfl) :
    PE (X.blk s3 H3 scope cenv fp) (.Call (.Name x p) [e] [] pos) (gd (fun σ => wipe σ vs = wipe σ0 vs) (tOf g W0 (eToldB vs bodies n iE em ms ma))) := by
  refine ⟨fun pins s σ H Q I h => ?_⟩
  obtain ⟨hwp, μ, cs, rel, oo⟩ := h
  have hT := T
  obtain ⟨a, bx, en, N, scope', params, gA, B, fd, p1, p2, p3, np, pos2, pos', b₀, suite, hmx, FT, _⟩ := T.ex
  refine wpAny_Call_Name_kw (ld_glob I hg hmx ?_ hdb)
  refine PySem.W.callWith_K (h₀ := X.base) I.ok.mod.kin FT.kp (thn ((pa_cons ha pa_nil he).run pos pins s σ H (fun vs' H1 => ∃ f μ1 cs1 j D mi o c oc, vs' = [.ref f] ∧ Ds j = some D ∧ bodies j = some mi ∧ H1 f = some (.frz o (.own f)) ∧ H1 c = some (.frz oc (.own c)) ∧ LamObj X D o c oc ∧ DefT H1 o ∧ Rel g μ1 cs1 σ H1 ∧ OutF g μ1 H1 (toldF n iE em ms (lamF mi (wipeC cs1.sl vs) cs1.h)) Q fun _ _ _ => False) I
    ⟨μ, cs, rel, (Out.bind oo).mono fun q cs1 μ1 H1 _ k1 h1 v hv => ?_⟩) fun us s1 ⟨vs', H1, I1, r1, f, μ1, cs1, j, D, mi, o, c, oc, e1, hj, hm, hf, hc, ob, dt, rel1, oF⟩ => ⟨I1.kIn, ?_⟩) he hpl
  · cases q with
    | clo j caps =>
      cases hv with
      | clo z1 z2 z3 z4 =>
        obtain ⟨D, hj, ob⟩ := hPhi _ _ _ _ z1
        obtain ⟨mj, hm, _⟩ := hbody j D hj
        simp only [hm] at h1
        refine ⟨_, μ1, cs1, j, D, mj, _, _, _, rfl, hj, hm, z2, z3, ob, z4, k1.rel, ?_⟩
        have oF := lift_out k1 h1
        revert oF
        cases er : toldF n iE em ms (lamF mj (wipeC cs1.sl vs) cs1.h) with
        | exc y h' =>
          exfalso
          unfold toldF at er
          split at er
          · split at er
            · split at er
              · cases er
              · rename_i z; exact z _ _ er
            · cases er
          · rename_i z; exact z _ _ er
        | stuck => exact fun o => o
        | ok rv h' => exact fun o => o
    | _ => exact h1.elim
  · subst e1
    cases r1 with
    | cons ru rn =>
      cases rn
      cases ru
      have C : Cel X σ0 H1 s1.heap := K.inv.cel.un I1.base fun y c hy z => K.cel _ z y c hy rfl
      obtain ⟨gA', e1, _, w⟩ := told_core (X := X) (Y := X.blk s3 H3 scope cenv fp) (cs1 := { cs1 with sl := wipeC cs1.sl vs }) rfl rfl rfl rfl rfl hT hr hb hbody I1 C hj hm hf hc ob dt (back_rel rel1 hwp) oF
      rw [hmx] at e1
      cases e1
      exact w
end
end CL

/-! CL27: defs as the head tells them; constants; small helps for printed texts. -/
namespace CL
open PySem L2 PyProof.Rows
variable {g : G} {W : WX} {M : Addr → Prop} {μ μ' μ1 μ2 : List Addr} {H H' H0 H1 H2 : Hp} {σ σ1 σ2 : L2.St} {cs cs' cs1 cs2 : CSt} {X : Cx}
theorem se_gint {x : Str} {i : Int} {pos : Pos} (hm : ∃ t, X.mg x = some (.int i t)) (hg : Gl X x := by rfl) (hd : (x == ("__debug__" : Str)) = false := by decide) : SE X g W (.Name x pos) (kst (.int i)) := by
  obtain ⟨t, h⟩ := hm
  exact se_glob h (.inl ⟨i, t, rfl, rfl⟩) hg hd
theorem se_gstr {x z : Str} {pos : Pos} (hm : ∃ t, X.mg x = some (.str z t)) (hg : Gl X x := by rfl) (hd : (x == ("__debug__" : Str)) = false := by decide) : SE X g W (.Name x pos) (kst (.str z)) := by
  obtain ⟨t, h⟩ := hm
  exact se_glob h (.inr ⟨z, t, rfl, rfl⟩) hg hd
theorem rm64 {k : Nat} {A : Around} (r : Room k A) : A.units + 64 < cLine := by have := r.un; omega
theorem rm65 {k : Nat} {A : Around} (r : Room k A) : A.units + 65 < cLine := by have := r.un; omega
section
variable {P : Program} {w : World} {K : PySem.W.Frag} {mg : Str → Option Value} {base : Heap}
theorem mkFn {x qual : Str} {params : Arguments} {body : List Stmt} {scope : Scope} {dvs : List V} {kws : List (Str × V)} {f : Addr} {fd : FuncData} {N ps : List Str} {k n j : Nat} {m : CM Fl} (F : FunD K x qual params body scope dvs kws f fd) (S : FnScope N ps scope) (hn : N.length = n) (hj : ps.length = j)
    (hbody : ∀ (cdv : Value) (A : Around) (outer : List Env) (s : Shared) (H : Hp) (E : XK), Room k (A.deeper (envOfC qual scope s.heap.objs.size f cdv)) →
      SSs (cxOf (L2.CX P w) P w K mg base N qual scope f cdv A outer s H E) g (fun cls d _ H => E cls d H) body m) :
    FnOk P w K mg base (L2.CX P w) (k + 1) f fd ps (spOf g j (runDef n m)) := by
  subst hj
  exact F.ok S (fun vs H Q E h => h.1) fun cdv A outer s H vs Q E hr h => by
    obtain ⟨hl, μ, hh, pvs, hp, r, o⟩ := h
    exact ⟨_, hbody cdv A outer s H E hr, body_out hn hp r o⟩
theorem mkDef {x : Str} {params : Arguments} {body : List Stmt} {scope : Scope} {f : Addr} {fd : FuncData} {N ps : List Str} {k n j : Nat} {m : CM Fl} (F : FunD K x x params body scope [] [] f fd) (hm : mg x = some (.ref f)) (S : FnScope N ps scope) (hn : N.length = n) (hj : ps.length = j) (hb : Binds K fd ps [])
    (hbody : ∀ (cdv : Value) (A : Around) (outer : List Env) (s : Shared) (H : Hp) (E : XK), Room k (A.deeper (envOfC x scope s.heap.objs.size f cdv)) →
      SSs (cxOf (L2.CX P w) P w K mg base N x scope f cdv A outer s H E) g (fun cls d _ H => E cls d H) body m) :
    DefOk P w K mg base g (k + 1) x j (runDef n m) := ⟨⟨f, fd, ps, hm, F.kp, hb, mkFn F S hn hj hbody⟩⟩
end
/-! ### a dict of the module, as the head tells it -/
theorem kd_none {K : PySem.W.Frag} {w : World} {a : Addr} {ks : List Str} (h : He.dicW K a = some (He.keysIn w.params ks)) {z : Str} (hz : z ∉ ks) : PySem.W.nsIn K a z = some none := by
  unfold He.dicW at h
  unfold PySem.W.nsIn
  cases q : K.lookup a with
  | none => rw [q] at h; cases h
  | some o =>
    rw [q] at h
    obtain ⟨oc, od, dt, osl⟩ := o
    cases oc with
    | type c =>
      cases od with
      | none =>
        cases dt with
        | dict es n =>
          simp only at h ⊢
          split at h
          · have h := Option.some.inj h
            have key : ∀ (l : List DictEntry) (ks : List Str), l.map He.keyOf = He.keysIn w.params ks → z ∉ ks → l.find? (fun e => e.key.isStr z) = none ∧ l.any (·.refKey) = false := by
              intro l
              induction l with
              | nil => intro ks _ _; exact ⟨rfl, rfl⟩
              | cons e r ih =>
                intro ks h hz
                cases ks with
                | nil => cases h
                | cons k kr =>
                  simp only [List.map_cons, He.keysIn, List.cons.injEq] at h
                  obtain ⟨h1, h2⟩ := h
                  obtain ⟨i1, i2⟩ := ih kr h2 (fun m => hz (List.mem_cons_of_mem _ m))
                  have hk : ∃ t, e.key = .str k t := by
                    unfold He.keyOf at h1
                    split at h1
                    · rename_i x t ek
                      have h1 := congrArg (fun o => o.map Prod.fst) h1
                      simp at h1
                      exact ⟨t, by rw [ek, h1]⟩
                    · cases h1
                  obtain ⟨t, ek⟩ := hk
                  have hne : ¬ k = z := fun y => hz (by rw [y]; exact List.mem_cons_self ..)
                  refine ⟨?_, ?_⟩
                  · rw [List.find?_cons]
                    have : e.key.isStr z = false := by rw [ek]; simp [Value.isStr, hne]
                    rw [this]
                    exact i1
                  · rw [List.any_cons, i2, Bool.or_false]
                    unfold DictEntry.refKey
                    rw [ek]
            obtain ⟨f1, f2⟩ := key _ _ h hz
            rw [f1]
            simp only
            rw [f2]
            simp
          · cases h
        | _ => cases h
      | some _ => cases dt <;> cases h
    | _ => cases od <;> cases dt <;> cases h
theorem tabOk {x : Str} {tab : List (Str × Int)} {d : Addr} (hm : X.mg x = some (.ref d)) (h : He.dicW X.K d = some (He.keysIn X.w.params (tab.map (·.1)))) (hv : He.valsB X.K d (tab.map fun q => (q.1, He.Dv.int q.2)) = true) : TabOk X x tab := by
  obtain ⟨es, n, D⟩ := He.dicW_ok h
  refine ⟨d, es, n, hm, D, fun z => ?_⟩
  cases e : tab.lookup z with
  | none =>
    refine ⟨none, kd_none h fun hz => ?_, rfl⟩
    obtain ⟨q, hq, rfl⟩ := List.mem_map.mp hz
    have : (tab.lookup q.1).isSome = true := by
      rw [List.lookup_isSome_iff]
      exact ⟨q, hq, by simp⟩
    rw [e] at this
    cases this
  | some i =>
    have hq : (z, i) ∈ tab := PySem.mem_of_lookup e
    obtain ⟨u, h1, h2⟩ := He.valsB_ok hv (q := (z, He.Dv.int i)) (List.mem_map.mpr ⟨(z, i), hq, rfl⟩)
    exact ⟨some u, h1, u, rfl, h2⟩
end CL

/-! CL28: more small helps. -/
namespace CL
open PySem L2 PyProof.Rows
variable {g : G} {W : WX} {M : Addr → Prop} {μ μ' μ1 μ2 : List Addr} {H H' H0 H1 H2 : Hp} {σ σ1 σ2 : L2.St} {cs cs' cs1 cs2 : CSt} {X : Cx}
section
variable {P : Program} {w : World} {K : PySem.W.Frag} {mg : Str → Option Value} {base : Heap}
/-- a def of which nothing is asked -/
theorem mkStuck {x : Str} {params : Arguments} {body : List Stmt} {scope : Scope} {f : Addr} {fd : FuncData} {N ps : List Str} {k j : Nat} (F : FunD K x x params body scope [] [] f fd) (hm : mg x = some (.ref f)) (S : FnScope N ps scope) (hj : ps.length = j) (hb : Binds K fd ps []) :
    DefOk P w K mg base g (k + 1) x j (fun _ _ => .stuck) := by
  subst hj
  refine ⟨⟨f, fd, ps, hm, F.kp, hb, F.ok S (fun vs H Q E h => h.1) fun cdv A outer s H vs Q E hr h => ?_⟩⟩
  obtain ⟨hl, μ, hh, pvs, hp, r, o⟩ := h
  exact o.elim
end
end CL

/-! CL29: comparisons as tests. -/
namespace CL
open PySem L2 PyProof.Rows
variable {g : G} {W : WX} {M : Addr → Prop} {μ μ' μ1 μ2 : List Addr} {H H' H0 H1 H2 : Hp} {σ σ1 σ2 : L2.St} {cs cs' cs1 cs2 : CSt} {X : Cx}
theorem tst_tOf {m : CM RV} {Q : Bool → Hp → Prop} (h : tOfB g W (tst m) σ H Q) : tOf g W m σ H fun x H' => ∃ k, x = .bl k ∧ Q k H' := by
  obtain ⟨μ, cs, rel, o⟩ := h
  refine ⟨μ, cs, rel, (Out.bind o).mono fun x cs1 μ1 H1 _ k1 h1 v hv => ?_⟩
  cases x with
  | pv p =>
    cases p with
    | bl b => cases hv; exact ⟨b, rfl, h1 μ1 H1 k1⟩
    | _ => exact h1.elim
  | _ => exact h1.elim
section
variable {a b c : Expr} {ma mb mc : CM RV} {pos : Pos}
theorem sb_cmp {op : CmpOp} {r : R2} {f : RV → RV → CM RV} (ho : OpR X (compareOp op) r) (p : Pr2 g r f) (ha : SE X g W a ma) (hb : SE X g W b mb) (hm : behindInMarks op b = false) : SB X g W (.Compare a [op] [b] pos) (tst (e2 f ma mb)) :=
  PT.mono (pt_cmpR ho ha hb hm) fun _ _ _ h => tOf2 p (tst_tOf h)
theorem sb_lt (ha : SE X g W a ma) (hb : SE X g W b mb) : SB X g W (.Compare a [.Lt] [b] pos) (tst (e2 opLt ma mb)) := sb_cmp op_ltA pr_ord ha hb (nomark _)
theorem sb_le (ha : SE X g W a ma) (hb : SE X g W b mb) : SB X g W (.Compare a [.LtE] [b] pos) (tst (e2 opLe ma mb)) := sb_cmp op_leA pr_ord ha hb (nomark _)
theorem sb_gt (ha : SE X g W a ma) (hb : SE X g W b mb) : SB X g W (.Compare a [.Gt] [b] pos) (tst (e2 opGt ma mb)) := sb_cmp op_gtA pr_ord ha hb (nomark _)
theorem sb_ge (ha : SE X g W a ma) (hb : SE X g W b mb) : SB X g W (.Compare a [.GtE] [b] pos) (tst (e2 opGe ma mb)) := sb_cmp op_geA pr_ord ha hb (nomark _)
theorem sb_eq (hg : g.K = X.K) (hu : X.A.units + 64 < cLine) (ha : SE X g W a ma) (hb : SE X g W b mb) : SB X g W (.Compare a [.Eq] [b] pos) (tst (e2 opEq ma mb)) := sb_cmp (op_eqD hu) (hg ▸ pr_eq) ha hb (nomark _)
theorem sb_ne (hg : g.K = X.K) (hu : X.A.units + 64 < cLine) (ha : SE X g W a ma) (hb : SE X g W b mb) : SB X g W (.Compare a [.NotEq] [b] pos) (tst (e2 opNe ma mb)) := sb_cmp (op_neD hu) (hg ▸ pr_ne) ha hb (nomark _)
theorem sb_eqE (hu : X.A.units + 64 < cLine) (ha : SE X g W a ma) (hb : SE X g W b mb) : SB X g W (.Compare a [.Eq] [b] pos) (tst (e2 (opEmp false) ma mb)) := sb_cmp (op_eqEmp (by omega)) pr_emp ha hb (nomark _)
theorem sb_neE (hu : X.A.units + 64 < cLine) (ha : SE X g W a ma) (hb : SE X g W b mb) : SB X g W (.Compare a [.NotEq] [b] pos) (tst (e2 (opEmp true) ma mb)) := sb_cmp (op_neEmp (by omega)) pr_emp ha hb (nomark _)
theorem sb_in (hg : g.K = X.K) (hu : X.A.units + 65 < cLine) (ha : SE X g W a ma) (hb : SE X g W b mb) (hm : behindInMarks .In b = false := by rfl) : SB X g W (.Compare a [.In] [b] pos) (tst (e2 (opIn false) ma mb)) := sb_cmp (op_inA hu) (hg ▸ pr_in) ha hb hm
theorem sb_notIn (hg : g.K = X.K) (hu : X.A.units + 65 < cLine) (ha : SE X g W a ma) (hb : SE X g W b mb) (hm : behindInMarks .NotIn b = false := by rfl) : SB X g W (.Compare a [.NotIn] [b] pos) (tst (e2 (opIn true) ma mb)) := sb_cmp (op_notInA hu) (hg ▸ pr_in) ha hb hm
theorem sb_din (hP : g.P = X.prog) (hw : g.w = X.w) (hK : g.K = X.K) (hu : X.A.units + 64 < cLine) (ha : SE X g W a ma) (hb : SE X g W b mb) (hm : behindInMarks .In b = false := by rfl) : SB X g W (.Compare a [.In] [b] pos) (tst (e2 (opDIn false) ma mb)) := sb_cmp (op_din hP hw hK hu) pr_din ha hb hm
theorem sb_dnotIn (hP : g.P = X.prog) (hw : g.w = X.w) (hK : g.K = X.K) (hu : X.A.units + 64 < cLine) (ha : SE X g W a ma) (hb : SE X g W b mb) (hm : behindInMarks .NotIn b = false := by rfl) : SB X g W (.Compare a [.NotIn] [b] pos) (tst (e2 (opDIn true) ma mb)) := sb_cmp (op_dnotIn hP hw hK hu) pr_din ha hb hm
theorem sb_isN {j pos'} (ha : SE X g W a ma) : SB X g W (.Compare a [.Is] [.Constant .none j pos'] pos) (tst (e1 (opIsN false) ma)) := PT.mono (pt_cmp (pc_isN ha) rfl) fun σ H Q h => by
  obtain ⟨μ, cs, rel, o⟩ := tst_tOf h
  refine ⟨μ, cs, rel, (Out.bind o).mono fun x cs1 μ1 H1 _ k h1 v hv => ?_⟩
  exact isN_val k.rel hv h1 μ1 H1 k _ (.bl _)
theorem sb_notN {j pos'} (ha : SE X g W a ma) : SB X g W (.Compare a [.IsNot] [.Constant .none j pos'] pos) (tst (e1 (opIsN true) ma)) := PT.mono (pt_cmp (pc_notN ha) rfl) fun σ H Q h => by
  obtain ⟨μ, cs, rel, o⟩ := tst_tOf h
  refine ⟨μ, cs, rel, (Out.bind o).mono fun x cs1 μ1 H1 _ k h1 v hv => ?_⟩
  exact isN_val k.rel hv h1 μ1 H1 k _ (.bl _)
theorem chain_read {fi fi' : Int → Int → Bool} {fs fs' : Str → Str → Bool} {Q : VK} (h : tOf g W (eChain fi fs fi' fs' ma mb mc) σ H Q) : tChain (rOrd fi fs) (rOrd fi' fs') (tOf g W ma) (tOf g W mb) (tOf g W mc) σ H Q := by
  obtain ⟨μ, cs, rel, o⟩ := h
  refine ⟨μ, cs, rel, (Out.bind o).mono fun x cs1 μ1 H1 _ k1 h1 v hv => ⟨μ1, cs1, k1.rel, ((Out.bind h1).rebase k1).mono fun y cs2 μ2 H2 _ k2 h2 u hu => ?_⟩⟩
  have k := k1.trans k2
  have hx := hv.step k1.rel k2
  have hy := hu.base k1.keep
  cases e : ordV fi fs x y with
  | none => rw [e] at h2; exact h2.elim
  | some b =>
    rw [e] at h2
    refine ordV_r hx hy e ⟨b, rfl, ?_⟩
    cases b with
    | true =>
      refine iteT ⟨μ2, cs2, k2.rel, ((Out.bind h2).rebase k).mono fun w cs3 μ3 H3 _ k3 h3 t ht => ?_⟩
      exact pr_ord W _ μ H σ cs3 μ3 H3 y w u t Q (k.trans k3) (hy.step k.rel k3) (ht.base k.keep) h3
    | false => exact iteF (h2 μ2 H2 k _ (.bl false))
theorem sb_lele (ha : SE X g W a ma) (hb : SE X g W b mb) (hc : SE X g W c mc) (hm : lastMarks [.LtE, .LtE] [b, c] = false := by rfl) : SB X g W (.Compare a [.LtE, .LtE] [b, c] pos) (tst (eLeLe ma mb mc)) :=
  PT.mono (pt_chain op_leA op_leA ha hb hc hm) fun σ H Q h => chain_read (tst_tOf h)
theorem sb_neG {P : L2.St → Prop} (hg : g.K = X.K) (hu : X.A.units + 64 < cLine) (ha : PE X a (gd P (tOf g W ma))) (hb : SE X g W b mb) : PT X (.Compare a [.NotEq] [b] pos) (gdT P (tOfB g W (tst (e2 opNe ma mb)))) :=
  PT.mono (pt_cmpR (op_neD hu) ha hb (nomark _)) fun _ _ _ h => ⟨h.1, tOf2 (hg ▸ pr_ne) (tst_tOf h.2)⟩
end
end CL

/-! CL30: a, b = x, y. -/
namespace CL
open PySem L2 PyProof.Rows
variable {g : G} {W : WX} {M : Addr → Prop} {μ μ' μ1 μ2 : List Addr} {H H' H0 H1 H2 : Hp} {σ σ1 σ2 : L2.St} {cs cs' cs1 cs2 : CSt} {X : Cx}
def setP (i : Nat) (p : PV) (cs : CSt) : CSt := { cs with sl := cs.sl.set i (.pv p) }
def sPar2 (i j : Nat) (m : CM (List PV)) : CM Fl := do
  let ps ← m
  match ps with
  | [p, q] => fun cs => .ok .nx (setP j q (setP i p cs))
  | _ => stuck
def sPar3 (i j l : Nat) (m : CM (List PV)) : CM Fl := do
  let ps ← m
  match ps with
  | [p, q, r] => fun cs => .ok .nx (setP l r (setP j q (setP i p cs)))
  | _ => stuck
section
variable {i j l : Nat} {x y z : Str} {a b c : Expr} {m : CM (List PV)} {px py pz pt pos : Pos} {kt k2 : Nat} {pt2 : Pos}
theorem ss_par2 (hc : X.calm = true) (hN : X.N.Nodup) (ha : SA X g W [a, b] m) (hij : i ≠ j := by decide) (hi : X.N[i]? = some x := by rfl) (hj : X.N[j]? = some y := by rfl) 
    (hx : X.env.scope.names.lookup x = some .local := by rfl) (hy : X.env.scope.names.lookup y = some .local := by rfl)
    (hw : swappedStores [.Tuple [.Name x px, .Name y py] kt pt] (.Tuple [a, b] k2 pt2) X.env = pure (some [x, y]) := by rfl)
    (hs : swapsWithSole [.Tuple [.Name x px, .Name y py] kt pt] (.Tuple [a, b] k2 pt2) pos.line X.env = pure false := by rfl) :
    SS X g W (.Assign [.Tuple [.Name x px, .Name y py] kt pt] (.Tuple [a, b] k2 pt2) pos) (sPar2 i j m) := PS.mono (ps_par hc hN hi hj hij hx hy ha hw hs) fun D σ H h => by
  obtain ⟨μ, cs, rel, o⟩ := h
  refine ⟨μ, cs, rel, (OutS.bindE o).mono fun ps cs1 μ1 H1 eps k h1 vs hv => ?_⟩
  clear eps
  split at h1
  · rename_i p q
    cases hv with
    | cons r1 t =>
      cases t with
      | cons r2 t =>
        cases t
        refine ⟨_, _, rfl, h1 μ1 _ H1 ((k.trans' (fct_set k.rel r1)).trans' (fct_set (fct_set k.rel r1).rel r2))⟩
  · exact h1.elim
theorem ss_par3 (hc : X.calm = true) (hN : X.N.Nodup) (ha : SA X g W [a, b, c] m) (hij : i ≠ j := by decide) (hil : i ≠ l := by decide) (hjl : j ≠ l := by decide) (hi : X.N[i]? = some x := by rfl) (hj : X.N[j]? = some y := by rfl) (hl : X.N[l]? = some z := by rfl)
    (hx : X.env.scope.names.lookup x = some .local := by rfl) (hy : X.env.scope.names.lookup y = some .local := by rfl) (hz : X.env.scope.names.lookup z = some .local := by rfl)
    (hw : swappedStores [.Tuple [.Name x px, .Name y py, .Name z pz] kt pt] (.Tuple [a, b, c] k2 pt2) X.env = pure (some [x, y, z]) := by rfl)
    (hs : swapsWithSole [.Tuple [.Name x px, .Name y py, .Name z pz] kt pt] (.Tuple [a, b, c] k2 pt2) pos.line X.env = pure false := by rfl) :
    SS X g W (.Assign [.Tuple [.Name x px, .Name y py, .Name z pz] kt pt] (.Tuple [a, b, c] k2 pt2) pos) (sPar3 i j l m) := PS.mono (ps_par3 hc hN hi hj hl hij hil hjl hx hy hz ha hw hs) fun D σ H h => by
  obtain ⟨μ, cs, rel, o⟩ := h
  refine ⟨μ, cs, rel, (OutS.bindE o).mono fun ps cs1 μ1 H1 eps k h1 vs hv => ?_⟩
  clear eps
  split at h1
  · rename_i p q r
    cases hv with
    | cons r1 t =>
      cases t with
      | cons r2 t =>
        cases t with
        | cons r3 t =>
          cases t
          have k1 := fct_set (i := i) k.rel r1
          have k2 := fct_set (i := j) k1.rel r2
          have k3 := fct_set (i := l) k2.rel r3
          exact ⟨_, _, _, rfl, h1 μ1 _ H1 (((k.trans' k1).trans' k2).trans' k3)⟩
  · exact h1.elim
end
end CL

/-! CL31: places in a text; the law's own def; facts of classes. -/
namespace CL
open PySem L2 PyProof.Rows
variable {g : G} {W : WX} {M : Addr → Prop} {μ μ' μ1 μ2 : List Addr} {H H' H0 H1 H2 : Hp} {σ σ1 σ2 : L2.St} {cs cs' cs1 cs2 : CSt} {X : Cx}
/-! ### places -/
def noS : Stmt := .Pass ⟨0, 0, 0, 0⟩
def noE : Expr := .Constant .none 0 ⟨0, 0, 0, 0⟩
def plS (i : Nat) (b : List Stmt) : Stmt := b.getD i noS
def plFor : Stmt → List Stmt
  | .For _ _ b _ _ => b
  | _ => []
def plIfT : Stmt → Expr
  | .If t _ _ _ => t
  | _ => noE
def plIfB : Stmt → List Stmt
  | .If _ b _ _ => b
  | _ => []
def plAsg : Stmt → Expr
  | .Assign _ e _ => e
  | _ => noE
def plExp : Stmt → Expr
  | .Expr e _ => e
  | _ => noE
def plRet : Stmt → Expr
  | .Return (some e) _ => e
  | _ => noE
def plCmp : Expr → Expr
  | .Compare l _ _ _ => l
  | _ => noE
def plBool (i : Nat) : Expr → Expr
  | .BoolOp _ vs _ => vs.getD i noE
  | _ => noE
def plArg (i : Nat) : Expr → Expr
  | .Call _ as _ _ => as.getD i noE
  | _ => noE
def plLst (i : Nat) : Expr → Expr
  | .List es _ => es.getD i noE
  | _ => noE
def plNot : Expr → Expr
  | .UnaryOp _ e _ => e
  | _ => noE
def plBinR : Expr → Expr
  | .BinOp _ _ b _ => b
  | _ => noE
def plBinL : Expr → Expr
  | .BinOp a _ _ _ => a
  | _ => noE
def plCompIf : Expr → Expr
  | .ListComp _ (⟨_, _, ifs, _⟩ :: _) _ _ => ifs.getD 0 noE
  | _ => noE
def ldOf (dn : Option Str) : Expr → LD
  | .Lambda ps b sc _ => ⟨ps, b, sc, dn⟩
  | _ => ⟨⟨[], [], none, [], [], none, []⟩, noE, ⟨.function, [], false, false, []⟩, none⟩
/-! ### a list that was handed in -/
theorem pss_lock {st : List Stmt} {t : TS} (h : PSs X st t) : PSs X st fun D σ H => t D σ H ∨ ∃ a xs, H a = some (.lst xs) ∧ ∀ od, t D σ (upd H a (.frz od (.lst xs))) := ⟨fun pins s σ H D I q => by
  rcases q with z | ⟨a, xs, e, z⟩
  · exact h.run pins s σ H D I z
  · obtain ⟨od, I2⟩ := I.lock e (by trivial)
    exact h.run pins s σ _ D I2 (z od)⟩
/-- what law promises: tables empty, a script of most ints at the most -/
def spLaw (K : PySem.W.Frag) (tP : Addr) : Sp := fun vs H Q _ => ∃ (a : Addr) (ns : List Int), vs = [.ref a] ∧ SqL K H a (ns.map V.int) ∧ ns.length ≤ 63 ∧ H tP = some (.tbl #[]) ∧ ∀ H', Q (.bl true) H'
theorem ints_rel : ∀ ns : List Int, PVsRel g μ H (ns.map PV.int) (ns.map V.int)
  | [] => .nil
  | i :: ns => .cons (.int i) (ints_rel ns)
/-- the reading at law's start -/
theorem law_read {K : PySem.W.Frag} {tP a : Addr} {ns : List Int} {n : Nat} {N : List Str} {m : CM Fl} {Q : VK} {E : XK} (hn : N.length = n) (htP : g.tP = tP) (nolist : ∀ a o, K.lookup a = some o → o.cls ≠ .type "list") (hS : SqL K H a (ns.map V.int)) (hT : H tP = some (.tbl #[])) (hQ : ∀ H', Q (.bl true) H')
    (math : ∃ h, runDef n m [.lst (ns.map PV.int)] [.tbl] = .ok (.pv (.bl true)) h) :
    (fun D σ H => tOfS g (fun cls d _ H => E cls d H) m D σ H ∨ ∃ a xs, H a = some (.lst xs) ∧ ∀ od, tOfS g (fun cls d _ H => E cls d H) m D σ (upd H a (.frz od (.lst xs)))) { nx := fun _ H' => Q .non H', rt := Q } (L2.start N [.ref a]) H := by
  have key : ∀ H : Hp, H tP = some (.tbl #[]) → (∃ o, H a = some (.frz o (.lst (ns.map V.int)))) → tOfS g (fun cls d _ H => E cls d H) m { nx := fun _ H' => Q .non H', rt := Q } (L2.start N [.ref a]) H := fun H hT ⟨o, ho⟩ => by
    have hp : HRel g [tP] [.tbl] H := by
      refine ⟨rfl, by simp, fun l o b h1 h2 => ?_⟩
      cases l with
      | succ l => simp at h1
      | zero =>
        simp at h1 h2
        subst h1 h2
        exact ⟨htP.symm, #[], hT, True.intro, fun pos cv hc => by
          have z : codeAmong pos [] = some cv := hc
          simp [codeAmong] at z⟩
    refine body_out (ps := [.lst (ns.map PV.int)]) hn hp (.cons (.lst ho (ints_rel ns)) .nil) ?_
    obtain ⟨h, e⟩ := math
    rw [e]
    intro μ' H' v _ q
    cases q
    exact hQ H'
  rcases hS with (hS | hS) | ⟨o, its, n, h1, h2, _⟩
  · exact .inr ⟨a, _, hS, fun od => key _ (by rw [upd_ne (fun z => by rw [z, hS] at hT; cases hT)]; exact hT) ⟨od, upd_same⟩⟩
  · exact .inl (key H hT hS)
  · exact absurd h2 (nolist a o h1)
/-! ### facts by Bools -/
def exB (K : PySem.W.Frag) (C : Addr) : Bool := decide (PySem.W.findIn K (.ref C) "__getattribute__" = some (some (.builtin "BaseException.__getattribute__"))) && (decide (PySem.W.findIn K (.ref C) "__getattr__" = some none) && (decide (PySem.W.subIn K (.ref C) (.type "BaseException") = some true) &&
  (PySem.W.hasDictIn K C && (decide (PySem.W.findIn K (.ref C) "__class__" = some (some (.builtin "object.__class__"))) && (decide (PySem.W.specialIn K (.builtin "object.__class__") "__get__" = some (some (.builtin "getset_descriptor.__get__"))) && (decide (PySem.W.takesIn K (.builtin "object.__class__") = some true) && decide (PySem.W.mroIn K C (.type "object") = some true)))))))
theorem exB_ok {K : PySem.W.Frag} {C : Addr} (h : exB K C = true) : ExcC K C := by
  unfold exB at h
  simp only [Bool.and_eq_true, decide_eq_true_eq] at h
  obtain ⟨h1, h2, h3, h4, h5, h6, h7, h8⟩ := h
  exact ⟨h1, h2, h3, h4, h5, h6, h7, h8⟩
/-- an own exception class with its own __init__ -/
def oexB (K : PySem.W.Frag) (C : Addr) : Bool := (match K.lookup C with
  | some ⟨.type t, _, .cls ⟨_, _, .ref C' :: bm, _, _, hd, _, _, _, _, del⟩, sl⟩ => decide (t = "type") && (decide (C' = C) && (hd && (!del && (PySem.HandSPX.refsVE bm && (match sl.toList with
    | [_, _, _, _, some (.builtin n), _] => decide (n = "ValueError.__new__")
    | _ => false)))))
  | _ => false) && (decide (PySem.W.findIn K (.ref C) "__setattr__" = some (some (.builtin "object.__setattr__"))) && (decide (PySem.W.subIn K (.ref C) (.type "BaseException") = some true) && (decide (PySem.W.typeIn K (.ref C) = some (.type "type")) && PySem.W.keepIn K (.ref C))))
theorem oexB_ok {K : PySem.W.Frag} {C : Addr} (h : oexB K C = true) : OexC K C := by
  unfold oexB at h
  simp only [Bool.and_eq_true, decide_eq_true_eq] at h
  obtain ⟨h0, h1, h2, h3, h4⟩ := h
  refine ⟨?_, h1, h2, h3, h4⟩
  split at h0
  · rename_i t dd nm bs C' bm ns q hd sn sub ab col del sl e
    simp only [Bool.and_eq_true, decide_eq_true_eq, Bool.not_eq_true'] at h0
    obtain ⟨a1, a2, a3, a4, a5, a6⟩ := h0
    split at a6
    · rename_i k0 k1 k2 k3 n k5 es
      subst a1 a2 a3 a4
      rw [decide_eq_true_eq] at a6
      subst a6
      have hs : sl = #[k0, k1, k2, k3, some (.builtin "ValueError.__new__"), k5] := by
        obtain ⟨l⟩ := sl
        simp only at es
        rw [es]
      subst hs
      exact ⟨_, _, _, _, bm, _, _, _, _, _, _, _, _, _, _, e, a5⟩
    · cases a6
  · cases h0
def binB (K : PySem.W.Frag) (B : Addr) : Bool := decide (PySem.W.specialIn K (.ref B) "__getattribute__" = some (some (.builtin "type.__getattribute__"))) && (PySem.W.readsIn K B (.type "type") && (match PySem.W.findCls K (.ref B) (.type "type") "__init__" with
  | some (.val v) => decide (v = .builtin "ValueError.__init__")
  | _ => false))
theorem binB_ok {K : PySem.W.Frag} {B : Addr} (h : binB K B = true) : BInit K B := by
  unfold binB at h
  simp only [Bool.and_eq_true, decide_eq_true_eq] at h
  obtain ⟨h1, h2, h3⟩ := h
  refine ⟨h1, h2, ?_⟩
  split at h3
  · rename_i v e
    rw [e, of_decide_eq_true h3]
  · cases h3
end CL
namespace CL
open PySem L2 PyProof.Rows
theorem ag {l : List Bool} (h : l.all id = true) (i : Nat) {b : Bool} (e : l[i]? = some b) : b = true := List.all_eq_true.mp h b (List.mem_of_getElem? e)
theorem cx_never {P : Program} {w : World} {H : Hp} {s : Shared} {e : Value} {s' : Shared} (h : L2.CX P w [] H s (fun _ _ _ => False) e s') : False := by
  obtain ⟨_, _, _, _, _, _, _, _, _, _, _, _, z⟩ := h
  exact z
end CL

/-! CL32: the head's Hook, the interpreter's statics among what is told. -/
namespace CL
open PySem PySem.Spec PyProof.Rows L2 He
def asZ (g : Addr → Option Obj) (n : Nat) : List Addr := He.asD g n ++ [cStatics]
def obsZ (n : Nat) (fa : List Fa) (fn : List DefD) (ts : List Tab) (tf : List Defn) (ex : PySem.W.Frag → Bool) (g : Addr → Option Obj) : AlX := (obsT fa fn ts (frT g (asZ g n)), ex (frT g (asZ g n)) && tabsB g tf (frT g (asZ g n)))
theorem saysZ_of {n : Nat} {fa : List Fa} {fn : List DefD} {ts : List Tab} {tf : List Defn} {ex : PySem.W.Frag → Bool} {w : World} {h : Heap} (e : obsZ n fa fn ts tf ex h.get? = valX fn ts w) : SaysX fa fn ts tf ex w h (frT h.get? (asZ h.get? n)) := by
  have e1 : obsT fa fn ts (frT h.get? (asZ h.get? n)) = valT fn ts w := congrArg (fun z : AlX => z.1) e
  have e2 : (ex (frT h.get? (asZ h.get? n)) && tabsB h.get? tf (frT h.get? (asZ h.get? n))) = true := congrArg (fun z : AlX => z.2) e
  obtain ⟨h1, h2⟩ := ba e2
  have key : ∀ p ∈ tf, PySem.W.codeHdIn (frT h.get? (asZ h.get? n)) (cT (frT h.get? (asZ h.get? n)) p).1 (cT (frT h.get? (asZ h.get? n)) p).2 = true ∧ ∃ o, h.get? (cT (frT h.get? (asZ h.get? n)) p).2 = some o ∧ emptyTab o = true := fun p hp => by
    obtain ⟨h3, h4⟩ := ba (List.all_eq_true.mp h2 p hp)
    refine ⟨h3, ?_⟩
    cases q : h.get? (cT (frT h.get? (asZ h.get? n)) p).2 with
    | none => rw [q] at h4; cases h4
    | some o => rw [q] at h4; exact ⟨o, rfl, h4⟩
  refine ⟨e1, h1, fun p hp => (key p hp).1, fun p hp => ?_, fun p hp => ?_⟩
  · obtain ⟨_, o, q, z⟩ := key p hp
    exact frT_none q z
  · obtain ⟨_, o, q, z⟩ := key p hp
    rw [q, emptyTab_eq z]
def hookZ (n : Nat) (fa : List Fa) (fn : List DefD) (ts : List Tab) (tf : List Defn) (ex : PySem.W.Frag → Bool) : PySem.W.Hook where
  α := AlX
  obs := fun s => obsZ n fa fn ts tf ex s.heap.get?
  val := fun w => valX fn ts w
  says := fun w h => ∃ K : PySem.W.Frag, K.In h ∧ SaysX fa fn ts tf ex w h K
  of := fun _ _ e => ⟨_, frT_in, saysZ_of e⟩
  keeps := fun _ _ _ ⟨K, hK, c⟩ k => ⟨K, PySem.W.Frag.In.keeps hK k, ⟨c.t, c.more, c.hd, c.out, fun p hp => k _ _ (c.empty p hp)⟩⟩
theorem obsZ_eq {n : Nat} {fa : List Fa} {fn : List DefD} {ts : List Tab} {tf : List Defn} {ex : PySem.W.Frag → Bool} {g : Addr → Option Obj} {s : Shared} (h : ∀ a, g a = s.heap.get? a) : obsZ n fa fn ts tf ex g = (hookZ n fa fn ts tf ex).obs s := by
  have e : g = s.heap.get? := funext h
  rw [e] <;> rfl
end CL

/-! CL33: facts of the top, by a class's address. -/
namespace CL
open PySem PySem.Spec PyProof.Rows L2
theorem tabAt {fa : List He.Fa} {fn : List He.DefD} {ts : List He.Tab} {w : World} {K : PySem.W.Frag} (c : He.SaysT fa fn ts w K) (i : Nat) {t : He.Tab} (h : ts[i]? = some t) : He.dicW K (t.1 K) = some (He.keysIn w.params t.2) := by
  have e : ts.map (fun t => He.dicW K (t.1 K)) = ts.map fun t => some (He.keysIn w.params t.2) := congrArg (fun z : He.AlT => z.2) c
  have e2 : (ts.map fun t => He.dicW K (t.1 K))[i]? = (ts.map fun t => some (He.keysIn w.params t.2))[i]? := by rw [e]
  rw [List.getElem?_map, List.getElem?_map, h] at e2
  exact Option.some.inj e2
variable {X : Cx} {g : G} {K : PySem.W.Frag} {mg : Str → Option Value} {C : Addr}
theorem kk1 {n : Nat} {cv : Value} {b : Bool} (e : g.ct n = C) (h1 : exB K C = true) (h2 : decide (PySem.W.kitOne K (.ref C) cv = some b) = true) : ExcC K (g.ct n) ∧ PySem.W.kitOne K (.ref (g.ct n)) cv = some b := by
  subst e
  exact ⟨exB_ok h1, of_decide_eq_true h2⟩
theorem xf1 {n : Nat} {f : Str} (e : g.ct n = C) (h1 : xfB K C = true) (h2 : decide (PySem.W.findIn K (.ref C) f = some none) = true) : XfC K (g.ct n) ∧ PySem.W.findIn K (.ref (g.ct n)) f = some none := by
  subst e
  exact ⟨xfB_ok h1, of_decide_eq_true h2⟩
theorem em1 {n : Nat} {B : Addr} {b : Bool} (e : g.ct n = C) (h : PySem.W.exmOne K (.ref C) (.ref B) = some b) : PySem.W.exmOne K (.ref (g.ct n)) (.ref B) = some b := by
  subst e
  exact h
theorem xcOk_of {c : Nat} {x f n : Str} {fI : Addr} {fd : FuncData} (e : g.ct c = C) (hm : X.mg x = some (.ref C)) (h1 : OexC X.K C) (h2 : PySem.W.findIn X.K (.ref C) "__init__" = some (some (.ref fI))) (h3 : PySem.W.typeIn X.K (.ref fI) = some (.type "function"))
    (h4 : FnOk X.prog X.w X.K X.mg X.base C8.CX0 1 fI fd ["self", n] (spXI C f)) (h5 : L2.Binds X.K fd ["self", n] []) : XcOk X g c x f := by
  subst e
  exact ⟨⟨fI, fd, n, hm, h1, h2, h3, h4, h5⟩⟩
theorem excOk_of {c : Nat} {x : Str} (e : g.ct c = C) (h0 : mg x = some (.ref C))
    (h : PySem.W.excIn K C [.type "ValueError", .type "Exception", .type "BaseException", .type "object"] "ValueError.__new__" = true ∧ PySem.W.keepIn K (.ref C) = true ∧ PySem.W.subIn K (.ref C) (.type "BaseException") = some true ∧ PySem.W.typeIn K (.ref C) = some (.type "type")) : ExcOk K mg g c x := by
  subst e
  exact ⟨h0, h.1, h.2.1, h.2.2.1, h.2.2.2⟩
end CL

/-! CL34: texts: split, join, times, int of a text. -/
namespace CL
open PySem L2 PyProof.Rows
variable {g : G} {W : WX} {M : Addr → Prop} {μ μ' μ1 μ2 : List Addr} {H H' H0 H1 H2 : Hp} {σ σ1 σ2 : L2.St} {cs cs' cs1 cs2 : CSt} {X : Cx}
theorem pvs_strs : ∀ {ys : List Str} {vs : List V}, PVsRel g μ H (ys.map .str) vs → vs = ys.map V.str
  | [], _, .nil => rfl
  | y :: ys, _, .cons r t => by cases r; rw [pvs_strs t]; rfl
theorem strs_pvs : ∀ (ys : List Str), PVsRel g μ H (ys.map .str) (ys.map V.str)
  | [] => .nil
  | y :: ys => .cons (.str y) (strs_pvs ys)
/-- x.split(sep) -/
def strSplit (x : RV) (ps : List PV) : CM RV := fun cs => match x, ps with
  | .pv (.str a), [.str b] => if decide (b.length ≠ 0) && decide (a.length + 2 ≤ 16777216) then .ok (.own (.list ((Txt.split a b).map .str))) cs else .stuck
  | _, _ => .stuck
theorem pr_split : PrM g (fun x xs H Q => ∃ a b, x = V.str a ∧ xs = [V.str b] ∧ (b.length == 0) = false ∧ a.length + 2 ≤ sizeLine ∧ rNewStrs (Txt.split a b) H Q) strSplit := fun W M μ H σ cs2 μ2 H2 x v ps vs Q k hx hp o => by
  unfold strSplit at o
  split at o
  · rename_i a b
    split at o
    · rename_i z
      simp only [Bool.and_eq_true, decide_eq_true_eq] at z
      cases hx
      cases hp with
      | cons q r =>
        cases r
        cases q
        exact ⟨a, b, rfl, rfl, by simpa using z.1, z.2, fun p hp => o μ2 _ (k.fresh hp) _ (RVRel.new k hp ⟨_, upd_same, strs_pvs _⟩)⟩
    · exact o.elim
  · exact o.elim
/-- the texts of a list -/
def strsP : List PV → Option (List Str)
  | [] => some []
  | .str x :: r => (strsP r).map (x :: ·)
  | _ :: _ => none
theorem strsP_map : ∀ ys : List Str, strsP (ys.map .str) = some ys
  | [] => rfl
  | y :: ys => by rw [List.map_cons, strsP, strsP_map ys]; rfl
theorem strsP_some : ∀ {ps : List PV} {ys : List Str}, strsP ps = some ys → ps = ys.map .str
  | [], _, h => by cases h; rfl
  | .str x :: r, ys, h => by
    rw [strsP, Option.map_eq_some_iff] at h
    obtain ⟨zs, h1, rfl⟩ := h
    rw [strsP_some h1]; rfl
  | .non :: _, _, h => by cases h
  | .bl _ :: _, _, h => by cases h
  | .int _ :: _, _, h => by cases h
  | .tup _ :: _, _, h => by cases h
  | .lst _ :: _, _, h => by cases h
  | .loc _ :: _, _, h => by cases h
  | .clo _ _ :: _, _, h => by cases h
def joinF (a : Str) (ps : List PV) (cs : CSt) : CRes RV := match strsP ps with
  | some ys => if (ys.map (·.length)).sum + ys.length * a.length ≤ 16777216 then .ok (.pv (.str (Txt.join a ys))) cs else .stuck
  | none => .stuck
/-- sep.join(texts) -/
def strJoin (x : RV) (ps : List PV) : CM RV := fun cs => match x, ps with
  | .pv (.str a), [.lst ys] => joinF a ys cs
  | .pv (.str a), [.tup ys] => joinF a ys cs
  | _, _ => .stuck
def rJoinC (K : PySem.W.Frag) : V → List V → Hp → VK → Prop := fun x xs H Q => ∃ a p, ∃ ys : List Str, x = .str a ∧ xs = [.ref p] ∧ (Rd H p (.lst (ys.map V.str)) ∨ SqT K H p (ys.map V.str)) ∧
    (ys.map (·.length)).sum + ys.length * a.length ≤ 16777216 ∧ Q (.str (Txt.join a ys)) H
theorem pr_join : PrM g (rJoinC g.K) strJoin := fun W M μ H σ cs2 μ2 H2 x v ps vs Q k hx hp o => by
  have fin : ∀ (a : Str) (ps : List PV) (p : Addr) (vs : List V), PVsRel g μ2 H2 ps vs → (Rd H2 p (.lst vs) ∨ SqT g.K H2 p vs) → Out g W M μ H σ (joinF a ps cs2) (fun rv cs' μ' H' => ∀ v, RVRel g M H μ' cs' σ H' rv v → Q v H') → rJoinC g.K (.str a) [.ref p] H2 Q := by
    intro a ps p vs h1 h2 o
    unfold joinF at o
    split at o
    · rename_i ys e
      split at o
      · rename_i z
        have := strsP_some e
        subst this
        have := pvs_strs h1
        subst this
        exact ⟨a, p, ys, rfl, rfl, h2, z, o μ2 H2 k _ (.str _)⟩
      · exact o.elim
    · exact o.elim
  unfold strJoin at o
  split at o
  · rename_i a ys
    cases hx
    cases hp with
    | cons q r =>
      cases r
      cases q with
      | lst h1 h2 => exact fin a ys _ _ h2 (.inl (.inr ⟨_, h1⟩)) o
  · rename_i a ys
    cases hx
    cases hp with
    | cons q r =>
      cases r
      obtain ⟨p, vs, rfl, h1, h2⟩ := tup_inv q
      exact fin a ys _ _ h2 (.inr h1) o
  · exact o.elim
theorem mt_joinC : MtR X "str.join" (rJoinC X.K) := by
  intro pins s σ H x xs v us Q I rx rs h
  obtain ⟨a, p, ys, rfl, rfl, hp, hz, h⟩ := h
  obtain ⟨t, rfl⟩ := rx
  obtain ⟨u, rfl, ru⟩ := rs.one
  cases ru
  have fin : ∀ (t' : Tok) (k : Nat), EP X pins σ Q (.str (Txt.join a ys) t') { s with toks := k } := fun t' k => ⟨.str _, H, I.tok k, ⟨t', rfl⟩, h⟩
  rcases hp with hp | hp
  · obtain ⟨z, its, n, r, hl, e⟩ := I.lstR hp
    exact PyProof.Rows.join_list (items := its.toArray) ⟨_, e, rfl, n, rfl⟩ (by rw [List.toList_toArray]; exact strs_of_vals r) hz fin
  · obtain ⟨its, r, ht, _⟩ := I.tuple hp
    exact PyProof.Rows.join_tuple (items := its.toArray) ht (by rw [List.toList_toArray]; exact strs_of_vals r) hz fin
/-- int(text) -/
def opIntS (x : RV) : CM RV := fun cs => match x with
  | .pv (.str a) => match PySem.intText? a with
    | some n => if a.length ≤ 640 then .ok (.pv (.int n)) cs else .stuck
    | none => .stuck
  | _ => .stuck
theorem pr_intS : Pr1 g (fun v H Q => ∃ a n, [v] = [V.str a] ∧ PySem.intText? a = some n ∧ a.length ≤ 640 ∧ Q (.int n) H) opIntS := fun W M μ H σ cs2 μ2 H2 x v Q k hx o => by
  unfold opIntS at o
  split at o
  · rename_i a
    split at o
    · rename_i n e
      split at o
      · rename_i z
        cases hx
        exact ⟨a, n, rfl, e, z, o μ2 H2 k _ (.int _)⟩
      · exact o.elim
    · exact o.elim
  · exact o.elim
theorem se_intS {e : Expr} {m : CM RV} {p pos : Pos} (hK : g.K = X.K) (hm : X.mg "int" = none) (ha : SE X g W e m) (hg : Gl X "int" := by rfl) (he : starEach [e] X.env = (false, eval e X.env) :: starEach [] X.env := by rfl) : SE X g W (.Call (.Name "int" p) [e] [] pos) (e1 opIntS m) := se_ct1 call_int_str pr_intS hm ha hg (by decide +kernel) (by decide) (by decide) he rfl
/-- a text, once or not at all -/
def opMulS (x y : RV) : CM RV := fun cs => match x, y with
  | .pv (.str a), .pv (.int k) => if decide (0 ≤ k) && decide (k ≤ 1) then .ok (.pv (.str (if k = 0 then Str.empty else a))) cs else .stuck
  | _, _ => .stuck
def rMulS : R2 := fun x y H Q => ∃ a k, x = .str a ∧ y = .int k ∧ 0 ≤ k ∧ k ≤ 1 ∧ Q (.str (if k = 0 then Str.empty else a)) H
theorem op_mulS : OpR X (binaryOp .Mult) rMulS := by
  intro pins s σ H x y v u Q I rx ry h
  obtain ⟨a, k, rfl, rfl, h0, h1, q⟩ := h
  obtain ⟨t, rfl⟩ := rx
  obtain ⟨t2, rfl⟩ := ry
  have hk : k = 0 ∨ k = 1 := by omega
  refine SB.mul (x := a) (n := k) ?_ fun t' j => ⟨.str _, H, I.tok j, ⟨t', ?_⟩, q⟩
  · refine ⟨?_, fun h h' => ?_, fun h h' => ?_⟩
    · rcases hk with rfl | rfl <;> decide
    · rcases hk with rfl | rfl
      · exact absurd (by decide) h
      · simp at h'
    · rcases hk with rfl | rfl
      · exact absurd (by decide) h
      · simp at h'
  · rcases hk with rfl | rfl
    · rfl
    · rfl
theorem pr_mulS : Pr2 g rMulS opMulS := fun W M μ H σ cs2 μ2 H2 x y v u Q k hx hy o => by
  unfold opMulS at o
  split at o
  · split at o
    · rename_i z
      simp only [Bool.and_eq_true, decide_eq_true_eq] at z
      cases hx
      cases hy
      exact ⟨_, _, rfl, rfl, z.1, z.2, o μ2 H2 k _ (.str _)⟩
    · exact o.elim
  · exact o.elim
theorem se_mulS {a b : Expr} {ma mb : CM RV} {pos : Pos} (ha : SE X g W a ma) (hb : SE X g W b mb) : SE X g W (.BinOp a .Mult b pos) (e2 opMulS ma mb) := se_op op_mulS pr_mulS ha hb
end CL

/-! CL35: set(xs), whatever its items are: from how one item is added. -/
namespace CL
open PySem PySem.Spec PyProof.Rows L2
/-- a new set -/
def set0 (w : World) : Obj := { cls := .type "set", dict := none, data := .set #[] 0 (.fresh 0 0 (!w.params.followText "set-order")) }
section
variable {P : Program} {w : World} {A : Around} {E : Value → Shared → Prop} {s : Shared}
variable {I : Addr} {fp wr : List Addr} {G : Array GenState → Array GenState → Prop} {n : Nat} {Pv : Nat → Value → Prop} {St : Nat → Shared → Prop}
/-- how an item is added to the set at p: J i says what stands there behind i items -/
def Adds (P : Program) (w : World) (A : Around) (p : Addr) (J : Nat → Heap → Prop) (n : Nat) (Pv : Nat → Value → Prop) : Prop :=
  ∀ i v (s : Shared) (Q : Bool → Shared → Prop) (E : Value → Shared → Prop), i < n → Pv i v → J i s.heap →
    (∀ b h' tk, s.toks ≤ tk → Heap.SameBut p s.heap h' → J (i + 1) h' → Q b { s with heap := h', toks := tk }) → wpAny (model P w) A (setAdd p v) Q E s
/-- what stands there isn't changed by others -/
def Calm (p : Addr) (low : Addr → Prop) (J : Nat → Heap → Prop) : Prop := ∀ i h h', J i h → (∀ b o, (b = p ∨ low b) → h.get? b = some o → h'.get? b = some o) → J i h'
theorem fill_set (W : WalksS P w A.in1 I fp wr G n Pv St) {p : Addr} {J : Nat → Heap → Prop} {low : Addr → Prop} (hp : p ∉ fp) (hl : ∀ b ∈ wr, ¬ low b) (calm : Calm p low J) (add : Adds P w A.in1 p J n Pv) {R : Result → Shared → Prop} :
    ∀ (k i : Nat) (s : Shared), n - i = k → i ≤ n → St i s → J i s.heap → (∀ s', Moved (p :: wr) G s s' → J n s'.heap → R (.ok (.ret .none)) s') → codeAny (model P w) A (.builtin "set.update.loop" ⟨[.ref p, .ref I], []⟩) R s := by
  have hpw : p ∉ wr := fun h => hp (W.sub _ h)
  have up : ∀ b ∈ wr, b ∈ p :: wr := fun b hb => List.mem_cons_of_mem _ hb
  have cm : ∀ {i : Nat} {s s' : Shared}, Moved wr G s s' → J i s.heap → J i s'.heap := fun hm j => calm _ _ _ j fun b o hb e => hm.heap b o (fun hw => by
    rcases hb with rfl | hb
    · exact hpw hw
    · exact hl b hw hb) e
  intro k
  induction k with
  | zero =>
    intro i s e hi hst j hR
    obtain rfl : i = n := by omega
    apply codeAny_builtin F.entry_set_update_loop
    rw [Around.under_plainId F.plain_set_update_loop]
    refine wpAny_bind (m := pyNext (.ref I)) (W.done s _ _ hst fun s' hm => wpAny_pure (hR s' (hm.mono up) (cm hm j)))
  | succ k ih =>
    intro i s e hi hst j hR
    have lt : i < n := by omega
    apply codeAny_builtin F.entry_set_update_loop
    rw [Around.under_plainId F.plain_set_update_loop]
    refine wpAny_bind (m := pyNext (.ref I)) (W.item i s _ _ lt hst fun v s' hP hst' hm => ?_)
    show wpAny _ _ (holding [v] (setAdd p v) >>= _) _ _ s'
    refine wpAny_bind (wpAny_holding (add i v s' _ _ lt hP (cm hm j) fun b h' tk ht sb j' => ?_))
    have hst2 := W.frame (i + 1) s' h' tk hst' ht fun b hb o e => by
      rw [sb.2 b fun z => hp (by rw [← z]; exact hb)]; exact e
    refine wpAny_pure ⟨plainId_quiet F.plain_set_update_loop _, ih (i + 1) _ (by omega) lt hst2 j' fun s'' hm2 j2 => hR s'' (Moved.trans W.gtrans ((hm.mono up).then_heap ht fun b o hb e => ?_) hm2) j2⟩
    rw [sb.2 b fun z => hb (by rw [z]; exact List.mem_cons_self)]; exact e
set_option maxHeartbeats 8000000 in
/-- set(xs) of a list -/
theorem set_of_list {l : Addr} {items : Array Value} {J : Nat → Heap → Prop} {Q : Value → Shared → Prop} (hh : A.handled = none) (hl : s.heap.IsList l items) (calm : Calm s.heap.objs.size (fun b => b < s.heap.objs.size) J)
    (j0 : ∀ h, h.get? s.heap.objs.size = some (set0 w) → (∀ b o, s.heap.get? b = some o → h.get? b = some o) → J 0 h) (add : ∀ A', A'.units ≤ A.units + 4 → Adds P w A' s.heap.objs.size J items.size fun i v => items[i]? = some v)
    (h : ∀ h' tk, J items.size h' → (∀ b o, s.heap.get? b = some o → h'.get? b = some o) → Q (.ref s.heap.objs.size) { s with heap := h', toks := tk }) : wpAny (model P w) A (call (.type "set") [.ref l]) Q E s := by
  obtain ⟨c, tl, hmro⟩ := F.called_set.mro
  have hm1 := F.called_set.made
  have hm2 := F.called_set.sub
  have hm3 := F.called_set.notType
  have hm4 := F.called_set.canCreate
  have hm5 := F.typeCall_set_1 (.ref l)
  refine wpAny_call (codeAny_of_tree (M := model P w) ?_)
  show wpAny _ _ (callAny (.type "set") _) _ _ _
  refine wpAny_pure ⟨Code.quiet_builtin _ (by decide +kernel), codeAny_builtin (prog := P) F.entry_type_call ?_⟩
  rw [Around.under_plain (weight_type_call_type "set" [.ref l] []) rfl]
  repeat (any_goals (first | assumption | wp_step))
  have ob : (s.heap.push (set0 w)).get? s.heap.objs.size = some (set0 w) := Heap.get?_push_size _ rfl
  refine codeAny_mono (code_set_led1 (.ref l) (E := E) (Q₁ := fun v s1 => v = .ref s.heap.objs.size ∧ s1 = { s with heap := s.heap.push (set0 w) }) ⟨rfl, rfl⟩) fun r s1 hr => ?_
  cases r with
  | error e => exact hr
  | ok fl =>
    cases fl with
    | ret v =>
      obtain ⟨rfl, rfl⟩ := hr
      have hT : Shared.TypeIs { s with heap := s.heap.push (set0 w) } (.ref s.heap.objs.size) "set" := ⟨_, ob, rfl⟩
      have hi1 := F.called_set.init.lookup
      have hi2 := F.called_set.init.bind (.ref s.heap.objs.size)
      repeat (any_goals (first | assumption | wp_step))
      refine codeAny_mono (codeAny_call_builtin (R := wants (fun r s2 => r = .none ∧ ∃ h' tk, s2 = { s with heap := h', toks := tk } ∧ J items.size h' ∧ ∀ b o, s.heap.get? b = some o → h'.get? b = some o) E) F.called_set.init.plain F.entry_set_init (check_set_init_1 hT ?_)) fun r2 s2 hr2 => ?_
      · have hlt : l < s.heap.objs.size := Heap.lt_size hl.choose_spec.1
        obtain ⟨⟨oc, od, oa, os⟩, ho, hc, nl, hd⟩ := hl
        simp only at hc hd
        subst hc hd
        have ho2 : (s.heap.push (set0 w)).get? l = some { cls := .type "list", dict := od, data := .seq items nl, slots := os } := Heap.get?_push_of_some _ ho
        have e1 := F.sub_list_set
        have e2 := F.sub_list_frozenset
        have e3 : (Value.type "list" == Value.type "dict") = false := by decide
        have hl1 : (s.heap.push (set0 w)).IsList l items := ⟨_, ho2, rfl, nl, rfl⟩
        unfold Builtin.«set.__init__» noKeywords Builtin.Frozenset.updateFrom
        generalize hPI : pyIter = PI
        wp_walk
        subst hPI
        refine wpAny_pyIter_list hl1 (wpAny_bind (m := runValue _) (wpAny_runValue ?_))
        have hh3 : A.in1.in1.in1.handled = none := by simp [hh]
        have hsz : (s.heap.push (set0 w)).objs.size = s.heap.objs.size + 1 := Heap.size_push ..
        have ne1 : l ≠ (s.heap.push (set0 w)).objs.size := hsz ▸ Nat.ne_of_lt (Nat.lt_succ_of_lt hlt)
        refine fill_set (p := s.heap.objs.size) (low := fun b => b < s.heap.objs.size) ((Walks.list hh3 _ l ne1 items).toS) (fun z => (List.mem_cons.mp z).elim (fun z => absurd (z.trans hsz) (Nat.ne_of_lt (Nat.lt_succ_self _))) fun z => absurd (List.mem_singleton.mp z).symm (Nat.ne_of_lt hlt)) (fun b hb => by rw [List.mem_singleton.mp hb, hsz]; exact Nat.not_lt_of_le (Nat.le_succ _)) calm (add _ (by simp only [Around.in1_units]; omega)) (items.size - 0) 0 _ (by omega) (Nat.zero_le _)
          ⟨⟨_, Heap.get?_push_size _ rfl, rfl, rfl⟩, (hl1.push _)⟩ (j0 _ (Heap.get?_push_of_some _ ob) fun b o e => Heap.get?_push_of_some _ (Heap.get?_push_of_some _ e)) fun s' hm j => ?_
        obtain ⟨h', g2, d', tk', os'⟩ := s'
        obtain rfl : g2 = s.gens := hm.gens
        obtain rfl : d' = s.drawn := hm.drawn
        obtain rfl : os' = s.os := hm.os
        show wpAny _ _ _ _ _ _
        refine wpAny_pure ?_
        show wpAny _ _ (ret Value.none) _ _ _
        refine wpAny_pure ⟨rfl, h', tk', rfl, j, fun b o e => ?_⟩
        have hb := Heap.lt_size e
        exact hm.heap b o (fun z => (List.mem_cons.mp z).elim (Nat.ne_of_lt hb) fun z => absurd ((List.mem_singleton.mp z).trans hsz) (Nat.ne_of_lt (Nat.lt_succ_of_lt hb))) (Heap.get?_push_of_some _ (Heap.get?_push_of_some _ e))
      · cases r2 with
        | error e => exact hr2
        | ok fl2 =>
          cases fl2 with
          | ret r =>
            obtain ⟨rfl, h', tk, rfl, j, hk⟩ := hr2
            repeat (any_goals (first | assumption | wp_step))
            exact h _ _ j hk
          | _ => exact hr2.elim
    | _ => exact hr.elim
end
end CL

/-! CL36: sets of flat items (texts), and sets sorted. -/
namespace CL
open PySem PySem.Spec PyProof.Rows L2
section
variable {P : Program} {w : World} {A : Around} {E : Value → Shared → Prop} {s : Shared} {K : Type} [DecidableEq K]
/-- an entry of a set of flat items -/
def FlatE (knd : KeyKind P w K) (kf : Value → K) (e : Int × Value) : Prop := knd.is (kf e.2) e.2 = true ∧ e.1 = knd.hash (kf e.2) ∧ e.2.scannable = true
/-- a table that can be walked -/
structure TabW (w : World) (es : Array (Int × Value)) (t : SetTable) : Prop where
  fits : t.fits es.size = true
  ris : Ris t.place.toList
  led : w.params.followText "set-order" = true ∨ t.led = true
/-- the set at p has the first i keys -/
def FlatJ (knd : KeyKind P w K) (kf : Value → K) (p : Addr) (ks : List K) (i : Nat) (h : Heap) : Prop := ∃ o es ep t, h.get? p = some o ∧ o.ExactSet ∧ o.data = .set es ep t ∧
  (∀ e ∈ es.toList, FlatE knd kf e) ∧ (es.toList.map fun e => kf e.2).Nodup ∧ (∀ k, k ∈ (es.toList.map fun e => kf e.2) ↔ k ∈ ks.take i) ∧ es.size ≤ i ∧ TabW w es t
variable {knd : KeyKind P w K} {kf : Value → K} {p : Addr} {ks : List K}
theorem FlatE.elems {l : List (Int × Value)} (g : ∀ e ∈ l, FlatE knd kf e) : ElemsOf knd l := fun e he => ⟨⟨_, (g e he).1, (g e he).2.1⟩, (g e he).2.2⟩
theorem FlatE.at {e : Int × Value} (g : FlatE knd kf e) {k : K} : knd.is k e.2 = true ↔ kf e.2 = k := ⟨fun h => knd.inj _ _ _ g.1 h, fun h => h ▸ g.1⟩
theorem flat_calm {low : Addr → Prop} : Calm p low (FlatJ knd kf p ks) := fun i h h' ⟨o, es, ep, t, ho, r⟩ hk => ⟨o, es, ep, t, hk p o (.inl rfl) ho, r⟩
theorem flat_new {h : Heap} (e : h.get? p = some (set0 w)) : FlatJ knd kf p ks 0 h := ⟨_, #[], 0, _, e, ⟨rfl, rfl, rfl⟩, rfl, by simp, by simp, by simp, Nat.le_refl _, rfl, List.Pairwise.nil, by
  show _ ∨ (!w.params.followText "set-order") = true
  cases w.params.followText "set-order" <;> simp⟩
/-- what is stored behind the search -/
theorem flat_store {g : Bool → Sem Unit} (hg : ∀ (b : Bool) (s : Shared) (Q : Unit → Shared → Prop), Q () s → wpAny (model P w) A (g b) Q E s) {o : Obj} {es : Array (Int × Value)} {ep : Nat} {t : SetTable} (ho : s.heap.get? p = some o) (hx : o.ExactSet) (hd : o.data = .set es ep t)
    {es1 : Array (Int × Value)} {t1 : SetTable} {i : Nat} (g1 : ∀ e ∈ es1.toList, FlatE knd kf e) (nd : (es1.toList.map fun e => kf e.2).Nodup) (mm : ∀ k, k ∈ (es1.toList.map fun e => kf e.2) ↔ k ∈ ks.take i) (hs : es1.size ≤ i) (hi : i < scanBound) (T : TabW w es1 t1) {d : Bool} {R : Option Bool → Shared → Prop}
    (hR : ∀ h', Heap.SameBut p s.heap h' → FlatJ knd kf p ks i h' → R (some true) { s with heap := h' }) :
    wpAny (model P w) A (storeSet p es1 t1 >>= fun _ => if (!d && t1.tooFull) = true then g (relayAll t1 es1 (SetTable.grown es1.size)).2.2 >>= fun _ => storeSet p (relayAll t1 es1 (SetTable.grown es1.size)).1 (relayAll t1 es1 (SetTable.grown es1.size)).2.1 >>= fun _ => pure (some true) else pure (some true)) R E s := by
  have lt1 : es1.size < scanBound := Nat.lt_of_le_of_lt hs hi
  refine wpAny_bind (wpAny_storeSet_of ho hd ?_ (fits_of_scanBound lt1))
  have o1 := store_at (es' := es1) (t' := t1) ho hd
  have sb := Heap.SameBut.update s.heap p (Obj.putSet es1 t1)
  split
  · have pm := relayAll_perm t1 es1 (SetTable.grown es1.size)
    have a1 := relayAll_fits t1 es1 (SetTable.grown es1.size)
    have a2 := relayAll_ris t1 es1 (SetTable.grown es1.size)
    have a3 := relayAll_led t1 es1 (SetTable.grown es1.size)
    generalize relayAll t1 es1 (SetTable.grown es1.size) = Z at pm a1 a2 a3 ⊢
    obtain ⟨es2, t2, gave⟩ := Z
    dsimp only at pm a1 a2 a3 ⊢
    have sz : es2.size = es1.size := by have := pm.length_eq; simpa using this
    refine wpAny_bind (hg _ _ _ (wpAny_bind (wpAny_storeSet_of o1 rfl ?_ (fits_of_scanBound (by rw [sz]; exact lt1)))))
    have o2 := store_at (es' := es2) (t' := t2) o1 rfl
    exact wpAny_pure (hR _ (sb.trans (Heap.SameBut.update _ p _)) ⟨_, es2, _, t2, o2, hx, rfl, fun e he => g1 e (pm.mem_iff.mp he), (pm.map _).nodup_iff.mpr nd, fun k => (pm.map fun e : Int × Value => kf e.2).mem_iff.trans (mm k), by omega, a1, a2, T.led.imp id fun z => a3.trans z⟩)
  · exact wpAny_pure (hR _ sb ⟨_, es1, _, t1, o1, hx, rfl, g1, nd, mm, hs, T⟩)
theorem flat_adds (hn : ks.length < scanBound) : Adds P w A p (FlatJ knd kf p ks) ks.length fun i v => ∃ k, ks[i]? = some k ∧ knd.is k v = true ∧ kf v = k ∧ v.scannable = true := by
  intro i v s Q E hi ⟨k, hk, kv, kfv, sc⟩ ⟨o, es, ep, t, ho, hx, hd, g, nd, mm, hs, T⟩ hQ
  have fe : ElemsOf knd es.toList := FlatE.elems g
  have nb : es.size < scanBound := by omega
  have tk1 : ks.take (i + 1) = ks.take i ++ [k] := by rw [List.take_add_one, hk]; rfl
  unfold setAdd
  refine wpAny_holding (wpAny_bind (knd.pyHash kv ?_))
  unfold setAddHashed setAddHashedIn
  refine wpAny_holding (wpAny_bind (wpAny_setState_of ho hd T.fits ?_))
  dsimp only
  rw [byScan_of sc nb fe, if_pos rfl]
  unfold setAddByScan
  refine wpAny_bind (wpAny_bind (wpAny_rule (wpAny_bind (wpAny_setScan_of (s := { s with toks := s.toks + 1 }) kv ho hd T.fits fe ?_))))
  cases hf : List.findIdx? (fun e => knd.is k e.2) es.toList with
  | some j =>
    dsimp only
    obtain ⟨hj, pj, _⟩ := List.findIdx?_eq_some_iff_getElem.mp hf
    have him : k ∈ ks.take i := (mm k).mp (List.mem_map.mpr ⟨_, List.getElem_mem hj, (g _ (List.getElem_mem hj)).at.mp pj⟩)
    refine wpAny_pure (wpAny_pure (hQ false s.heap (s.toks + 1) (Nat.le_succ _) (Heap.SameBut.refl p s.heap) ⟨o, es, ep, t, ho, hx, hd, g, nd, fun j => ?_, Nat.le_succ_of_le hs, T⟩))
    rw [mm j, tk1, List.mem_append, List.mem_singleton]
    exact ⟨.inl, fun z => z.elim id fun z => z ▸ him⟩
  | none =>
    dsimp only
    have hnm : k ∉ es.toList.map fun e => kf e.2 := fun z => by
      obtain ⟨e, he, q⟩ := List.mem_map.mp z
      have := List.findIdx?_eq_none_iff.mp hf e he
      rw [(g e he).at.mpr q] at this; cases this
    have gw : ∀ (b : Bool) (s : Shared) (Q : Unit → Shared → Prop), Q () s → wpAny (model P w) A (match b with | true => rule "set.scan.the-table-gave-way" | false => pure ()) Q E s :=
      fun b s Q q => by cases b; exact wpAny_pure q; exact wpAny_rule q
    have pm := layNew_perm t es (knd.hash k) v
    have a1 := layNew_fits t es (knd.hash k) v
    have a2 := layNew_ris t es (knd.hash k) v T.ris
    have a3 := layNew_led t es (knd.hash k) v
    generalize layNew t es (knd.hash k) v = Z at pm a1 a2 a3 ⊢
    obtain ⟨es1, t1, d, gave⟩ := Z
    dsimp only at pm a1 a2 a3 ⊢
    rw [Array.toList_push] at pm
    have pc : es1.toList.Perm ((knd.hash k, v) :: es.toList) := pm.trans (List.perm_append_singleton _ _)
    have pk : (es1.toList.map fun e => kf e.2).Perm (k :: es.toList.map fun e => kf e.2) := by have := pc.map fun e : Int × Value => kf e.2; rwa [List.map_cons, kfv] at this
    have g1 : ∀ e ∈ es1.toList, FlatE knd kf e := fun e he => by
      rcases List.mem_cons.mp (pc.mem_iff.mp he) with z | z
      · rw [z]; exact ⟨by rw [kfv]; exact kv, by rw [kfv], sc⟩
      · exact g e z
    have nd1 := pk.nodup_iff.mpr (List.nodup_cons.mpr ⟨hnm, nd⟩)
    have m1 : ∀ j, j ∈ (es1.toList.map fun e => kf e.2) ↔ j ∈ ks.take (i + 1) := fun j => by
      rw [pk.mem_iff, List.mem_cons, mm j, tk1, List.mem_append, List.mem_singleton]; exact Or.comm
    have sz : es1.size ≤ i + 1 := by have := pc.length_eq; simp only [Array.length_toList, List.length_cons] at this; omega
    have fin : ∀ h', Heap.SameBut p s.heap h' → FlatJ knd kf p ks (i + 1) h' → Q true { s with heap := h', toks := s.toks + 1 } := fun h' sb j => hQ true h' _ (Nat.le_succ _) sb j
    have TW : ∀ b : Bool, TabW w es1 (if b = true then t1 else { t1 with plain := false }) := fun b => by
      have L := T.led.imp id fun z => a3.trans z
      cases b
      · exact ⟨SetTable.fits_plain_off a1, a2, L⟩
      · exact ⟨a1, a2, L⟩
    refine wpAny_bind (gw _ _ _ ?_)
    split
    · rw [hashByValue_scannable 8 sc]
      refine wpAny_bind (wpAny_pure ?_)
      exact flat_store (s := { s with toks := s.toks + 1 }) gw ho hx hd g1 nd1 m1 sz (by omega) (TW _) fun h' sb j => wpAny_pure (fin h' sb j)
    · refine wpAny_bind (wpAny_pure ?_)
      exact flat_store (s := { s with toks := s.toks + 1 }) gw ho hx hd g1 nd1 m1 sz (by omega) (TW true) fun h' sb j => wpAny_pure (fin h' sb j)
end
end CL

/-! CL37: sorted(set(xs)), len(set(xs)). -/
namespace PySem.W
open PySem PySem.Calls PyProof.Rows SeqAt
section
variable {prog : Program} {w : World} {A : Around} {E : Value → Shared → Prop} {s : Shared} {β : Type} {vs : List Value} {bs : List β} {enc : β → PyData} {R : Value → β → Prop}
theorem sortsG (er : EachIs (fun v b => ∃ as, Reads s.heap v (enc b) as) vs bs) (hal : AllAlike (bs.map enc)) (hk : (∀ b ∈ bs, ∃ d, enc b = .tuple d) ∨ ∀ b ∈ bs, enc b ≠ .none ∧ ∀ xs, enc b ≠ .tuple xs) (hu : ∀ b, b ∈ bs → A.units + (enc b).depth < cLine) :
    SortsAt prog w A s (dataKind s.heap (bs.map enc)) vs := by
  have hu2 : ∀ d, d ∈ bs.map enc → A.units + d.depth < cLine := fun d hd => by
    obtain ⟨b, hb, rfl⟩ := List.mem_map.mp hd; exact hu b hb
  by_cases hs : Sortable (bs.map enc)
  · exact SortsAt.data (each_map (R := fun v d => ∃ as, Reads s.heap v d as) enc er) hal hs hu2
  have ht : ∀ b ∈ bs, ∃ d, enc b = .tuple d := hk.elim id fun hk => absurd (.inr fun d hd => by
    obtain ⟨b, hb, rfl⟩ := List.mem_map.mp hd; exact hk b hb) hs
  have key : ∀ l : List β, (∀ b ∈ l, ∃ d, enc b = .tuple d) → ∃ ds : List (List PyData), l.map enc = ds.map .tuple := by
    intro l
    induction l with
    | nil => exact fun _ => ⟨[], rfl⟩
    | cons b l ih =>
      intro h
      obtain ⟨d, hd⟩ := h b (List.mem_cons_self ..)
      obtain ⟨ds, hds⟩ := ih fun c hc => h c (List.mem_cons_of_mem _ hc)
      exact ⟨d :: ds, by simp [hd, hds]⟩
  obtain ⟨ds, hds⟩ := key bs ht
  have hne : ∃ d ∈ ds, d = [] := Classical.byContradiction fun hn => hs (.inl fun d hd => by
    rw [hds] at hd
    obtain ⟨d2, hd2, rfl⟩ := List.mem_map.mp hd
    cases d2 with
    | nil => exact absurd ⟨[], hd2, rfl⟩ hn
    | cons x r => exact ⟨x, r, rfl⟩)
  have er2 := each_map (R := fun v d => ∃ as, Reads s.heap v d as) enc er
  rw [hds] at er2 hal hu2 ⊢
  exact SortsAt.tuples0 (each_of_map _ er2) hal hne fun d hd => hu2 _ (List.mem_map.mpr ⟨d, hd, rfl⟩)
end
end PySem.W
namespace CL
open PySem PySem.Spec PyProof.Rows L2
theorem each_iff {α β : Type} {R : α → β → Prop} {as : List α} {bs : List β} : PySem.W.EachIs R as bs ↔ as.length = bs.length ∧ ∀ (i : Nat) (a : α) (b : β), as[i]? = some a → bs[i]? = some b → R a b := by
  constructor
  · intro h
    induction h with
    | nil => simp
    | cons h _ ih =>
      refine ⟨by simp [ih.1], fun i a b ha hb => ?_⟩
      cases i with
      | zero => simp at ha hb; subst ha hb; exact h
      | succ i => exact ih.2 i a b (by simpa using ha) (by simpa using hb)
  · rintro ⟨hl, h⟩
    induction as generalizing bs with
    | nil => cases bs with
      | nil => exact .nil
      | cons _ _ => simp at hl
    | cons a as ih => cases bs with
      | nil => simp at hl
      | cons b bs => exact .cons (h 0 a b rfl rfl) (ih (by simpa using hl) fun i x y hx hy => h (i + 1) x y (by simpa using hx) (by simpa using hy))
/-- the left side's order changed, the right side follows -/
theorem each_perm {α β : Type} {R : α → β → Prop} {as as' : List α} (p : as.Perm as') : ∀ {bs : List β}, PySem.W.EachIs R as bs → ∃ bs', PySem.W.EachIs R as' bs' ∧ bs.Perm bs' := by
  induction p with
  | nil => intro bs h; exact ⟨bs, h, .refl _⟩
  | cons x _ ih =>
    intro bs h
    cases h with
    | cons a t =>
      obtain ⟨bs', h1, h2⟩ := ih t
      exact ⟨_, .cons a h1, h2.cons _⟩
  | swap x y l =>
    intro bs h
    cases h with
    | cons a t => cases t with
      | cons b t => exact ⟨_, .cons b (.cons a t), .swap _ _ _⟩
  | trans _ _ ih1 ih2 =>
    intro bs h
    obtain ⟨b1, h1, p1⟩ := ih1 h
    obtain ⟨b2, h2, p2⟩ := ih2 h1
    exact ⟨b2, h2, p1.trans p2⟩
section
variable {P : Program} {w : World} {A : Around} {E : Value → Shared → Prop} {s : Shared}
/-- a set that is walked: its values are those, in some order -/
def SetV (w : World) (a : Addr) (L : List V) : HO := .ext fun h => ∃ o es ep t, h.get? a = some o ∧ o.ExactSet ∧ o.data = .set es ep t ∧ TabW w es t ∧ es.size < scanBound ∧ Vals L (es.toList.map (·.2))
theorem setV_new {H : Hp} {h : Heap} {a : Addr} {L : List V} {o : Obj} {es : Array (Int × Value)} {ep : Nat} {t : SetTable} (ho : h.get? a = some o) (hx : o.ExactSet) (hd : o.data = .set es ep t) (T : TabW w es t) (hb : es.size < scanBound) (r : Vals L (es.toList.map (·.2))) : ObjOk P w H h a (SetV w a L) :=
  ⟨⟨o, es, ep, t, ho, hx, hd, T, hb, r⟩, ⟨o, ho⟩, fun h1 h2 ⟨o, es, ep, t, e, q⟩ k => ⟨o, es, ep, t, k o e, q⟩⟩
/-- sorted(a set) -/
theorem sorted_setG {a : Addr} {es : Array (Int × Value)} {ep : Nat} {t : SetTable} {Q : Value → Shared → Prop} {R : Value → PV → Prop} {ps : List PV} (hh : A.handled = none) (x : SetAt s.heap a es ep t) (T : TabW w es t) (hb : es.size < scanBound)
    (e : PySem.W.EachIs R (es.toList.map (·.2)) ps) (er : PySem.W.EachIs (fun v p => ∃ as, Reads s.heap v (dOf p) as) (es.toList.map (·.2)) ps) (hal : PySem.W.AllAlike (ps.map dOf)) (hk : (∀ b ∈ ps, ∃ d, dOf b = .tuple d) ∨ ∀ b ∈ ps, dOf b ≠ .none ∧ ∀ xs, dOf b ≠ .tuple xs) (hu : ∀ b, b ∈ ps → A.units + 2 + (dOf b).depth < cLine)
    (hQ : ∀ (s' : Shared) (p : Addr) (out : List Value) (n : Nat) (ps' : List PV), (∀ b o, s.heap.get? b = some o → s'.heap.get? b = some o) → s'.gens = s.gens → s'.os = s.os → s.heap.objs.size ≤ p → s'.heap.get? p = some (seqObj "list" out.toArray n) → ps'.Perm ps → PySem.W.EachIs R out (sortPV ps') → Q (.ref p) s') :
    wpAny (model P w) A (call (.builtin "sorted") [.ref a]) Q E s := by
  apply Calls.call_function_entry kind_sorted plain_sorted entry_sorted (args_sorted1 _)
  unfold Builtin.«sorted»
  refine wpAny_bind (m := checkCount "sorted" 1 1 _) (wpAny_pure (wpAny_bind (collect_set (A := A.in1) hh x T.fits hb T.ris T.led fun s1 vs k1 z1 g1 o1 pm => ?_)))
  have both : PySem.W.EachIs (fun v p => R v p ∧ ∃ as, Reads s.heap v (dOf p) as) (es.toList.map (·.2)) ps := each_iff.mpr ⟨(each_iff.mp e).1, fun i v p hv hp => ⟨(each_iff.mp e).2 i v p hv hp, (each_iff.mp er).2 i v p hv hp⟩⟩
  obtain ⟨ps', both', pp⟩ := each_perm pm.symm both
  have hlen : vs.length < scanBound := by rw [pm.length_eq]; simpa using hb
  have hl2 : vs.length ≤ sizeLine := fits_of_scanBound hlen
  have mem' : ∀ p ∈ ps', p ∈ ps := fun p hp => pp.mem_iff.mpr hp
  refine wpAny_bind (wpAny_newList ?_ hl2)
  have oL : (s1.heap.push (seqObj "list" vs.toArray 0)).get? s1.heap.objs.size = some (seqObj "list" vs.toArray 0) := Heap.get?_push_size _ rfl
  have keepS : ∀ b o, s.heap.get? b = some o → (PySem.W.sortingHeap (s1.heap.push (seqObj "list" vs.toArray 0)) s1.heap.objs.size vs).get? b = some o := fun b o q => by
    have q1 := k1 b o q
    exact PySem.W.sortingHeap_old (Nat.ne_of_lt (Heap.lt_size q1)) (Heap.get?_push_of_some _ q1)
  have er' : PySem.W.EachIs (fun v p => ∃ as, Reads (PySem.W.sortingHeap (s1.heap.push (seqObj "list" vs.toArray 0)) s1.heap.objs.size vs) v (dOf p) as) vs ps' := both'.mono fun v p ⟨_, as, r⟩ => ⟨as, PyProof.Rows.Reads.keeps keepS r⟩
  have hal' : PySem.W.AllAlike (ps'.map dOf) := fun d hd d' hd' => hal d ((pp.map dOf).mem_iff.mpr hd) d' ((pp.map dOf).mem_iff.mpr hd')
  have S := PySem.W.sortsG (prog := P) (w := w) (A := A.in1.in1) (s := { s1 with heap := PySem.W.sortingHeap (s1.heap.push (seqObj "list" vs.toArray 0)) s1.heap.objs.size vs }) er' hal' (hk.imp (fun h b hb => h b (mem' b hb)) fun h b hb => h b (mem' b hb)) fun b hb => hu b (mem' b hb)
  refine wpAny_bind (wpAny_holding (wpAny_call_entry slot_list_sort ⟨_, oL, rfl⟩ entry_list_sort (PySem.W.list_sort_vals (s := { s1 with heap := s1.heap.push (seqObj "list" vs.toArray 0) }) oL S hl2 ⟨.none, rfl, ?_⟩) (args_list_sort _)))
  have R' := PySem.W.sortVals_data (enc := dOf) false (both'.mono fun v p z => z.1) er' hal'
  generalize PySem.W.sortVals (PySem.W.dataKind (PySem.W.sortingHeap (s1.heap.push (seqObj "list" vs.toArray 0)) s1.heap.objs.size vs) (ps'.map dOf)) false vs vs = out at R' ⊢
  obtain ⟨c, hc⟩ := sortedHeap_at (vs := vs) (out := out.toArray) oL
  refine wpAny_pure ⟨_, rfl, hQ _ _ out c ps' (fun b u q => ?_) g1 o1 z1 hc pp.symm R'⟩
  have q1 := k1 b u q
  have lt := Heap.lt_size q1
  show (sortedHeap (s1.heap.push (seqObj "list" vs.toArray 0)) s1.heap.objs.size vs out.toArray).get? b = some u
  rw [sortedHeap_old (Nat.ne_of_lt lt) (by rw [size_push']; exact Nat.lt_succ_of_lt lt)]
  exact Heap.get?_push_of_some _ q1
end
end CL

/-! CL38: sorted(set(xs)), len(set(xs)): the rules. -/
namespace CL
open PySem PySem.Spec PyProof.Rows L2
variable {g : G} {W : WX} {M : Addr → Prop} {μ μ' μ1 μ2 : List Addr} {H H' H0 H1 H2 : Hp} {σ σ1 σ2 : L2.St} {cs cs' cs1 cs2 : CSt} {X : Cx}
/-! ### plain lists -/
def dedup : List PV → List PV
  | [] => []
  | p :: r => if p ∈ r then dedup r else p :: dedup r
theorem dedup_mem : ∀ {ps : List PV} {p : PV}, p ∈ dedup ps ↔ p ∈ ps
  | [], _ => Iff.rfl
  | q :: r, p => by
    rw [dedup]
    split
    · rename_i h
      rw [dedup_mem, List.mem_cons]
      exact ⟨.inr, fun z => z.elim (fun e => e ▸ h) id⟩
    · rw [List.mem_cons, List.mem_cons, dedup_mem]
theorem dedup_nd : ∀ ps : List PV, (dedup ps).Nodup
  | [] => List.nodup_nil
  | q :: r => by
    rw [dedup]
    split
    · exact dedup_nd r
    · rename_i h
      exact List.nodup_cons.mpr ⟨fun z => h (dedup_mem.mp z), dedup_nd r⟩
theorem dedup_perm {ps qs : List PV} (h : qs.Nodup) (m : ∀ q, q ∈ qs ↔ q ∈ ps) : qs.Perm (dedup ps) :=
  (List.perm_ext_iff_of_nodup h (dedup_nd ps)).mpr fun q => (m q).trans dedup_mem.symm
def leS : PV → PV → Bool := PySem.W.dataLe false dOf
/-- told apart by sorting -/
def TokI (ps : List PV) : Prop := ∀ p ∈ ps, ∀ q ∈ ps, PySem.W.keyToks (dOf p) = PySem.W.keyToks (dOf q) → p = q
theorem leS_anti {p q : PV} (h1 : leS p q = true) (h2 : leS q p = true) : PySem.W.keyToks (dOf p) = PySem.W.keyToks (dOf q) := by
  have e : ∀ a b, leS a b = !PyProof.Rows.lexLt PyProof.Rows.itemOrd (PySem.W.keyToks (dOf b)) (PySem.W.keyToks (dOf a)) := fun _ _ => rfl
  rw [e, Bool.not_eq_true'] at h1 h2
  exact (PyProof.Rows.listOrd PyProof.Rows.itemOrd).total _ _ h2 h1
theorem sortP_sorted (ps : List PV) : List.Pairwise (fun a b => leS a b = true) (sortPV ps) :=
  List.pairwise_mergeSort (fun a b c => (PySem.W.sortLe_total (PyProof.Rows.listOrd PyProof.Rows.itemOrd) false fun b => PySem.W.keyToks (dOf b)).trans a b c) (fun a b => by
    rw [Bool.or_eq_true]
    exact (PySem.W.sortLe_total (PyProof.Rows.listOrd PyProof.Rows.itemOrd) false fun b => PySem.W.keyToks (dOf b)).total a b) ps
theorem sortP_perm (ps : List PV) : (sortPV ps).Perm ps := List.mergeSort_perm ..
theorem sortP_eq {ps qs : List PV} (h : TokI ps) (e : ps.Perm qs) : sortPV ps = sortPV qs :=
  List.Perm.eq_of_pairwise (le := fun a b => leS a b = true) (fun a b ha hb h1 h2 => h a ((sortP_perm ps).mem_iff.mp ha) b (e.mem_iff.mpr ((sortP_perm qs).mem_iff.mp hb)) (leS_anti h1 h2)) (sortP_sorted ps) (sortP_sorted qs) ((sortP_perm ps).trans (e.trans (sortP_perm qs).symm))
/-! ### set(texts) -/
def tkey : Value → Str
  | .str x _ => x
  | _ => Str.empty
theorem tkey_is {P : Program} {w : World} {x : Str} {v : Value} (h : (strKind P w).is x v = true) : tkey v = x ∧ ∃ t, v = .str x t := by
  obtain ⟨t, rfl⟩ := Value.isStrOf_shape h
  exact ⟨rfl, t, rfl⟩
def rSetS (w : World) : List V → Hp → VK → Prop := fun xs H Q => ∃ (l : Addr) (ys : List Str), xs = [V.ref l] ∧ (Rd H l (.lst (ys.map V.str))) ∧ ys.length < 4096 ∧ ∀ (a : Addr) (zs : List Str), H a = none → zs.Nodup → (∀ z, z ∈ zs ↔ z ∈ ys) → Q (.ref a) (upd H a (SetV w a (zs.map V.str)))
theorem vals_at : ∀ {vs : List V} {us : List Value} {i : Nat} {u : Value}, Vals vs us → us[i]? = some u → ∃ v, vs[i]? = some v ∧ RelV v u
  | _, _, _, _, .nil, h => by simp at h
  | _, _, 0, _, .cons r _, h => by simp at h; exact ⟨_, rfl, h ▸ r⟩
  | _, _, i + 1, _, .cons _ t, h => by
    obtain ⟨v, a, b⟩ := vals_at (i := i) t (by simpa using h)
    exact ⟨v, by simpa using a, b⟩
theorem cr_setS (hc : X.calm = true) : CallR X (.type "set") (rSetS X.w) := by
  intro pins s σ H xs us Q I r h
  obtain ⟨l, ys, rfl, hl, hb, q⟩ := h
  rw [Vals.ref1 r]
  obtain ⟨z, its, n, rv, hlen, e⟩ := I.lstR hl
  rw [List.length_map] at hlen
  have hn : H s.heap.objs.size = none := I.hok.fresh (Nat.le_refl _)
  have fa := fun A' => flat_adds (P := X.prog) (w := X.w) (A := A') (knd := strKind X.prog X.w) (kf := tkey) (p := s.heap.objs.size) (ks := ys) hb
  refine set_of_list (P := X.prog) (w := X.w) (items := its.toArray) (J := FlatJ (strKind X.prog X.w) tkey s.heap.objs.size ys) (I.ok.hd hc) ⟨_, e, rfl, n, rfl⟩ flat_calm (fun h e _ => flat_new e) (fun A' _ i v s Q E hi hv => ?_) fun h' tk J k => ?_
  · have hsz : its.toArray.size = ys.length := by simp [hlen]
    obtain ⟨v2, h1, h2⟩ := vals_at rv (show its[i]? = some v by simpa using hv)
    rw [List.getElem?_map, Option.map_eq_some_iff] at h1
    obtain ⟨x, h1, rfl⟩ := h1
    obtain ⟨t, rfl⟩ := h2
    exact fa A' i _ s Q E (hsz ▸ hi) ⟨x, h1, by show Value.isStrOf x (.str x t) = true; simp [Value.isStrOf], rfl, rfl⟩
  · obtain ⟨o, es, ep, t, ho, hx, hd, ge, nd, mm, hs, T⟩ := J
    have hsz : its.toArray.size = ys.length := by simp [hlen]
    rw [hsz] at hs mm
    have hsb : es.size < scanBound := Nat.lt_of_le_of_lt hs hb
    have rv2 : ∀ l : List (Int × Value), (∀ e ∈ l, FlatE (strKind X.prog X.w) tkey e) → Vals ((l.map fun e => tkey e.2).map V.str) (l.map (·.2)) := by
      intro l
      induction l with
      | nil => exact fun _ => .nil
      | cons e l ih =>
        intro h
        obtain ⟨_, t, e2⟩ := tkey_is (h e (List.mem_cons_self ..)).1
        exact .cons ⟨t, e2⟩ (ih fun x hx => h x (List.mem_cons_of_mem _ hx))
    refine ⟨.ref s.heap.objs.size, upd H s.heap.objs.size (SetV X.w s.heap.objs.size ((es.toList.map fun e => tkey e.2).map V.str)), I.laid (t' := tk) k (Nat.le_refl _) (setV_new ho hx hd T hsb (rv2 _ ge)), rfl, q _ _ hn nd fun z => ?_⟩
    rw [mm z, List.take_length]
/-! ### sorted(a set), len(a set) -/
def rSortV (g : G) (w : World) : List V → Hp → VK → Prop := fun vs H Q => ∃ μ a L ps, vs = [.ref a] ∧ H a = some (SetV w a L) ∧ PVsRel g μ H ps L ∧ sortOk ps = true ∧ ∀ ps' zs p, ps'.Perm ps → PVsRel g μ H (sortPV ps') zs → H p = none → Q (.ref p) (upd H p (.lst zs))
theorem cr_sortV (hK : g.K = X.K) (hc : X.calm = true) (hu : X.A.units + 64 < cLine) : CallR X (.builtin "sorted") (rSortV g X.w) := by
  intro pins s σ H vs us Q I r h
  obtain ⟨μ, a, L, ps, rfl, ha, rp, ok, q⟩ := h
  rw [Vals.ref1 r]
  obtain ⟨o, es, ep, t, ho, hx, hd, T, hb, rv⟩ := (show _ ∧ _ from I.hok a _ ha).1
  unfold sortOk at ok
  simp only [Bool.and_eq_true, List.all_eq_true, decide_eq_true_eq, Bool.or_eq_true] at ok
  obtain ⟨⟨h1, h2⟩, h3⟩ := ok
  have rd : PySem.W.EachIs (EachVR g μ H) (es.toList.map (·.2)) ps := each_rel rp rv
  have e1 := (PySem.W.each_mem rd).mono fun u p ⟨⟨v, rv, rp⟩, hm⟩ => (show ∃ as, Reads s.heap u (dOf p) as from by
    obtain ⟨d, hd⟩ := Option.isSome_iff_exists.mp (h1 p hm).1
    rw [toD_depth0 hd]
    exact Dp.reads I d v u (toD_rel hK p v d rp hd) rv)
  refine sorted_setG (P := X.prog) (I.ok.hd hc) ⟨o, ho, hx.1, hd⟩ T hb rd e1 ?_ ?_ (fun p hp => by have := (h1 p hp).2; omega) fun s' p out n ps' k g1 o1 z1 hp pp R => ?_
  · intro d hd d' hd'
    obtain ⟨p, hp, rfl⟩ := List.mem_map.mp hd
    obtain ⟨p', hp', rfl⟩ := List.mem_map.mp hd'
    exact h2 p hp p' hp'
  · rcases h3 with h3 | h3
    · refine .inl fun p hp => ?_
      have z := h3 p hp
      obtain ⟨d, hd⟩ := Option.isSome_iff_exists.mp (h1 p hp).1
      rw [toD_depth0 hd]
      cases p <;> simp [isTupP] at z
      simp only [toD, Option.map_eq_some_iff] at hd
      obtain ⟨ds, _, rfl⟩ := hd
      exact ⟨ds, rfl⟩
    · refine .inr fun p hp => ?_
      have z := h3 p hp
      obtain ⟨d, hd⟩ := Option.isSome_iff_exists.mp (h1 p hp).1
      rw [toD_depth0 hd]
      cases p <;> simp [isTupP] at z <;> simp [toD] at hd
      · subst hd; simp
      · subst hd; simp
      · subst hd; simp
      · obtain ⟨ds, _, rfl⟩ := hd; simp
  · obtain ⟨zs, c, d⟩ := rel_each R
    have hn : H p = none := I.hok.fresh z1
    have hlen : zs.length ≤ sizeLine := by
      have e2 := (each_iff.mp R).1
      have e3 := d.length
      have e4 := (sortP_perm ps').length_eq
      have e5 := pp.length_eq
      have e6 := (each_iff.mp rd).1
      simp at e6
      have := fits_of_scanBound hb
      omega
    have J : L2.Inv X pins σ (upd H p (.lst zs)) { s with heap := s'.heap, gens := s'.gens, drawn := s'.drawn, toks := s'.toks } :=
      I.call (ch := []) (Un.laid k z1 hn) (I.hok.laid k z1 ⟨hlen, out, n, d, hp⟩) (by rw [g1]; exact I.bare) (fun _ z => nomatch z)
    have e : s' = { s with heap := s'.heap, gens := s'.gens, drawn := s'.drawn, toks := s'.toks } := by
      cases s'; cases s; cases o1; rfl
    rw [e]
    exact ⟨.ref p, _, J, rfl, q _ _ p pp c hn⟩
def rLenV (w : World) : List V → Hp → VK → Prop := fun vs H Q => ∃ a L, vs = [.ref a] ∧ H a = some (SetV w a L) ∧ Q (.int L.length) H
theorem cr_lenV : CallR X (.builtin "len") (rLenV X.w) := by
  intro pins s σ H vs us Q I r h
  obtain ⟨a, L, rfl, ha, q⟩ := h
  rw [Vals.ref1 r]
  obtain ⟨o, es, ep, t, ho, hx, hd, T, hb, rv⟩ := (show _ ∧ _ from I.hok a _ ha).1
  have e : L.length = es.size := by have := rv.length; simpa using this
  have hz := fits_of_scanBound hb
  refine call_len_set ho hx hd T.fits (by have := line63; omega) ⟨.int es.size, H, I.tok _, ⟨_, rfl⟩, ?_⟩
  rw [← e]; exact q
end CL

/-! CL39: sorted(set(xs)), len(set(xs)) as texts of the clean layer. -/
namespace CL
open PySem PySem.Spec PyProof.Rows L2
variable {g : G} {W : WX} {M : Addr → Prop} {μ μ' μ1 μ2 : List Addr} {H H' H0 H1 H2 : Hp} {σ σ1 σ2 : L2.St} {cs cs' cs1 cs2 : CSt} {X : Cx}
/-- what a set may be made of -/
def setOk (ps : List PV) : Bool := decide (ps.length < 4096) && (strsP ps).isSome
theorem setOk_strs {ps : List PV} (h : setOk ps = true) : ∃ ys : List Str, ps = ys.map .str ∧ ys.length < 4096 := by
  unfold setOk at h
  simp only [Bool.and_eq_true, decide_eq_true_eq] at h
  obtain ⟨ys, e⟩ := Option.isSome_iff_exists.mp h.2
  have e2 := strsP_some e
  exact ⟨ys, e2, by have := h.1; rw [e2, List.length_map] at this; exact this⟩
theorem tok_strs (ys : List Str) : TokI (ys.map .str) := by
  intro p hp q hq e
  obtain ⟨x, _, rfl⟩ := List.mem_map.mp hp
  obtain ⟨y, _, rfl⟩ := List.mem_map.mp hq
  have e2 : ([Sum.inr x.cps.toList] : List (Int ⊕ List Nat)) = [Sum.inr y.cps.toList] := e
  simp only [List.cons.injEq, Sum.inr.injEq, and_true] at e2
  rw [PySem.W.str_of_cps e2]
theorem setOk_tok {ps : List PV} (h : setOk ps = true) : TokI (dedup ps) := by
  obtain ⟨ys, rfl, _⟩ := setOk_strs h
  exact fun p hp q hq e => tok_strs ys p (dedup_mem.mp hp) q (dedup_mem.mp hq) e
def rSetC (g : G) (w : World) : List V → Hp → VK → Prop := fun xs H Q => ∃ (μ : List Addr) (l : Addr) (ys : List V) (ps : List PV), xs = [V.ref l] ∧ Rd H l (.lst ys) ∧ PVsRel g μ H ps ys ∧ setOk ps = true ∧
  ∀ (a : Addr) (qs : List PV) (zs : List V), H a = none → PVsRel g μ H qs zs → qs.Nodup → (∀ q, q ∈ qs ↔ q ∈ ps) → Q (.ref a) (upd H a (SetV w a zs))
theorem cr_setC (hc : X.calm = true) : CallR X (.type "set") (rSetC g X.w) := by
  intro pins s σ H xs us Q I r h
  obtain ⟨μ, l, ys, ps, rfl, hl, rp, ok, q⟩ := h
  obtain ⟨ts, rfl, hb⟩ := setOk_strs ok
  obtain rfl := pvs_strs rp
  refine cr_setS hc pins s σ H _ us Q I r ⟨l, ts, rfl, hl, hb, fun a zs hn nd mm => q a (zs.map .str) _ hn (strs_pvs zs) ?_ fun p => ?_⟩
  · exact List.Pairwise.map _ (fun x y h e => h (by cases e; rfl)) nd
  · simp only [List.mem_map]
    exact ⟨fun ⟨x, h, e⟩ => ⟨x, (mm x).mp h, e⟩, fun ⟨x, h, e⟩ => ⟨x, (mm x).mpr h, e⟩⟩
/-- sorted(set(xs)) -/
def opSortSet (x : RV) : CM RV := fun cs => match listC cs x with
  | some xs => if setOk xs && sortOk (dedup xs) then .ok (.own (.list (sortPV (dedup xs)))) cs else .stuck
  | none => .stuck
/-- len(set(xs)) -/
def opLenSet (x : RV) : CM RV := fun cs => match listC cs x with
  | some xs => if setOk xs then .ok (.pv (.int (dedup xs).length)) cs else .stuck
  | none => .stuck
theorem sortOk_perm {ps qs : List PV} (p : ps.Perm qs) (h : sortOk qs = true) : sortOk ps = true := by
  unfold sortOk at h ⊢
  simp only [Bool.and_eq_true, List.all_eq_true, Bool.or_eq_true] at h ⊢
  exact ⟨⟨fun a ha => h.1.1 a (p.mem_iff.mp ha), fun a ha b hb => h.1.2 a (p.mem_iff.mp ha) b (p.mem_iff.mp hb)⟩, h.2.imp (fun z a ha => z a (p.mem_iff.mp ha)) fun z a ha => z a (p.mem_iff.mp ha)⟩
theorem pr_sortSet {w : World} : Pr1 g (fun v H Q => rSetC g w [v] H fun v2 H2 => rSortV g w [v2] H2 Q) opSortSet := fun W M μ H σ cs2 μ2 H2 x v Q k hx o => by
  unfold opSortSet at o
  split at o
  · rename_i xs e
    split at o
    · rename_i z
      simp only [Bool.and_eq_true] at z
      obtain ⟨a, vs, rfl, h1, h2⟩ := listC_rel k.rel hx e
      refine ⟨μ2, a, vs, xs, rfl, h1, h2, z.1, fun b qs zs hb hq nd mm => ⟨μ2, b, zs, qs, rfl, upd_same, hq.stays (stays_fresh hb), sortOk_perm (dedup_perm nd mm) z.2, fun ps' ws p pp hw hp => ?_⟩⟩
      have e2 : sortPV ps' = sortPV (dedup xs) := (sortP_eq (setOk_tok z.1) (pp.trans (dedup_perm nd mm)).symm).symm
      rw [e2] at hw
      exact o μ2 _ ((k.fresh hb).fresh hp) _ (RVRel.new (k.fresh hb) hp ⟨ws, upd_same, hw.stays (stays_fresh hp)⟩)
    · exact o.elim
  · exact o.elim
theorem pr_lenSet {w : World} : Pr1 g (fun v H Q => rSetC g w [v] H fun v2 H2 => rLenV w [v2] H2 Q) opLenSet := fun W M μ H σ cs2 μ2 H2 x v Q k hx o => by
  unfold opLenSet at o
  split at o
  · rename_i xs e
    split at o
    · rename_i z
      obtain ⟨a, vs, rfl, h1, h2⟩ := listC_rel k.rel hx e
      refine ⟨μ2, a, vs, xs, rfl, h1, h2, z, fun b qs zs hb hq nd mm => ⟨b, zs, rfl, upd_same, ?_⟩⟩
      have e2 : zs.length = (dedup xs).length := by rw [← hq.length]; exact (dedup_perm nd mm).length_eq
      rw [e2]
      exact o μ2 _ (k.fresh hb) _ (.int _)
    · exact o.elim
  · exact o.elim
section
variable {e : Expr} {m : CM RV} {p p2 pos pos2 : Pos}
theorem se_sortSet (hK : g.K = X.K) (hc : X.calm = true) (hu : X.A.units + 64 < cLine) (hm : X.mg "sorted" = none) (hm2 : X.mg "set" = none) (ha : SE X g W e m) (hg : Gl X "sorted" := by rfl) (hg2 : Gl X "set" := by rfl)
    (he : starEach [e] X.env = (false, eval e X.env) :: starEach [] X.env := by rfl) (he2 : starEach [.Call (.Name "set" p2) [e] [] pos2] X.env = (false, eval (.Call (.Name "set" p2) [e] [] pos2) X.env) :: starEach [] X.env := by rfl) :
    SE X g W (.Call (.Name "sorted" p) [.Call (.Name "set" p2) [e] [] pos2] [] pos) (e1 opSortSet m) :=
  PE.mono (pe_callB (cr_sortV hK hc hu) hg hm (by decide +kernel) (pa_cons (pe_callTy (cr_setC (g := g) hc) hg2 hm2 (by decide +kernel) (pa_cons ha pa_nil he) (by decide) (by decide) he rfl) pa_nil he2) (by decide) (by decide) he2 rfl) fun σ H Q h => tOf1 pr_sortSet h
theorem se_lenSet (hc : X.calm = true) (hm : X.mg "len" = none) (hm2 : X.mg "set" = none) (ha : SE X g W e m) (hg : Gl X "len" := by rfl) (hg2 : Gl X "set" := by rfl)
    (he : starEach [e] X.env = (false, eval e X.env) :: starEach [] X.env := by rfl) (he2 : starEach [.Call (.Name "set" p2) [e] [] pos2] X.env = (false, eval (.Call (.Name "set" p2) [e] [] pos2) X.env) :: starEach [] X.env := by rfl) :
    SE X g W (.Call (.Name "len" p) [.Call (.Name "set" p2) [e] [] pos2] [] pos) (e1 opLenSet m) :=
  PE.mono (pe_callB cr_lenV hg hm (by decide +kernel) (pa_cons (pe_callTy (cr_setC (g := g) hc) hg2 hm2 (by decide +kernel) (pa_cons ha pa_nil he) (by decide) (by decide) he rfl) pa_nil he2) (by decide) (by decide) he2 rfl) fun σ H Q h => tOf1 pr_lenSet h
end
end CL

/-! WP1: running the clean layer's texts: frames. -/
namespace CL
open PySem L2
abbrev EQ := PExc → CSt → Prop
def wp {α : Type} (m : CM α) (s : CSt) (Q : α → CSt → Prop) (E : EQ) : Prop := match m s with
  | .ok a s' => Q a s'
  | .exc x s' => E x s'
  | .stuck => False
variable {α β : Type} {Q : α → CSt → Prop} {E : EQ} {s : CSt} {sl : List SV} {h : List CO}
theorem wp_bind {m : CM α} {f : α → CM β} {Q : β → CSt → Prop} : wp (m >>= f) s Q E = wp m s (fun a s' => wp (f a) s' Q E) E := by
  unfold wp; rw [bind_def]; cases m s <;> rfl
theorem wp_mono {m : CM α} {Q Q' : α → CSt → Prop} {E E' : EQ} (hw : wp m s Q E) (hq : ∀ a s', Q a s' → Q' a s') (he : ∀ x s', E x s' → E' x s') : wp m s Q' E' := by
  unfold wp at *; revert hw; cases m s with
  | ok a s' => exact hq a s'
  | exc x s' => exact he x s'
  | stuck => exact id
theorem wp_ok {m : CM α} {a : α} {s' : CSt} (e : m s = .ok a s') : wp m s Q E = Q a s' := by unfold wp; rw [e]
theorem wp_exc {m : CM α} {x : PExc} {s' : CSt} (e : m s = .exc x s') : wp m s Q E = E x s' := by unfold wp; rw [e]
theorem wp_iteB {c : Prop} [Decidable c] {a : α} : wp (fun cs => if c then CRes.ok a cs else CRes.stuck) s Q E = if c then Q a s else False := by
  unfold wp; by_cases h : c <;> simp [h]
/-- a frame -/
def kb (f : α → CM β) (Q : β → CSt → Prop) (E : EQ) : α → CSt → Prop := fun a s' => wp (f a) s' Q E
section
variable {Q : RV → CSt → Prop} {QP : PV → CSt → Prop} {QA : List PV → CSt → Prop} {QB : Bool → CSt → Prop} {QF : Fl → CSt → Prop} {QU : Unit → CSt → Prop} {QO : Option Int → CSt → Prop} {QS : Src → CSt → Prop}
/-! ### leaves -/
@[simp] theorem wp_kst {p : PV} : wp (kst p) s Q E = Q (.pv p) s := rfl
def rdK (i : Nat) (o : Option SV) (s : CSt) (Q : RV → CSt → Prop) : Prop := match o with
  | some (.pv p) => Q (.pv p) s
  | some (.own _) => Q (.als i) s
  | _ => False
@[simp] theorem wp_rdVar {i : Nat} : wp (rdVar i) s Q E = rdK i s.sl[i]? s Q := by
  unfold wp rdVar rdK
  cases s.sl[i]? with
  | none => rfl
  | some v => cases v <;> rfl
@[simp] theorem rdK_pv {i : Nat} {p : PV} : rdK i (some (.pv p)) s Q = Q (.pv p) s := rfl
@[simp] theorem rdK_own {i : Nat} {c : Cont} : rdK i (some (.own c)) s Q = Q (.als i) s := rfl
/-! ### expressions -/
def k1 (f : RV → CM RV) (Q : RV → CSt → Prop) (E : EQ) : RV → CSt → Prop := fun x s => wp (f x) s Q E
@[simp] theorem wp_e1 {f : RV → CM RV} {a : CM RV} : wp (e1 f a) s Q E = wp a s (k1 f Q E) E := wp_bind
@[simp] theorem k1_ap {f : RV → CM RV} {x : RV} : k1 f Q E x s = wp (f x) s Q E := rfl
def k2 (f : RV → RV → CM RV) (b : CM RV) (Q : RV → CSt → Prop) (E : EQ) : RV → CSt → Prop := fun x s => wp b s (k1 (f x) Q E) E
@[simp] theorem wp_e2 {f : RV → RV → CM RV} {a b : CM RV} : wp (e2 f a b) s Q E = wp a s (k2 f b Q E) E := by
  show wp (a >>= fun x => b >>= fun y => f x y) s Q E = _
  rw [wp_bind]; congr; funext x s; exact wp_bind
@[simp] theorem k2_ap {f : RV → RV → CM RV} {b : CM RV} {x : RV} : k2 f b Q E x s = wp b s (k1 (f x) Q E) E := rfl
def kNot (Q : RV → CSt → Prop) (E : EQ) : RV → CSt → Prop := fun x s => wp (match x with
  | .pv (.bl b) => kst (.bl !b)
  | _ => stuck) s Q E
@[simp] theorem wp_eNot {a : CM RV} : wp (eNot a) s Q E = wp a s (kNot Q E) E := wp_bind
@[simp] theorem kNot_ap {b : Bool} : kNot Q E (.pv (.bl b)) s = Q (.pv (.bl !b)) s := rfl
def kAnd (b : CM RV) (Q : RV → CSt → Prop) (E : EQ) : RV → CSt → Prop := fun x s => wp (match x with
  | .pv (.bl true) => b
  | .pv (.bl false) => kst (.bl false)
  | _ => stuck) s Q E
@[simp] theorem wp_eAnd {a b : CM RV} : wp (eAnd a b) s Q E = wp a s (kAnd b Q E) E := wp_bind
@[simp] theorem kAnd_t {b : CM RV} : kAnd b Q E (.pv (.bl true)) s = wp b s Q E := rfl
@[simp] theorem kAnd_f {b : CM RV} : kAnd b Q E (.pv (.bl false)) s = Q (.pv (.bl false)) s := rfl
def kOr (b : CM RV) (Q : RV → CSt → Prop) (E : EQ) : RV → CSt → Prop := fun x s => wp (match x with
  | .pv (.bl false) => b
  | .pv (.bl true) => kst (.bl true)
  | _ => stuck) s Q E
@[simp] theorem wp_eOr {a b : CM RV} : wp (eOr a b) s Q E = wp a s (kOr b Q E) E := wp_bind
@[simp] theorem kOr_t {b : CM RV} : kOr b Q E (.pv (.bl true)) s = Q (.pv (.bl true)) s := rfl
@[simp] theorem kOr_f {b : CM RV} : kOr b Q E (.pv (.bl false)) s = wp b s Q E := rfl
def kOrN (b : CM RV) (Q : RV → CSt → Prop) (E : EQ) : RV → CSt → Prop := fun x s => wp (match x with
  | .pv .non => b
  | .pv (.int i) => if i = 0 then b else kst (.int i)
  | _ => stuck) s Q E
@[simp] theorem wp_eOrN {a b : CM RV} : wp (eOrN a b) s Q E = wp a s (kOrN b Q E) E := wp_bind
@[simp] theorem kOrN_n {b : CM RV} : kOrN b Q E (.pv .non) s = wp b s Q E := rfl
@[simp] theorem kOrN_i {b : CM RV} {i : Int} : kOrN b Q E (.pv (.int i)) s = if i = 0 then wp b s Q E else Q (.pv (.int i)) s := by
  show wp (if i = 0 then b else kst (.int i)) s Q E = _
  split <;> rfl
/-! ### branches -/
def kIf {α : Type} (a b : CM α) (Q : α → CSt → Prop) (E : EQ) : Bool → CSt → Prop := fun x s => if x then wp a s Q E else wp b s Q E
@[simp] theorem wp_eIf {t : CM Bool} {a b : CM RV} : wp (eIf t a b) s Q E = wp t s (kIf a b Q E) E := by
  show wp (t >>= fun x => _) s Q E = _
  rw [wp_bind]; congr; funext x s; cases x <;> rfl
@[simp] theorem wp_sIf {t : CM Bool} {a b : CM Fl} : wp (sIf t a b) s QF E = wp t s (kIf a b QF E) E := by
  show wp (t >>= fun x => _) s QF E = _
  rw [wp_bind]; congr; funext x s; cases x <;> rfl
@[simp] theorem kIf_t {α : Type} {a b : CM α} {Q : α → CSt → Prop} : kIf a b Q E true s = wp a s Q E := rfl
@[simp] theorem kIf_f {α : Type} {a b : CM α} {Q : α → CSt → Prop} : kIf a b Q E false s = wp b s Q E := rfl
theorem kIf_b {α : Type} {a b : CM α} {Q : α → CSt → Prop} {x : Bool} : kIf a b Q E x s = if x = true then wp a s Q E else wp b s Q E := rfl
theorem kIf_split {α : Type} {a b : CM α} {Q : α → CSt → Prop} {x : Bool} (h1 : x = true → wp a s Q E) (h2 : x = false → wp b s Q E) : kIf a b Q E x s := by
  cases x
  · exact h2 rfl
  · exact h1 rfl
def kTst (Q : Bool → CSt → Prop) (E : EQ) : RV → CSt → Prop := fun x s => wp (match x with
  | .pv (.bl b) => fun cs => .ok b cs
  | _ => stuck) s Q E
@[simp] theorem wp_tst {a : CM RV} : wp (tst a) s QB E = wp a s (kTst QB E) E := wp_bind
@[simp] theorem kTst_ap {b : Bool} : kTst QB E (.pv (.bl b)) s = QB b s := rfl
def kBNot (Q : Bool → CSt → Prop) : Bool → CSt → Prop := fun x s => Q (!x) s
@[simp] theorem wp_bNot {a : CM Bool} : wp (bNot a) s QB E = wp a s (kBNot QB) E := wp_bind
@[simp] theorem kBNot_ap {b : Bool} : kBNot QB b s = QB (!b) s := rfl
def kBAnd (b : CM Bool) (Q : Bool → CSt → Prop) (E : EQ) : Bool → CSt → Prop := fun x s => if x then wp b s Q E else Q false s
@[simp] theorem wp_bAnd {a b : CM Bool} : wp (bAnd a b) s QB E = wp a s (kBAnd b QB E) E := by
  show wp (a >>= fun x => _) s QB E = _
  rw [wp_bind]; congr; funext x s; cases x <;> rfl
@[simp] theorem kBAnd_t {b : CM Bool} : kBAnd b QB E true s = wp b s QB E := rfl
@[simp] theorem kBAnd_f {b : CM Bool} : kBAnd b QB E false s = QB false s := rfl
def kBOr (b : CM Bool) (Q : Bool → CSt → Prop) (E : EQ) : Bool → CSt → Prop := fun x s => if x then Q true s else wp b s Q E
@[simp] theorem wp_bOr {a b : CM Bool} : wp (bOr a b) s QB E = wp a s (kBOr b QB E) E := by
  show wp (a >>= fun x => _) s QB E = _
  rw [wp_bind]; congr; funext x s; cases x <;> rfl
@[simp] theorem kBOr_t {b : CM Bool} : kBOr b QB E true s = QB true s := rfl
@[simp] theorem kBOr_f {b : CM Bool} : kBOr b QB E false s = wp b s QB E := rfl
@[simp] theorem wp_bTrue : wp bTrue s QB E = QB true s := rfl
/-- a pure second test -/
theorem kBAnd_split {b : CM Bool} {x : Bool} (h1 : x = true → wp b s QB E) (h2 : x = false → QB false s) : kBAnd b QB E x s := by
  cases x
  · exact h2 rfl
  · exact h1 rfl
theorem kBOr_split {b : CM Bool} {x : Bool} (h1 : x = true → QB true s) (h2 : x = false → wp b s QB E) : kBOr b QB E x s := by
  cases x
  · exact h2 rfl
  · exact h1 rfl
theorem kAnd_split {b : CM RV} {x : Bool} (h1 : x = true → wp b s Q E) (h2 : x = false → Q (.pv (.bl false)) s) : kAnd b Q E (.pv (.bl x)) s := by
  cases x
  · exact h2 rfl
  · exact h1 rfl
theorem kOr_split {b : CM RV} {x : Bool} (h1 : x = true → Q (.pv (.bl true)) s) (h2 : x = false → wp b s Q E) : kOr b Q E (.pv (.bl x)) s := by
  cases x
  · exact h2 rfl
  · exact h1 rfl
/-! ### values that escape, displays -/
def kEsc (Q : PV → CSt → Prop) : RV → CSt → Prop := fun x s => wp (esc x) s Q fun _ _ => False
@[simp] theorem wp_ePv {a : CM RV} : wp (ePv a) s QP E = wp a s (kEsc QP) E := by
  show wp (a >>= esc) s QP E = _
  rw [wp_bind]; congr; funext x s; unfold kEsc wp esc
  cases x with
  | pv p => rfl
  | own c => cases c <;> rfl
  | als i => simp only; cases s.sl[i]? with
    | none => rfl
    | some v => cases v with
      | own c => cases c <;> rfl
      | _ => rfl
@[simp] theorem kEsc_pv {p : PV} : kEsc QP (.pv p) s = QP p s := rfl
@[simp] theorem kEsc_own {xs : List PV} : kEsc QP (.own (.list xs)) s = QP (.lst xs) s := rfl
def kEscA (i : Nat) (o : Option SV) (s : CSt) (Q : PV → CSt → Prop) : Prop := match o with
  | some (.pv p) => Q p s
  | some (.own (.list xs)) => Q (.lst xs) { s with sl := s.sl.set i (.pv (.lst xs)) }
  | _ => False
@[simp] theorem kEsc_al {i : Nat} : kEsc QP (.als i) s = kEscA i s.sl[i]? s QP := by
  unfold kEsc wp esc kEscA
  simp only
  cases s.sl[i]? with
  | none => rfl
  | some v => cases v with
    | own c => cases c <;> rfl
    | _ => rfl
@[simp] theorem kEscA_pv {i : Nat} {p : PV} : kEscA i (some (.pv p)) s QP = QP p s := rfl
@[simp] theorem kEscA_own {i : Nat} {xs : List PV} : kEscA i (some (.own (.list xs))) s QP = QP (.lst xs) { s with sl := s.sl.set i (.pv (.lst xs)) } := rfl
def kShr (Q : PV → CSt → Prop) : RV → CSt → Prop := fun x s => wp (shr x) s Q fun _ _ => False
@[simp] theorem wp_eSh {a : CM RV} : wp (eSh a) s QP E = wp a s (kShr QP) E := by
  show wp (a >>= shr) s QP E = _
  rw [wp_bind]; congr; funext x s; unfold kShr wp shr
  cases x with
  | pv p => rfl
  | own c => rfl
  | als i => simp only; cases s.sl[i]? with
    | none => rfl
    | some v => cases v <;> rfl
@[simp] theorem kShr_pv {p : PV} : kShr QP (.pv p) s = QP p s := rfl
@[simp] theorem kShr_own {c : Cont} : kShr QP (.own c) s = QP (.loc s.h.length) { s with h := s.h ++ [.cont c] } := rfl
def kShrA (i : Nat) (o : Option SV) (s : CSt) (Q : PV → CSt → Prop) : Prop := match o with
  | some (.pv p) => Q p s
  | some (.own c) => Q (.loc s.h.length) { sl := s.sl.set i (.pv (.loc s.h.length)), h := s.h ++ [.cont c] }
  | _ => False
@[simp] theorem kShr_al {i : Nat} : kShr QP (.als i) s = kShrA i s.sl[i]? s QP := by
  unfold kShr wp shr kShrA
  simp only
  cases s.sl[i]? with
  | none => rfl
  | some v => cases v <;> rfl
@[simp] theorem kShrA_pv {i : Nat} {p : PV} : kShrA i (some (.pv p)) s QP = QP p s := rfl
@[simp] theorem kShrA_own {i : Nat} {c : Cont} : kShrA i (some (.own c)) s QP = QP (.loc s.h.length) { sl := s.sl.set i (.pv (.loc s.h.length)), h := s.h ++ [.cont c] } := rfl
@[simp] theorem wp_aNil : wp aNil s QA E = QA [] s := rfl
def kA1 (r : CM (List PV)) (Q : List PV → CSt → Prop) (E : EQ) : PV → CSt → Prop := fun p s => wp r s (fun ps s' => Q (p :: ps) s') E
def kA2 (p : PV) (Q : List PV → CSt → Prop) : List PV → CSt → Prop := fun ps s' => Q (p :: ps) s'
@[simp] theorem wp_aCons {a : CM PV} {r : CM (List PV)} : wp (aCons a r) s QA E = wp a s (kA1 r QA E) E := by
  show wp (a >>= fun p => r >>= fun ps => _) s QA E = _
  rw [wp_bind]; congr; funext x s; exact wp_bind
@[simp] theorem kA1_ap {r : CM (List PV)} {p : PV} : kA1 r QA E p s = wp r s (kA2 p QA) E := rfl
@[simp] theorem kA2_ap {p : PV} {ps : List PV} : kA2 p QA ps s = QA (p :: ps) s := rfl
def kTup (Q : RV → CSt → Prop) : List PV → CSt → Prop := fun ps s => if ps.length ≤ 16777216 then Q (.pv (.tup ps)) s else False
@[simp] theorem wp_eTup {a : CM (List PV)} : wp (eTup a) s Q E = wp a s (kTup Q) E := by
  show wp (a >>= fun ps => _) s Q E = _
  rw [wp_bind]; congr; funext x s; exact wp_iteB
@[simp] theorem kTup_ap {ps : List PV} (h : ps.length ≤ 16777216) : kTup Q ps s = Q (.pv (.tup ps)) s := if_pos h
def kLst (Q : RV → CSt → Prop) : List PV → CSt → Prop := fun ps s => if ps.length ≤ 16777216 then Q (.own (.list ps)) s else False
@[simp] theorem wp_eLst {a : CM (List PV)} : wp (eLst a) s Q E = wp a s (kLst Q) E := by
  show wp (a >>= fun ps => _) s Q E = _
  rw [wp_bind]; congr; funext x s; exact wp_iteB
@[simp] theorem kLst_ap {ps : List PV} (h : ps.length ≤ 16777216) : kLst Q ps s = Q (.own (.list ps)) s := if_pos h
@[simp] theorem wp_eDict0 : wp eDict0 s Q E = Q (.own (.dict [])) s := rfl
def kPr (Q : List (PV × PV) → CSt → Prop) (p q : PV) : List (PV × PV) → CSt → Prop := fun ps s => Q ((p, q) :: ps) s
def kP2 (r : List (CM PV × CM PV)) (Q : List (PV × PV) → CSt → Prop) (E : EQ) (p : PV) : PV → CSt → Prop := fun q s => wp (ePairs r) s (kPr Q p q) E
def kP1 (b : CM PV) (r : List (CM PV × CM PV)) (Q : List (PV × PV) → CSt → Prop) (E : EQ) : PV → CSt → Prop := fun p s => wp b s (kP2 r Q E p) E
section
variable {QR : List (PV × PV) → CSt → Prop}
@[simp] theorem wp_ePairs0 : wp (ePairs []) s QR E = QR [] s := rfl
@[simp] theorem wp_ePairs {a b : CM PV} {r : List (CM PV × CM PV)} : wp (ePairs ((a, b) :: r)) s QR E = wp a s (kP1 b r QR E) E := by
  show wp (a >>= fun x => b >>= fun y => ePairs r >>= fun ps => _) s QR E = _
  rw [wp_bind]; congr; funext x s; rw [wp_bind]; unfold kP1; congr; funext y s; exact wp_bind
@[simp] theorem kP1_ap {b : CM PV} {r : List (CM PV × CM PV)} {p : PV} : kP1 b r QR E p s = wp b s (kP2 r QR E p) E := rfl
@[simp] theorem kP2_ap {r : List (CM PV × CM PV)} {p q : PV} : kP2 r QR E p q s = wp (ePairs r) s (kPr QR p q) E := rfl
@[simp] theorem kPr_ap {p q : PV} {ps : List (PV × PV)} : kPr QR p q ps s = QR ((p, q) :: ps) s := rfl
end
def kDisp (Q : RV → CSt → Prop) : List (PV × PV) → CSt → Prop := fun ps s => if ((ps.all fun p => (leafK p.1).isSome) && decide (ps.length ≤ 15)) = true then Q (.own (.dict (dputs [] ps))) s else False
@[simp] theorem wp_eDisp {ms : List (CM PV × CM PV)} : wp (eDisp ms) s Q E = wp (ePairs ms) s (kDisp Q) E := by
  show wp (ePairs ms >>= fun ps => _) s Q E = _
  rw [wp_bind]; congr; funext x s; exact wp_iteB
@[simp] theorem kDisp_ap {ps : List (PV × PV)} (h : ((ps.all fun p => (leafK p.1).isSome) && decide (ps.length ≤ 15)) = true) : kDisp Q ps s = Q (.own (.dict (dputs [] ps))) s := if_pos h
/-! ### slices -/
@[simp] theorem wp_oNone : wp oNone s QO E = QO none s := rfl
def kO (Q : Option Int → CSt → Prop) (E : EQ) : RV → CSt → Prop := fun x s => wp (match x with
  | .pv (.int i) => fun cs => .ok (some i) cs
  | _ => stuck) s Q E
@[simp] theorem wp_oSome {a : CM RV} : wp (oSome a) s QO E = wp a s (kO QO E) E := wp_bind
@[simp] theorem kO_ap {i : Int} : kO QO E (.pv (.int i)) s = QO (some i) s := rfl
def kSl3 (x : RV) (lo : Option Int) (Q : RV → CSt → Prop) (E : EQ) : Option Int → CSt → Prop := fun hi s => wp (opSl x lo hi) s Q E
def kSl2 (hi : CM (Option Int)) (x : RV) (Q : RV → CSt → Prop) (E : EQ) : Option Int → CSt → Prop := fun lo s => wp hi s (kSl3 x lo Q E) E
def kSl1 (lo hi : CM (Option Int)) (Q : RV → CSt → Prop) (E : EQ) : RV → CSt → Prop := fun x s => wp lo s (kSl2 hi x Q E) E
@[simp] theorem wp_eSl {a : CM RV} {lo hi : CM (Option Int)} : wp (eSl a lo hi) s Q E = wp a s (kSl1 lo hi Q E) E := by
  show wp (a >>= fun x => lo >>= fun l => hi >>= fun h => opSl x l h) s Q E = _
  rw [wp_bind]; congr; funext x s; rw [wp_bind]; unfold kSl1; congr; funext y s; exact wp_bind
@[simp] theorem kSl1_ap {lo hi : CM (Option Int)} {x : RV} : kSl1 lo hi Q E x s = wp lo s (kSl2 hi x Q E) E := rfl
@[simp] theorem kSl2_ap {hi : CM (Option Int)} {x : RV} {lo : Option Int} : kSl2 hi x Q E lo s = wp hi s (kSl3 x lo Q E) E := rfl
@[simp] theorem kSl3_ap {x : RV} {lo hi : Option Int} : kSl3 x lo Q E hi s = wp (opSl x lo hi) s Q E := rfl
/-! ### calls -/
def kLift (r : FRes) (s : CSt) (Q : RV → CSt → Prop) (E : EQ) : Prop := match r with
  | .ok (.pv p) h => Q (.pv p) { s with h := h }
  | .ok (.own c) h => Q (.own c) { s with h := h }
  | .exc x h => E x { s with h := h }
  | .stuck => False
theorem wp_lift {r : FRes} : wp (liftF r) s Q E = kLift r s Q E := by
  unfold wp liftF kLift
  cases r with
  | ok v h => cases v <;> rfl
  | _ => rfl
@[simp] theorem kLift_pv {p : PV} {h : List CO} : kLift (.ok (.pv p) h) s Q E = Q (.pv p) { s with h := h } := rfl
@[simp] theorem kLift_own {c : Cont} {h : List CO} : kLift (.ok (.own c) h) s Q E = Q (.own c) { s with h := h } := rfl
@[simp] theorem kLift_exc {x : PExc} {h : List CO} : kLift (.exc x h) s Q E = E x { s with h := h } := rfl
def kCall (F : FSem) (Q : RV → CSt → Prop) (E : EQ) : List PV → CSt → Prop := fun ps s => kLift (F ps s.h) s Q E
@[simp] theorem wp_eCall {F : FSem} {a : CM (List PV)} : wp (eCall F a) s Q E = wp a s (kCall F Q E) E := by
  show wp (a >>= fun x => _) s Q E = _
  rw [wp_bind]; congr; funext x s; unfold kCall; rw [← wp_lift]; rfl
@[simp] theorem kCall_ap {F : FSem} {ps : List PV} : kCall F Q E ps s = kLift (F ps s.h) s Q E := rfl
def kMeth2 (F : FSem) (l : PV) (Q : RV → CSt → Prop) (E : EQ) : List PV → CSt → Prop := fun ps s => kLift (F (l :: ps) s.h) s Q E
def kMeth1 (F : FSem) (ma : CM (List PV)) (Q : RV → CSt → Prop) (E : EQ) : PV → CSt → Prop := fun l s => wp ma s (kMeth2 F l Q E) E
def kMeth (c : Nat) (m : Str) (F : FSem) (ma : CM (List PV)) (Q : RV → CSt → Prop) (E : EQ) : RV → CSt → Prop := fun x s => wp (rcv c m x) s (kMeth1 F ma Q E) E
@[simp] theorem wp_eMeth {c : Nat} {m : Str} {F : FSem} {mo : CM RV} {ma : CM (List PV)} : wp (eMeth c m F mo ma) s Q E = wp mo s (kMeth c m F ma Q E) E := by
  show wp (mo >>= fun x => rcv c m x >>= fun l => ma >>= fun ps => _) s Q E = _
  rw [wp_bind]; congr; funext x s; rw [wp_bind]; unfold kMeth; congr; funext l s; rw [wp_bind]; unfold kMeth1; congr; funext ps s; unfold kMeth2; rw [← wp_lift]; rfl
@[simp] theorem kMeth_ap {c : Nat} {m : Str} {F : FSem} {ma : CM (List PV)} {x : RV} : kMeth c m F ma Q E x s = wp (rcv c m x) s (kMeth1 F ma Q E) E := rfl
@[simp] theorem kMeth1_ap {F : FSem} {ma : CM (List PV)} {l : PV} : kMeth1 F ma Q E l s = wp ma s (kMeth2 F l Q E) E := rfl
@[simp] theorem kMeth2_ap {F : FSem} {l : PV} {ps : List PV} : kMeth2 F l Q E ps s = kLift (F (l :: ps) s.h) s Q E := rfl
def kMake2 (l : Nat) (r : FRes) (s : CSt) (Q : RV → CSt → Prop) (E : EQ) : Prop := match r with
  | .ok (.pv .non) h => Q (.pv (.loc l)) { s with h := h }
  | .exc x h => E x { s with h := h }
  | _ => False
def kMake (c : Nat) (F : FSem) (Q : RV → CSt → Prop) (E : EQ) : List PV → CSt → Prop := fun ps s => kMake2 s.h.length (F (.loc s.h.length :: ps) (s.h ++ [.inst c []])) s Q E
@[simp] theorem wp_eMake {c : Nat} {F : FSem} {a : CM (List PV)} : wp (eMake c F a) s Q E = wp a s (kMake c F Q E) E := by
  show wp (a >>= fun x => _) s Q E = _
  rw [wp_bind]; congr; funext x s; unfold kMake kMake2 wp; simp only
  cases F (PV.loc s.h.length :: x) (s.h ++ [CO.inst c []]) with
  | ok v h => cases v with
    | pv p => cases p <;> rfl
    | own c => rfl
  | _ => rfl
@[simp] theorem kMake_ap {c : Nat} {F : FSem} {ps : List PV} : kMake c F Q E ps s = kMake2 s.h.length (F (.loc s.h.length :: ps) (s.h ++ [.inst c []])) s Q E := rfl
@[simp] theorem kMake2_ok {l : Nat} {h : List CO} : kMake2 l (.ok (.pv .non) h) s Q E = Q (.pv (.loc l)) { s with h := h } := rfl
@[simp] theorem kMake2_exc {l : Nat} {x : PExc} {h : List CO} : kMake2 l (.exc x h) s Q E = E x { s with h := h } := rfl
def kBm2 (f : RV → List PV → CM RV) (x : RV) (Q : RV → CSt → Prop) (E : EQ) : List PV → CSt → Prop := fun ps s => wp (f x ps) s Q E
def kBm (ty : RV → CSt → Bool) (f : RV → List PV → CM RV) (ma : CM (List PV)) (Q : RV → CSt → Prop) (E : EQ) : RV → CSt → Prop := fun x s => if ty x s = true then wp ma s (kBm2 f x Q E) E else False
@[simp] theorem wp_eBm {ty : RV → CSt → Bool} {f : RV → List PV → CM RV} {mo : CM RV} {ma : CM (List PV)} : wp (eBm ty f mo ma) s Q E = wp mo s (kBm ty f ma Q E) E := by
  show wp (mo >>= fun x => (fun cs => if ty x cs then .ok () cs else .stuck : CM Unit) >>= fun _ => ma >>= fun ps => f x ps) s Q E = _
  rw [wp_bind]; congr; funext x s; rw [wp_bind]; unfold kBm
  by_cases e : ty x s = true
  · rw [if_pos e, wp_ok (a := ()) (s' := s) (if_pos e)]
    exact wp_bind
  · rw [if_neg e]; unfold wp; simp [e]
@[simp] theorem kBm_ap {ty : RV → CSt → Bool} {f : RV → List PV → CM RV} {ma : CM (List PV)} {x : RV} (h : ty x s = true) : kBm ty f ma Q E x s = wp ma s (kBm2 f x Q E) E := if_pos h
@[simp] theorem kBm2_ap {f : RV → List PV → CM RV} {x : RV} {ps : List PV} : kBm2 f x Q E ps s = wp (f x ps) s Q E := rfl
def kBm0 (ty : RV → CSt → Bool) (f : RV → List PV → CM RV) (Q : RV → CSt → Prop) (E : EQ) : RV → CSt → Prop := fun x s => if ty x s = true then wp (f x []) s Q E else False
@[simp] theorem wp_eBm0 {ty : RV → CSt → Bool} {f : RV → List PV → CM RV} {mo : CM RV} : wp (eBm0 ty f mo) s Q E = wp mo s (kBm0 ty f Q E) E := by
  show wp (mo >>= fun x => (fun cs => if ty x cs then .ok () cs else .stuck : CM Unit) >>= fun _ => f x []) s Q E = _
  rw [wp_bind]; congr; funext x s; rw [wp_bind]; unfold kBm0
  by_cases e : ty x s = true
  · rw [if_pos e, wp_ok (a := ()) (s' := s) (if_pos e)]
  · rw [if_neg e]; unfold wp; simp [e]
@[simp] theorem kBm0_ap {ty : RV → CSt → Bool} {f : RV → List PV → CM RV} {x : RV} (h : ty x s = true) : kBm0 ty f Q E x s = wp (f x []) s Q E := if_pos h
def kKGet (tab : List (Str × Int)) (Q : RV → CSt → Prop) (E : EQ) : List PV → CSt → Prop := fun ps s => wp (match ps with
  | [.str z, d] => fun cs => .ok (.pv (match tab.lookup z with | some i => .int i | none => d)) cs
  | _ => stuck) s Q E
@[simp] theorem wp_eKGet {tab : List (Str × Int)} {a : CM (List PV)} : wp (eKGet tab a) s Q E = wp a s (kKGet tab Q E) E := wp_bind
def tabGet (tab : List (Str × Int)) (z : Str) (d : PV) : PV := match tab.lookup z with
  | some i => .int i
  | none => d
@[simp] theorem kKGet_ap {tab : List (Str × Int)} {z : Str} {d : PV} : kKGet tab Q E [.str z, d] s = Q (.pv (tabGet tab z d)) s := rfl
@[simp] theorem tabGet_int {tab : List (Str × Int)} {z : Str} {i : Int} : tabGet tab z (.int i) = .int ((tab.lookup z).getD i) := by
  unfold tabGet; cases tab.lookup z <;> rfl
def kMM (mx : Bool) (Q : RV → CSt → Prop) (E : EQ) : List PV → CSt → Prop := fun ps s => wp (opMM mx ps) s Q E
@[simp] theorem wp_eMM {mx : Bool} {a : CM (List PV)} : wp (eMM mx a) s Q E = wp a s (kMM mx Q E) E := wp_bind
@[simp] theorem kMM_ap {mx : Bool} {i j : Int} : kMM mx Q E [.int i, .int j] s = Q (.pv (.int (if mx then (if j > i then j else i) else (if j < i then j else i)))) s := rfl
/-! ### chains -/
def kCh3 (fi' : Int → Int → Bool) (fs' : Str → Str → Bool) (y : RV) (Q : RV → CSt → Prop) (E : EQ) : RV → CSt → Prop := fun w s => wp (opOrd fi' fs' y w) s Q E
def kChB (mc : CM RV) (fi' : Int → Int → Bool) (fs' : Str → Str → Bool) (y : RV) (Q : RV → CSt → Prop) (E : EQ) (b : Bool) (s : CSt) : Prop := if b = true then wp mc s (kCh3 fi' fs' y Q E) E else Q (.pv (.bl false)) s
def kCh2 (fi : Int → Int → Bool) (fs : Str → Str → Bool) (mc : CM RV) (fi' : Int → Int → Bool) (fs' : Str → Str → Bool) (x : RV) (Q : RV → CSt → Prop) (E : EQ) : RV → CSt → Prop := fun y s => match ordV fi fs x y with
  | some b => kChB mc fi' fs' y Q E b s
  | none => False
def kCh1 (fi : Int → Int → Bool) (fs : Str → Str → Bool) (mb mc : CM RV) (fi' : Int → Int → Bool) (fs' : Str → Str → Bool) (Q : RV → CSt → Prop) (E : EQ) : RV → CSt → Prop := fun x s => wp mb s (kCh2 fi fs mc fi' fs' x Q E) E
@[simp] theorem wp_eChain {fi fi' : Int → Int → Bool} {fs fs' : Str → Str → Bool} {ma mb mc : CM RV} : wp (eChain fi fs fi' fs' ma mb mc) s Q E = wp ma s (kCh1 fi fs mb mc fi' fs' Q E) E := by
  show wp (ma >>= fun x => mb >>= fun y => _) s Q E = _
  rw [wp_bind]; congr; funext x s; rw [wp_bind]; unfold kCh1; congr; funext y s; unfold kCh2
  cases h : ordV fi fs x y with
  | none => simp only [h]; rfl
  | some b =>
    simp only [h]; cases b
    · rfl
    · exact wp_bind
@[simp] theorem kCh1_ap {fi fi' : Int → Int → Bool} {fs fs' : Str → Str → Bool} {mb mc : CM RV} {x : RV} : kCh1 fi fs mb mc fi' fs' Q E x s = wp mb s (kCh2 fi fs mc fi' fs' x Q E) E := rfl
@[simp] theorem kCh2_i {fi fi' : Int → Int → Bool} {fs fs' : Str → Str → Bool} {mc : CM RV} {i j : Int} : kCh2 fi fs mc fi' fs' (.pv (.int i)) Q E (.pv (.int j)) s = kChB mc fi' fs' (.pv (.int j)) Q E (fi i j) s := rfl
@[simp] theorem kCh2_s {fi fi' : Int → Int → Bool} {fs fs' : Str → Str → Bool} {mc : CM RV} {i j : Str} : kCh2 fi fs mc fi' fs' (.pv (.str i)) Q E (.pv (.str j)) s = kChB mc fi' fs' (.pv (.str j)) Q E (fs i j) s := rfl
@[simp] theorem kChB_t {fi' : Int → Int → Bool} {fs' : Str → Str → Bool} {mc : CM RV} {y : RV} : kChB mc fi' fs' y Q E true s = wp mc s (kCh3 fi' fs' y Q E) E := rfl
@[simp] theorem kChB_f {fi' : Int → Int → Bool} {fs' : Str → Str → Bool} {mc : CM RV} {y : RV} : kChB mc fi' fs' y Q E false s = Q (.pv (.bl false)) s := rfl
@[simp] theorem kCh3_ap {fi' : Int → Int → Bool} {fs' : Str → Str → Bool} {y w : RV} : kCh3 fi' fs' y Q E w s = wp (opOrd fi' fs' y w) s Q E := rfl
@[simp] theorem wp_ordI {fi : Int → Int → Bool} {fs : Str → Str → Bool} {i j : Int} : wp (opOrd fi fs (.pv (.int i)) (.pv (.int j))) s Q E = Q (.pv (.bl (fi i j))) s := rfl
@[simp] theorem wp_ordS {fi : Int → Int → Bool} {fs : Str → Str → Bool} {i j : Str} : wp (opOrd fi fs (.pv (.str i)) (.pv (.str j))) s Q E = Q (.pv (.bl (fs i j))) s := rfl
/-- the last test of a chain is pure -/
theorem kChB_split {fi' : Int → Int → Bool} {fs' : Str → Str → Bool} {mc : CM RV} {y : RV} {b : Bool} (h1 : b = true → wp mc s (kCh3 fi' fs' y Q E) E) (h2 : b = false → Q (.pv (.bl false)) s) : kChB mc fi' fs' y Q E b s := by
  cases b
  · exact h2 rfl
  · exact h1 rfl
@[simp] theorem wp_eLeLe {ma mb mc : CM RV} : wp (eLeLe ma mb mc) s Q E = wp ma s (kCh1 (fun i j => decide (i ≤ j)) (fun a b => !strLt b a) mb mc (fun i j => decide (i ≤ j)) (fun a b => !strLt b a) Q E) E := wp_eChain
/-! ### statements -/
@[simp] theorem wp_sNil : wp sNil s QF E = QF .nx s := rfl
def kSeq (b : CM Fl) (Q : Fl → CSt → Prop) (E : EQ) : Fl → CSt → Prop := fun f s => match f with
  | .nx => wp b s Q E
  | .rt r => Q (.rt r) s
@[simp] theorem wp_sSeq {a b : CM Fl} : wp (sSeq a b) s QF E = wp a s (kSeq b QF E) E := by
  show wp (a >>= fun x => _) s QF E = _
  rw [wp_bind]; congr; funext x s; cases x <;> rfl
@[simp] theorem wp_andThen {a b : CM Fl} : wp (andThen a b) s QF E = wp a s (kSeq b QF E) E := by
  show wp (a >>= fun x => _) s QF E = _
  rw [wp_bind]; congr; funext x s; cases x <;> rfl
@[simp] theorem kSeq_nx {b : CM Fl} : kSeq b QF E .nx s = wp b s QF E := rfl
@[simp] theorem kSeq_rt {b : CM Fl} {r : RV} : kSeq b QF E (.rt r) s = QF (.rt r) s := rfl
def kExpr (Q : Fl → CSt → Prop) : RV → CSt → Prop := fun _ s => Q .nx s
@[simp] theorem wp_sExpr {a : CM RV} : wp (sExpr a) s QF E = wp a s (kExpr QF) E := by
  show wp (a >>= fun x => _) s QF E = _
  rw [wp_bind]; rfl
@[simp] theorem kExpr_ap {x : RV} : kExpr QF x s = QF .nx s := rfl
def kRet (Q : Fl → CSt → Prop) : RV → CSt → Prop := fun r s => Q (.rt r) s
@[simp] theorem wp_sRet {a : CM RV} : wp (sRet a) s QF E = wp a s (kRet QF) E := by
  show wp (a >>= fun x => _) s QF E = _
  rw [wp_bind]; rfl
@[simp] theorem kRet_ap {x : RV} : kRet QF x s = QF (.rt x) s := rfl
@[simp] theorem wp_sRetN : wp sRetN s QF E = QF (.rt (.pv .non)) s := rfl
def kNx (Q : Fl → CSt → Prop) : Unit → CSt → Prop := fun _ s => Q .nx s
@[simp] theorem kNx_ap {u : Unit} : kNx QF u s = QF .nx s := rfl
def kAsg (t : PV → CM Unit) (Q : Fl → CSt → Prop) (E : EQ) : PV → CSt → Prop := fun p s => wp (t p) s (kNx Q) E
@[simp] theorem wp_sAsg {a : CM PV} {t : PV → CM Unit} : wp (sAsg a t) s QF E = wp a s (kAsg t QF E) E := by
  show wp (a >>= fun p => t p >>= fun _ => _) s QF E = _
  rw [wp_bind]; congr; funext x s; exact wp_bind
@[simp] theorem kAsg_ap {t : PV → CM Unit} {p : PV} : kAsg t QF E p s = wp (t p) s (kNx QF) E := rfl
@[simp] theorem wp_gNm {i : Nat} {p : PV} : wp (gNm i p) s QU E = QU () { s with sl := s.sl.set i (.pv p) } := rfl
@[simp] theorem wp_setSl {i : Nat} {v : SV} : wp (setSl i v) s QU E = QU () { s with sl := s.sl.set i v } := rfl
@[simp] theorem wp_gsNil : wp (gsNil []) s QU E = QU () s := rfl
def kGs (r : List PV → CM Unit) (ps : List PV) (Q : Unit → CSt → Prop) (E : EQ) : Unit → CSt → Prop := fun _ s => wp (r ps) s Q E
@[simp] theorem wp_gsCons {t : PV → CM Unit} {r : List PV → CM Unit} {p : PV} {ps : List PV} : wp (gsCons t r (p :: ps)) s QU E = wp (t p) s (kGs r ps QU E) E := wp_bind
@[simp] theorem kGs_ap {r : List PV → CM Unit} {ps : List PV} {u : Unit} : kGs r ps QU E u s = wp (r ps) s QU E := rfl
@[simp] theorem wp_gTp {n : Nat} {r : List PV → CM Unit} {ps : List PV} (h : ps.length = n) : wp (gTp n r (.tup ps)) s QU E = wp (r ps) s QU E := by
  show wp (if ps.length = n then r ps else stuck) s QU E = _
  rw [if_pos h]
def kOwn (i : Nat) (Q : Fl → CSt → Prop) : RV → CSt → Prop := fun r s => match r with
  | .own c => Q .nx { s with sl := s.sl.set i (.own c) }
  | .pv p => Q .nx { s with sl := s.sl.set i (.pv p) }
  | .als _ => False
@[simp] theorem wp_sOwn {i : Nat} {a : CM RV} : wp (sOwn i a) s QF E = wp a s (kOwn i QF) E := by
  show wp (a >>= fun p => _) s QF E = _
  rw [wp_bind]; congr; funext x s; cases x <;> rfl
@[simp] theorem kOwn_o {i : Nat} {c : Cont} : kOwn i QF (.own c) s = QF .nx { s with sl := s.sl.set i (.own c) } := rfl
@[simp] theorem kOwn_p {i : Nat} {p : PV} : kOwn i QF (.pv p) s = QF .nx { s with sl := s.sl.set i (.pv p) } := rfl
@[simp] theorem wp_sRaise {c : Nat} : wp (sRaise c) s QF E = E ⟨c, none⟩ s := rfl
def kRaiseA (c : Nat) (f : Str) (Q : Fl → CSt → Prop) (E : EQ) : List PV → CSt → Prop := fun ps s => wp (fun cs => match ps with
    | [p] => .exc ⟨c, some (f, p)⟩ cs
    | _ => .stuck) s Q E
@[simp] theorem wp_sRaiseA {c : Nat} {f : Str} {a : CM (List PV)} : wp (sRaiseA c f a) s QF E = wp a s (kRaiseA c f QF E) E := wp_bind
@[simp] theorem kRaiseA_ap {c : Nat} {f : Str} {p : PV} : kRaiseA c f QF E [p] s = E ⟨c, some (f, p)⟩ s := rfl
def kPar2 (i j : Nat) (Q : Fl → CSt → Prop) (E : EQ) : List PV → CSt → Prop := fun ps s => wp (match ps with
  | [p, q] => fun cs => .ok .nx (setP j q (setP i p cs))
  | _ => stuck) s Q E
@[simp] theorem wp_sPar2 {i j : Nat} {a : CM (List PV)} : wp (sPar2 i j a) s QF E = wp a s (kPar2 i j QF E) E := wp_bind
@[simp] theorem kPar2_ap {i j : Nat} {p q : PV} : kPar2 i j QF E [p, q] s = QF .nx { s with sl := (s.sl.set i (.pv p)).set j (.pv q) } := rfl
def kPar3 (i j l : Nat) (Q : Fl → CSt → Prop) (E : EQ) : List PV → CSt → Prop := fun ps s => wp (match ps with
  | [p, q, r] => fun cs => .ok .nx (setP l r (setP j q (setP i p cs)))
  | _ => stuck) s Q E
@[simp] theorem wp_sPar3 {i j l : Nat} {a : CM (List PV)} : wp (sPar3 i j l a) s QF E = wp a s (kPar3 i j l QF E) E := wp_bind
@[simp] theorem kPar3_ap {i j l : Nat} {p q r : PV} : kPar3 i j l QF E [p, q, r] s = QF .nx { s with sl := ((s.sl.set i (.pv p)).set j (.pv q)).set l (.pv r) } := rfl
/-! ### sources, loops -/
def kSeqS (Q : Src → CSt → Prop) (E : EQ) : PV → CSt → Prop := fun p s => wp (fun cs => match itemsOf cs p with
    | some r => .ok r cs
    | none => .stuck) s Q E
@[simp] theorem wp_iSeq {a : CM PV} : wp (iSeq a) s QS E = wp a s (kSeqS QS E) E := wp_bind
@[simp] theorem kSeqS_l {xs : List PV} : kSeqS QS E (.lst xs) s = QS (xs, yes) s := rfl
@[simp] theorem kSeqS_t {xs : List PV} : kSeqS QS E (.tup xs) s = QS (xs, yes) s := rfl
@[simp] theorem kSeqS_s {x : Str} : kSeqS QS E (.str x) s = QS (signs x, yes) s := rfl
theorem kSeqS_h {l : Nat} {xs : List PV} (e : heapList s l = some xs) : kSeqS QS E (.loc l) s = QS (xs, fun cs' => decide (heapList cs' l = some xs)) s := by
  unfold kSeqS; exact wp_ok (by simp only [itemsOf, e])
def kR1 (Q : Src → CSt → Prop) (E : EQ) : List PV → CSt → Prop := fun ps s => wp (match ps with
  | [.int j] => fun cs => if inR j then .ok (rangeP 0 j.toNat, yes) cs else .stuck
  | _ => stuck) s Q E
@[simp] theorem wp_iRange1 {a : CM (List PV)} : wp (iRange1 a) s QS E = wp a s (kR1 QS E) E := wp_bind
@[simp] theorem kR1_ap {j : Int} (h : inR j = true) : kR1 QS E [.int j] s = QS (rangeP 0 j.toNat, yes) s := by
  show wp (fun cs => if inR j then .ok (rangeP 0 j.toNat, yes) cs else .stuck) s QS E = _
  rw [wp_iteB, if_pos h]
def kR2 (Q : Src → CSt → Prop) (E : EQ) : List PV → CSt → Prop := fun ps s => wp (match ps with
  | [.int i, .int j] => fun cs => if inR i && inR j then .ok (rangeP i (j - i).toNat, yes) cs else .stuck
  | _ => stuck) s Q E
@[simp] theorem wp_iRange2 {a : CM (List PV)} : wp (iRange2 a) s QS E = wp a s (kR2 QS E) E := wp_bind
@[simp] theorem kR2_ap {i j : Int} (h : (inR i && inR j) = true) : kR2 QS E [.int i, .int j] s = QS (rangeP i (j - i).toNat, yes) s := by
  show wp (fun cs => if inR i && inR j then .ok (rangeP i (j - i).toNat, yes) cs else .stuck) s QS E = _
  rw [wp_iteB, if_pos h]
def kEnu (Q : Src → CSt → Prop) (E : EQ) : List PV → CSt → Prop := fun ps s => wp (match ps with
  | [.lst xs] => fun cs => .ok (enumP xs, yes) cs
  | _ => stuck) s Q E
@[simp] theorem wp_iEnu {a : CM (List PV)} : wp (iEnu a) s QS E = wp a s (kEnu QS E) E := wp_bind
@[simp] theorem kEnu_ap {xs : List PV} : kEnu QS E [.lst xs] s = QS (enumP xs, yes) s := rfl
def kFor (t : PV → CM Unit) (b : CM Fl) (Q : Fl → CSt → Prop) (E : EQ) : Src → CSt → Prop := fun r s => wp (forL r.2 t b r.1) s Q E
@[simp] theorem wp_sFor {m : CM Src} {t : PV → CM Unit} {b : CM Fl} : wp (sFor m t b) s QF E = wp m s (kFor t b QF E) E := wp_bind
theorem kFor_ap {t : PV → CM Unit} {b : CM Fl} {r : Src} : kFor t b QF E r s = wp (forL r.2 t b r.1) s QF E := rfl
theorem wp_for0 {chk : CSt → Bool} {t : PV → CM Unit} {b : CM Fl} (h : chk s = true) : wp (forL chk t b []) s QF E = QF .nx s := by
  unfold wp forL; simp [h]
def kBody (r : CM Fl) (b : CM Fl) (Q : Fl → CSt → Prop) (E : EQ) : Unit → CSt → Prop := fun _ s => wp b s (kSeq r Q E) E
@[simp] theorem kBody_ap {r b : CM Fl} {u : Unit} : kBody r b QF E u s = wp b s (kSeq r QF E) E := rfl
theorem wp_for1 {chk : CSt → Bool} {t : PV → CM Unit} {b : CM Fl} {p : PV} {ps : List PV} (h : chk s = true) : wp (forL chk t b (p :: ps)) s QF E = wp (t p) s (kBody (forL chk t b ps) b QF E) E := by
  show wp (fun cs => if chk cs then (t p >>= fun _ => andThen b (forL chk t b ps)) cs else .stuck) s QF E = _
  have : wp (fun cs => if chk cs then (t p >>= fun _ => andThen b (forL chk t b ps)) cs else .stuck) s QF E = wp (t p >>= fun _ => andThen b (forL chk t b ps)) s QF E := by
    unfold wp; simp [h]
  rw [this, wp_bind]; congr; funext u s; simp
/-- what stands behind a loop's body -/
def kEnd (I : CSt → Prop) (Q : Fl → CSt → Prop) : Fl → CSt → Prop := fun f s => match f with
  | .nx => I s
  | .rt r => Q (.rt r) s
@[simp] theorem kEnd_nx {I : CSt → Prop} : kEnd I QF .nx s = I s := rfl
@[simp] theorem kEnd_rt {I : CSt → Prop} {r : RV} : kEnd I QF (.rt r) s = QF (.rt r) s := rfl
def kBd (b : CM Fl) (Q : Fl → CSt → Prop) (E : EQ) : Unit → CSt → Prop := fun _ s => wp b s Q E
@[simp] theorem kBd_ap {b : CM Fl} {u : Unit} : kBd b QF E u s = wp b s QF E := rfl
theorem forL_inv {chk : CSt → Bool} {t : PV → CM Unit} {b : CM Fl} (I : List PV → CSt → Prop) : ∀ (xs : List PV) (s : CSt), I xs s → (∀ ys s, I ys s → chk s = true) →
    (∀ p ps s, I (p :: ps) s → wp (t p) s (kBd b (kEnd (I ps) QF) E) E) → (∀ s, I [] s → QF .nx s) → wp (forL chk t b xs) s QF E
  | [], s, h0, hc, hs, hf => by rw [wp_for0 (hc _ _ h0)]; exact hf s h0
  | p :: ps, s, h0, hc, hs, hf => by
    rw [wp_for1 (hc _ _ h0)]
    refine wp_mono (hs p ps s h0) (fun u s' hb => ?_) fun x s' he => he
    simp only [kBody_ap]
    refine wp_mono hb (fun f s'' hk => ?_) fun x s' he => he
    cases f with
    | nx => exact forL_inv I ps s'' hk hc hs hf
    | rt r => exact hk
/-- a loop over a source that nobody changes -/
theorem for_inv {t : PV → CM Unit} {b : CM Fl} {xs : List PV} (I : List PV → CSt → Prop) (h0 : I xs s) (hs : ∀ p ps s, I (p :: ps) s → wp (t p) s (kBd b (kEnd (I ps) QF) E) E) (hf : ∀ s, I [] s → QF .nx s) : kFor t b QF E (xs, yes) s :=
  forL_inv I xs s h0 (fun _ _ _ => rfl) hs hf
def kW (c : CM Bool) (b : CM Fl) (n : Nat) (Q : Fl → CSt → Prop) (E : EQ) : Bool → CSt → Prop := fun x s => if x then wp b s (kSeq (whileL c b n) Q E) E else Q .nx s
theorem wp_while {c : CM Bool} {b : CM Fl} {n : Nat} : wp (whileL c b (n + 1)) s QF E = wp c s (kW c b n QF E) E := by
  show wp (c >>= fun x => _) s QF E = _
  rw [wp_bind]; congr; funext x s; unfold kW; cases x
  · rfl
  · exact wp_andThen
@[simp] theorem kW_t {c : CM Bool} {b : CM Fl} {n : Nat} : kW c b n QF E true s = wp b s (kSeq (whileL c b n) QF E) E := rfl
@[simp] theorem kW_f {c : CM Bool} {b : CM Fl} {n : Nat} : kW c b n QF E false s = QF .nx s := rfl
/-- a while by a measure -/
theorem while_inv {c : CM Bool} {b : CM Fl} (I : Nat → CSt → Prop) (hs : ∀ n s, I n s → wp c s (fun x s' => if x = true then wp b s' (kEnd (fun s'' => ∃ m, m < n ∧ I m s'') QF) E else QF .nx s') E) : ∀ (f n : Nat) (s : CSt), n < f → I n s → wp (whileL c b f) s QF E
  | 0, n, s, h, _ => absurd h (Nat.not_lt_zero _)
  | f + 1, n, s, h, hI => by
    rw [wp_while]
    refine wp_mono (hs n s hI) (fun x s' hk => ?_) fun x s' he => he
    cases x with
    | false => simpa using hk
    | true =>
      simp only [if_true] at hk
      simp only [kW_t]
      refine wp_mono hk (fun g s'' hg => ?_) fun x s' he => he
      cases g with
      | rt r => exact hg
      | nx =>
        obtain ⟨m, h1, h2⟩ := hg
        exact while_inv I hs f m s'' (by omega) h2
/-! ### comprehensions -/
def compS (t : PV → CM Unit) (c : CM Bool) (e : CM PV) (p : PV) : CM (Option PV) := noexc (t p) >>= fun _ => noexc c >>= fun b => if b then (noexc e >>= fun q => CM.pure (some q)) else CM.pure none
def kC3 (Q : Option PV → CSt → Prop) : PV → CSt → Prop := fun q s => Q (some q) s
def kC2 (e : CM PV) (Q : Option PV → CSt → Prop) : Bool → CSt → Prop := fun b s => if b then wp e s (kC3 Q) (fun _ _ => False) else Q none s
def kC1 (c : CM Bool) (e : CM PV) (Q : Option PV → CSt → Prop) : Unit → CSt → Prop := fun _ s => wp c s (kC2 e Q) fun _ _ => False
theorem wp_noexc {m : CM α} {Q : α → CSt → Prop} : wp (noexc m) s Q E = wp m s Q fun _ _ => False := by
  unfold wp noexc; cases m s <;> rfl
section
variable {QC : Option PV → CSt → Prop}
theorem wp_compS {t : PV → CM Unit} {c : CM Bool} {e : CM PV} {p : PV} : wp (compS t c e p) s QC E = wp (t p) s (kC1 c e QC) fun _ _ => False := by
  unfold compS
  rw [wp_bind, wp_noexc]; congr; funext u s; rw [wp_bind, wp_noexc]; unfold kC1; congr; funext b s; unfold kC2
  cases b with
  | false => rfl
  | true => simp only [if_true]; rw [wp_bind, wp_noexc]; rfl
@[simp] theorem kC1_ap {c : CM Bool} {e : CM PV} {u : Unit} : kC1 c e QC u s = wp c s (kC2 e QC) fun _ _ => False := rfl
@[simp] theorem kC2_t {e : CM PV} : kC2 e QC true s = wp e s (kC3 QC) (fun _ _ => False) := rfl
@[simp] theorem kC2_f {e : CM PV} : kC2 e QC false s = QC none s := rfl
@[simp] theorem kC3_ap {q : PV} : kC3 QC q s = QC (some q) s := rfl
end
theorem wp_comp0 {vs : List Nat} {chk : CSt → Bool} {t : PV → CM Unit} {c : CM Bool} {e : CM PV} {acc : List PV} (h : chk s = true) : wp (compL vs chk t c e [] acc) s QA E = QA acc s := by
  unfold wp compL; simp [h]
theorem wp_comp1 {vs : List Nat} {chk : CSt → Bool} {t : PV → CM Unit} {c : CM Bool} {e : CM PV} {p : PV} {ps acc : List PV} (h : chk s = true) :
    wp (compL vs chk t c e (p :: ps) acc) s QA E = wp (compS t c e p) s (fun o s' => wp (compL vs chk t c e ps (acc ++ o.toList)) ⟨wipeC s'.sl vs, s'.h⟩ QA E) E := by
  have e1 : wp (compL vs chk t c e (p :: ps) acc) s QA E = wp (noexc (t p) >>= fun _ => noexc c >>= fun b => if b then (noexc e >>= fun q => (fun cs' => .ok () { cs' with sl := wipeC cs'.sl vs } : CM Unit) >>= fun _ => compL vs chk t c e ps (acc ++ [q])) else ((fun cs' => .ok () { cs' with sl := wipeC cs'.sl vs } : CM Unit) >>= fun _ => compL vs chk t c e ps acc)) s QA E := by
    unfold wp; rw [compL]; simp [h]
  rw [e1, wp_compS, wp_bind, wp_noexc]; congr; funext u s; rw [wp_bind, wp_noexc]; unfold kC1; congr; funext b s
  cases b with
  | false =>
    simp only [if_false, Bool.false_eq_true, kC2_f, Option.toList, List.append_nil]
    rw [wp_bind]; rfl
  | true =>
    simp only [if_true, kC2_t, Option.toList]
    rw [wp_bind, wp_noexc]; congr
theorem comp_inv {vs : List Nat} {chk : CSt → Bool} {t : PV → CM Unit} {c : CM Bool} {e : CM PV} (I : List PV → List PV → CSt → Prop) : ∀ (xs acc : List PV) (s : CSt), I xs acc s → (∀ ys acc s, I ys acc s → chk s = true) →
    (∀ p ps acc s, I (p :: ps) acc s → wp (t p) s (kC1 c e fun o s' => I ps (acc ++ o.toList) ⟨wipeC s'.sl vs, s'.h⟩) fun _ _ => False) → (∀ acc s, I [] acc s → QA acc s) → wp (compL vs chk t c e xs acc) s QA E
  | [], acc, s, h0, hc, hs, hf => by rw [wp_comp0 (hc _ _ _ h0)]; exact hf acc s h0
  | p :: ps, acc, s, h0, hc, hs, hf => by
    rw [wp_comp1 (hc _ _ _ h0), wp_compS]
    refine wp_mono (hs p ps acc s h0) (fun u s' hb => ?_) fun x s' he => he
    simp only [kC1_ap] at hb ⊢
    refine wp_mono hb (fun b s'' hk => ?_) fun x s' he => he
    cases b with
    | false => exact comp_inv I ps _ _ hk hc hs hf
    | true => exact wp_mono hk (fun q s3 h3 => comp_inv I ps _ _ h3 hc hs hf) fun x s' he => he
def kComp (vs : List Nat) (t : PV → CM Unit) (c : CM Bool) (e : CM PV) (Q : RV → CSt → Prop) (E : EQ) : Src → CSt → Prop := fun r s => if r.1.length ≤ 16777216 then wp (compL vs r.2 t c e r.1 []) ⟨wipeC s.sl vs, s.h⟩ (fun ys s' => Q (.own (.list ys)) s') E else False
@[simp] theorem wp_eComp {vs : List Nat} {m : CM Src} {t : PV → CM Unit} {c : CM Bool} {e : CM PV} : wp (eComp vs m t c e) s Q E = wp m s (kComp vs t c e Q E) E := by
  show wp (m >>= fun r => (fun cs => if r.1.length ≤ 16777216 then .ok () { cs with sl := wipeC cs.sl vs } else .stuck : CM Unit) >>= fun _ => compL vs r.2 t c e r.1 [] >>= fun ys => _) s Q E = _
  rw [wp_bind]; congr; funext r s; rw [wp_bind]; unfold kComp
  by_cases hl : r.1.length ≤ 16777216
  · rw [if_pos hl, wp_ok (a := ()) (s' := ⟨wipeC s.sl vs, s.h⟩) (if_pos hl)]
    exact wp_bind
  · rw [if_neg hl]; unfold wp; simp [hl]
theorem kComp_inv {vs : List Nat} {t : PV → CM Unit} {c : CM Bool} {e : CM PV} {xs : List PV} (I : List PV → List PV → CSt → Prop) (hl : xs.length ≤ 16777216) (h0 : I xs [] ⟨wipeC s.sl vs, s.h⟩)
    (hs : ∀ p ps acc s, I (p :: ps) acc s → wp (t p) s (kC1 c e fun o s' => I ps (acc ++ o.toList) ⟨wipeC s'.sl vs, s'.h⟩) fun _ _ => False) (hf : ∀ acc s, I [] acc s → Q (.own (.list acc)) s) : kComp vs t c e Q E (xs, yes) s := by
  unfold kComp
  simp only [hl, if_true]
  exact comp_inv I xs [] _ h0 (fun _ _ _ _ => rfl) hs hf
/-- a comprehension that changes nothing -/
theorem kComp_pure {vs : List Nat} {t : PV → CM Unit} {c : CM Bool} {e : CM PV} {xs : List PV} (F : PV → Option PV) (hl : xs.length ≤ 16777216)
    (hs : ∀ p ∈ xs, wp (t p) ⟨wipeC s.sl vs, s.h⟩ (kC1 c e fun o s' => o = F p ∧ wipeC s'.sl vs = wipeC s.sl vs ∧ s'.h = s.h) fun _ _ => False) (hf : Q (.own (.list (xs.filterMap F))) ⟨wipeC s.sl vs, s.h⟩) : kComp vs t c e Q E (xs, yes) s := by
  refine kComp_inv (fun ps acc s' => s' = ⟨wipeC s.sl vs, s.h⟩ ∧ acc ++ ps.filterMap F = xs.filterMap F ∧ ∀ p ∈ ps, p ∈ xs) hl ⟨rfl, rfl, fun _ h => h⟩ (fun p ps acc s' hI => ?_) fun acc s' hI => ?_
  · obtain ⟨rfl, h2, h3⟩ := hI
    refine wp_mono (hs p (h3 p (List.mem_cons_self ..))) (fun u s1 hb => ?_) fun x s' he => he
    simp only [kC1_ap] at hb ⊢
    have fin : ∀ (o : Option PV) (s2 : CSt), (o = F p ∧ wipeC s2.sl vs = wipeC s.sl vs ∧ s2.h = s.h) → (⟨wipeC s2.sl vs, s2.h⟩ : CSt) = ⟨wipeC s.sl vs, s.h⟩ ∧ (acc ++ o.toList) ++ ps.filterMap F = xs.filterMap F ∧ ∀ p ∈ ps, p ∈ xs := by
      rintro o s2 ⟨rfl, e2, e3⟩
      refine ⟨by rw [e2, e3], ?_, fun q hq => h3 q (List.mem_cons_of_mem _ hq)⟩
      rw [← h2, List.filterMap_cons, List.append_assoc]
      cases F p <;> rfl
    refine wp_mono hb (fun b s'' hk => ?_) fun x s' he => he
    cases b with
    | false => exact fin _ _ hk
    | true => exact wp_mono hk (fun q s3 h3' => fin _ _ h3') fun x s' he => he
  · obtain ⟨rfl, h2, _⟩ := hI
    simp at h2
    rw [h2]; exact hf
/-! ### a def's result -/
def kFin (Q : FRes → Prop) : Fl → CSt → Prop := fun f s => Q (finF (.ok f s))
theorem wp_def {m : CM Fl} {n : Nat} {ps : List PV} {h : List CO} {R : FRes → Prop} (hw : wp m ⟨startC n ps, h⟩ (kFin R) fun x s' => R (.exc x s'.h)) : R (runDef n m ps h) := by
  unfold runDef; unfold wp kFin at hw
  cases e : m ⟨startC n ps, h⟩ with
  | ok a s' => rw [e] at hw; exact hw
  | exc x s' => rw [e] at hw; exact hw
  | stuck => rw [e] at hw; exact hw.elim
@[simp] theorem kFin_nx {R : FRes → Prop} : kFin R .nx s = R (.ok (.pv .non) s.h) := rfl
@[simp] theorem kFin_pv {R : FRes → Prop} {p : PV} : kFin R (.rt (.pv p)) s = R (.ok (.pv p) s.h) := rfl
@[simp] theorem kFin_own {R : FRes → Prop} {c : Cont} : kFin R (.rt (.own c)) s = R (.ok (.own c) s.h) := rfl
def kFinA (R : FRes → Prop) (o : Option SV) (h : List CO) : Prop := match o with
  | some (.pv p) => R (.ok (.pv p) h)
  | some (.own c) => R (.ok (.own c) h)
  | _ => R .stuck
@[simp] theorem kFin_al {R : FRes → Prop} {i : Nat} : kFin R (.rt (.als i)) s = kFinA R s.sl[i]? s.h := by
  unfold kFin kFinA finF; simp only
  cases s.sl[i]? with
  | none => rfl
  | some v => cases v <;> rfl
@[simp] theorem kFinA_pv {R : FRes → Prop} {p : PV} : kFinA R (some (.pv p)) h = R (.ok (.pv p) h) := rfl
@[simp] theorem kFinA_own {R : FRes → Prop} {c : Cont} : kFinA R (some (.own c)) h = R (.ok (.own c) h) := rfl
end
end CL

/-! WP2: running the clean layer's texts: operators. -/
namespace CL
open PySem L2
variable {Q : RV → CSt → Prop} {E : EQ} {s : CSt} {sl : List SV} {h : List CO} {QU : Unit → CSt → Prop}
/-! ### what a value is -/
@[simp] theorem listC_non : listC s (.pv .non) = none := rfl
@[simp] theorem listC_bl {b : Bool} : listC s (.pv (.bl b)) = none := rfl
@[simp] theorem listC_int {i : Int} : listC s (.pv (.int i)) = none := rfl
@[simp] theorem listC_str {x : Str} : listC s (.pv (.str x)) = none := rfl
@[simp] theorem listC_tup {xs : List PV} : listC s (.pv (.tup xs)) = none := rfl
@[simp] theorem listC_clo {i : Nat} {xs : List PV} : listC s (.pv (.clo i xs)) = none := rfl
@[simp] theorem listC_lst {xs : List PV} : listC s (.pv (.lst xs)) = some xs := rfl
@[simp] theorem listC_own {xs : List PV} : listC s (.own (.list xs)) = some xs := rfl
@[simp] theorem listC_ownd {kv : List (PV × PV)} : listC s (.own (.dict kv)) = none := rfl
def lcS (o : Option SV) : Option (List PV) := match o with
  | some (.own (.list xs)) => some xs
  | some (.pv (.lst xs)) => some xs
  | _ => none
def lcH (o : Option CO) : Option (List PV) := match o with
  | some (.cont (.list xs)) => some xs
  | _ => none
@[simp] theorem listC_al {i : Nat} : listC s (.als i) = lcS s.sl[i]? := by
  unfold listC lcS
  dsimp only
  all_goals cases s.sl[i]? with
  | none => rfl
  | some v => cases v with
    | own c => cases c <;> rfl
    | pv p => cases p <;> rfl
    | _ => rfl
@[simp] theorem lcS_own {xs : List PV} : lcS (some (.own (.list xs))) = some xs := rfl
@[simp] theorem lcS_ownd {kv : List (PV × PV)} : lcS (some (.own (.dict kv))) = none := rfl
@[simp] theorem listC_loc {l : Nat} : listC s (.pv (.loc l)) = lcH s.h[l]? := by
  unfold listC lcH
  dsimp only
  all_goals cases s.h[l]? with
  | none => rfl
  | some v => cases v with
    | cont c => cases c <;> rfl
    | _ => rfl
@[simp] theorem lcH_l {xs : List PV} : lcH (some (.cont (.list xs))) = some xs := rfl
@[simp] theorem lcH_d {kv : List (PV × PV)} : lcH (some (.cont (.dict kv))) = none := rfl
@[simp] theorem lcH_i {c : Nat} {fs : List (Str × PV)} : lcH (some (.inst c fs)) = none := rfl
@[simp] theorem lcH_t : lcH (some .tbl) = none := rfl
@[simp] theorem heapList_eq {l : Nat} : heapList s l = lcH s.h[l]? := by
  unfold heapList lcH
  cases s.h[l]? with
  | none => rfl
  | some v => cases v with
    | cont c => cases c <;> rfl
    | _ => rfl
@[simp] theorem valC_pv {p : PV} : valC s (.pv p) = some p := rfl
@[simp] theorem valC_own {c : Cont} : valC s (.own c) = none := rfl
def vcS (o : Option SV) : Option PV := match o with
  | some (.pv p) => some p
  | _ => none
@[simp] theorem valC_al {i : Nat} : valC s (.als i) = vcS s.sl[i]? := by
  unfold valC vcS
  dsimp only
  all_goals cases s.sl[i]? with
  | none => rfl
  | some v => cases v <;> rfl
@[simp] theorem vcS_own {c : Cont} : vcS (some (.own c)) = none := rfl
@[simp] theorem vcS_pv {p : PV} : vcS (some (.pv p)) = some p := rfl
def ccH (o : Option CO) : Option Cont := match o with
  | some (.cont c) => some c
  | _ => none
def ccS (o : Option SV) (h : List CO) : Option Cont := match o with
  | some (.own c) => some c
  | some (.pv (.loc l)) => ccH h[l]?
  | _ => none
@[simp] theorem contC_own {c : Cont} : contC s (.own c) = some c := rfl
@[simp] theorem contC_loc {l : Nat} : contC s (.pv (.loc l)) = ccH s.h[l]? := by
  unfold contC ccH
  dsimp only
  all_goals cases s.h[l]? with
  | none => rfl
  | some v => cases v <;> rfl
@[simp] theorem contC_al {i : Nat} : contC s (.als i) = ccS s.sl[i]? s.h := by
  unfold contC ccS
  dsimp only
  all_goals cases s.sl[i]? with
  | none => rfl
  | some v => cases v with
    | pv p => cases p with
      | loc l =>
        unfold ccH
        dsimp only
        all_goals cases s.h[l]? with
        | none => rfl
        | some v => cases v <;> rfl
      | _ => rfl
    | _ => rfl
@[simp] theorem ccH_c {c : Cont} : ccH (some (.cont c)) = some c := rfl
@[simp] theorem ccS_own {c : Cont} : ccS (some (.own c)) h = some c := rfl
@[simp] theorem wrC_own {c c' : Cont} : wrC (.own c) c' s = s := rfl
@[simp] theorem wrC_loc {l : Nat} {c' : Cont} : wrC (.pv (.loc l)) c' s = { s with h := s.h.set l (.cont c') } := rfl
def wrS (i : Nat) (o : Option SV) (c : Cont) (s : CSt) : CSt := match o with
  | some (.own _) => { s with sl := s.sl.set i (.own c) }
  | some (.pv (.loc l)) => { s with h := s.h.set l (.cont c) }
  | _ => s
@[simp] theorem wrC_al {i : Nat} {c' : Cont} : wrC (.als i) c' s = wrS i s.sl[i]? c' s := by
  unfold wrC wrS
  dsimp only
  all_goals cases s.sl[i]? with
  | none => rfl
  | some v => cases v with
    | pv p => cases p <;> rfl
    | _ => rfl
@[simp] theorem wrS_own {i : Nat} {c c' : Cont} : wrS i (some (.own c)) c' s = { s with sl := s.sl.set i (.own c') } := rfl
@[simp] theorem isList_eq {x : RV} : isList x s = (listC s x).isSome := rfl
def idC (o : Option Cont) : Bool := match o with
  | some (.dict _) => true
  | _ => false
@[simp] theorem isDict_eq {x : RV} : isDict x s = idC (contC s x) := by
  unfold isDict idC
  cases contC s x with
  | none => rfl
  | some c => cases c <;> rfl
@[simp] theorem idC_d {kv : List (PV × PV)} : idC (some (.dict kv)) = true := rfl
@[simp] theorem isStr_s {x : Str} : isStr (.pv (.str x)) s = true := rfl
/-! ### arithmetic -/
@[simp] theorem wp_addI {a b : Int} : wp (opAdd (.pv (.int a)) (.pv (.int b))) s Q E = Q (.pv (.int (a + b))) s := rfl
@[simp] theorem wp_addS {a b : Str} (hl : a.length + b.length ≤ 16777216) : wp (opAdd (.pv (.str a)) (.pv (.str b))) s Q E = Q (.pv (.str (a ++ b))) s := by
  show wp (fun cs => if a.length + b.length ≤ 16777216 then .ok (.pv (.str (a ++ b))) cs else .stuck) s Q E = _
  rw [wp_iteB, if_pos hl]
@[simp] theorem wp_addT {a b : List PV} (hl : a.length + b.length ≤ 16777216) : wp (opAdd (.pv (.tup a)) (.pv (.tup b))) s Q E = Q (.pv (.tup (a ++ b))) s := by
  show wp (fun cs => if a.length + b.length ≤ 16777216 then .ok (.pv (.tup (a ++ b))) cs else .stuck) s Q E = _
  rw [wp_iteB, if_pos hl]
theorem wp_addL' {x y : RV} {a b : List PV} (h1 : listC s x = some a) (h2 : listC s y = some b) (hl : a.length + b.length ≤ 16777216) : wp (opAdd x y) s Q E = Q (.own (.list (a ++ b))) s := by
  have e : opAdd x y s = opAddL x y s := by
    unfold opAdd
    split
    · simp at h1
    · simp at h1
    · simp at h1
    · rfl
  apply wp_ok
  rw [e]; unfold opAddL; simp only [h1, h2, hl, if_true]
def oL (o : Option (List PV)) : List PV := o.getD []
@[simp] theorem oL_some {xs : List PV} : oL (some xs) = xs := rfl
theorem wp_addL {x y : RV} (h1 : (listC s x).isSome = true) (h2 : (listC s y).isSome = true) (hl : (oL (listC s x)).length + (oL (listC s y)).length ≤ 16777216) : wp (opAdd x y) s Q E = Q (.own (.list (oL (listC s x) ++ oL (listC s y)))) s := by
  obtain ⟨a, ha⟩ := Option.isSome_iff_exists.mp h1
  obtain ⟨b, hb⟩ := Option.isSome_iff_exists.mp h2
  rw [ha, hb] at hl ⊢
  exact wp_addL' ha hb hl
@[simp] theorem wp_subI {a b : Int} : wp (opSub (.pv (.int a)) (.pv (.int b))) s Q E = Q (.pv (.int (a - b))) s := rfl
@[simp] theorem wp_modI {a b : Int} (hb : 0 < b) : wp (opMod (.pv (.int a)) (.pv (.int b))) s Q E = Q (.pv (.int (a % b))) s := wp_ok (by simp [opMod, opI2, hb])
@[simp] theorem wp_divI {a b : Int} (hb : 0 < b) (hb2 : b < 1073741824) : wp (opDiv (.pv (.int a)) (.pv (.int b))) s Q E = Q (.pv (.int (a / b))) s := wp_ok (by simp [opDiv, opI2, hb, hb2])
@[simp] theorem wp_powI {a b : Int} (hb : 0 ≤ b) (hb2 : b ≤ 1000000) (ha : a.natAbs < 2 ^ 64) : wp (opPow (.pv (.int a)) (.pv (.int b))) s Q E = Q (.pv (.int (a ^ b.toNat))) s := wp_ok (by simp [opPow, opI2, hb, hb2, ha])
theorem wp_mulI {a b : Int} (hb : -(2 ^ 64) < b) (hb2 : b < 2 ^ 64) : wp (opMulI (.pv (.int a)) (.pv (.int b))) s Q E = Q (.pv (.int (a * b))) s := wp_ok (by simp [opMulI, opI2]; intro _; omega)
theorem wp_mulIl {a b : Int} (hb : -(2 ^ 64) < a) (hb2 : a < 2 ^ 64) : wp (opMulI (.pv (.int a)) (.pv (.int b))) s Q E = Q (.pv (.int (a * b))) s := wp_ok (by simp [opMulI, opI2]; intro hh; exact absurd (hh (by omega)) (by omega))
@[simp] theorem wp_negI {a : Int} : wp (opNeg (.pv (.int a))) s Q E = Q (.pv (.int (-a))) s := rfl
theorem wp_mulL {x : RV} {k : Int} (h1 : (listC s x).isSome = true) (hk : -(2 ^ 63) ≤ k) (hk2 : k < 2 ^ 63) (hl : (oL (listC s x)).length * k.toNat ≤ 16777216) : wp (opMulL x (.pv (.int k))) s Q E = Q (.own (.list (List.replicate k.toNat (oL (listC s x))).flatten)) s := by
  obtain ⟨a, ha⟩ := Option.isSome_iff_exists.mp h1
  rw [ha] at hl ⊢
  apply wp_ok
  unfold opMulL
  simp only [ha, hk, hk2, decide_true, Bool.true_and, oL_some] at hl ⊢
  simp [hl]
theorem wp_mulT {xs : List PV} {k : Int} (h1 : xs.isEmpty = false) (hk : 2 ≤ k) (hk2 : k ≤ 1000) (hl : xs.length ≤ 1000) : wp (opMulT (.pv (.tup xs)) (.pv (.int k))) s Q E = Q (.pv (.tup (List.replicate k.toNat xs).flatten)) s := by
  apply wp_ok
  unfold opMulT
  simp [h1, hk, hk2, hl]
@[simp] theorem wp_ltI {i j : Int} : wp (opLt (.pv (.int i)) (.pv (.int j))) s Q E = Q (.pv (.bl (decide (i < j)))) s := rfl
@[simp] theorem wp_leI {i j : Int} : wp (opLe (.pv (.int i)) (.pv (.int j))) s Q E = Q (.pv (.bl (decide (i ≤ j)))) s := rfl
@[simp] theorem wp_gtI {i j : Int} : wp (opGt (.pv (.int i)) (.pv (.int j))) s Q E = Q (.pv (.bl (decide (j < i)))) s := rfl
@[simp] theorem wp_geI {i j : Int} : wp (opGe (.pv (.int i)) (.pv (.int j))) s Q E = Q (.pv (.bl (decide (j ≤ i)))) s := rfl
@[simp] theorem wp_ltS {i j : Str} : wp (opLt (.pv (.str i)) (.pv (.str j))) s Q E = Q (.pv (.bl (strLt i j))) s := rfl
@[simp] theorem wp_leS {i j : Str} : wp (opLe (.pv (.str i)) (.pv (.str j))) s Q E = Q (.pv (.bl (!strLt j i))) s := rfl
/-! ### len, int, str, isinstance, None -/
@[simp] theorem wp_len_lst {xs : List PV} : wp (opLen (.pv (.lst xs))) s Q E = Q (.pv (.int xs.length)) s := rfl
@[simp] theorem wp_len_tup {xs : List PV} : wp (opLen (.pv (.tup xs))) s Q E = Q (.pv (.int xs.length)) s := rfl
@[simp] theorem wp_len_own {xs : List PV} : wp (opLen (.own (.list xs))) s Q E = Q (.pv (.int xs.length)) s := rfl
@[simp] theorem wp_len_str {x : Str} (hx : x.length ≤ 16777216) : wp (opLen (.pv (.str x))) s Q E = Q (.pv (.int x.length)) s := by
  show wp (fun cs => if x.length ≤ 16777216 then .ok (.pv (.int x.length)) cs else .stuck) s Q E = _
  rw [wp_iteB, if_pos hx]
theorem wp_len {x : RV} (hx : (listC s x).isSome = true) : wp (opLen x) s Q E = Q (.pv (.int (oL (listC s x)).length)) s := by
  obtain ⟨a, ha⟩ := Option.isSome_iff_exists.mp hx
  apply wp_ok
  unfold opLen; rw [ha]; rfl
@[simp] theorem wp_intI {i : Int} : wp (opInt (.pv (.int i))) s Q E = Q (.pv (.int i)) s := rfl
@[simp] theorem wp_intB {b : Bool} : wp (opInt (.pv (.bl b))) s Q E = Q (.pv (.int (if b then 1 else 0))) s := rfl
@[simp] theorem wp_strI {i : Int} (hi : i.natAbs.log2 < 1920) : wp (opStr (.pv (.int i))) s Q E = Q (.pv (.str (toString i))) s := by
  show wp (fun cs => if i.natAbs.log2 < 1920 then .ok (.pv (.str (toString i))) cs else .stuck) s Q E = _
  rw [wp_iteB, if_pos hi]
@[simp] theorem wp_isN_pv {neg : Bool} {p : PV} : wp (opIsN neg (.pv p)) s Q E = Q (.pv (.bl (if neg then !decide (p = .non) else decide (p = .non)))) s := rfl
@[simp] theorem wp_isN_own {neg : Bool} {c : Cont} : wp (opIsN neg (.own c)) s Q E = Q (.pv (.bl neg)) s := rfl
theorem kitB_int_int : kitB "int" "int" = some true := by decide +kernel
def isiT (T : String) (t : Option String) : Option Bool := match t with
  | some t => kitB t T
  | none => none
def rvT (s : CSt) (x : RV) : Option String := match listC s x with
    | some _ => some "list"
    | none => match valC s x with
      | some p => tyP p
      | none => none
theorem wp_isi {T : String} {x : RV} {b : Bool} (h : isiT T (rvT s x) = some b) : wp (opIsi T x) s Q E = Q (.pv (.bl b)) s := by
  apply wp_ok
  unfold isiT rvT at h
  unfold opIsi
  cases e1 : listC s x with
  | some z => rw [e1] at h; simp only at h ⊢; rw [h]
  | none =>
    rw [e1] at h; simp only at h ⊢
    cases e2 : valC s x with
    | none => rw [e2] at h; simp at h
    | some p =>
      rw [e2] at h; simp only at h ⊢
      cases e3 : tyP p with
      | none => rw [e3] at h; simp at h
      | some t => rw [e3] at h; simp only at h ⊢; rw [h]
/-- a value's type, of the five that are asked -/
def isI : PV → Bool
  | .int _ => true
  | .bl _ => true
  | _ => false
def isB : PV → Bool
  | .bl _ => true
  | _ => false
def isS : PV → Bool
  | .str _ => true
  | _ => false
def isT : PV → Bool
  | .tup _ => true
  | _ => false
def isL : PV → Bool
  | .lst _ => true
  | _ => false
def isDat : PV → Bool
  | .loc _ => false
  | .clo _ _ => false
  | _ => true
@[simp] theorem isI_non : isI .non = false := rfl
@[simp] theorem isI_bl {b : Bool} : isI (.bl b) = true := rfl
@[simp] theorem isI_int {i : Int} : isI (.int i) = true := rfl
@[simp] theorem isI_str {x : Str} : isI (.str x) = false := rfl
@[simp] theorem isI_tup {xs : List PV} : isI (.tup xs) = false := rfl
@[simp] theorem isI_lst {xs : List PV} : isI (.lst xs) = false := rfl
@[simp] theorem isI_loc {l : Nat} : isI (.loc l) = false := rfl
@[simp] theorem isB_non : isB .non = false := rfl
@[simp] theorem isB_bl {b : Bool} : isB (.bl b) = true := rfl
@[simp] theorem isB_int {i : Int} : isB (.int i) = false := rfl
@[simp] theorem isB_str {x : Str} : isB (.str x) = false := rfl
@[simp] theorem isB_tup {xs : List PV} : isB (.tup xs) = false := rfl
@[simp] theorem isB_lst {xs : List PV} : isB (.lst xs) = false := rfl
@[simp] theorem isB_loc {l : Nat} : isB (.loc l) = false := rfl
@[simp] theorem isS_non : isS .non = false := rfl
@[simp] theorem isS_bl {b : Bool} : isS (.bl b) = false := rfl
@[simp] theorem isS_int {i : Int} : isS (.int i) = false := rfl
@[simp] theorem isS_str {x : Str} : isS (.str x) = true := rfl
@[simp] theorem isS_tup {xs : List PV} : isS (.tup xs) = false := rfl
@[simp] theorem isS_lst {xs : List PV} : isS (.lst xs) = false := rfl
@[simp] theorem isS_loc {l : Nat} : isS (.loc l) = false := rfl
@[simp] theorem isT_non : isT .non = false := rfl
@[simp] theorem isT_bl {b : Bool} : isT (.bl b) = false := rfl
@[simp] theorem isT_int {i : Int} : isT (.int i) = false := rfl
@[simp] theorem isT_str {x : Str} : isT (.str x) = false := rfl
@[simp] theorem isT_tup {xs : List PV} : isT (.tup xs) = true := rfl
@[simp] theorem isT_lst {xs : List PV} : isT (.lst xs) = false := rfl
@[simp] theorem isT_loc {l : Nat} : isT (.loc l) = false := rfl
@[simp] theorem isL_non : isL .non = false := rfl
@[simp] theorem isL_bl {b : Bool} : isL (.bl b) = false := rfl
@[simp] theorem isL_int {i : Int} : isL (.int i) = false := rfl
@[simp] theorem isL_str {x : Str} : isL (.str x) = false := rfl
@[simp] theorem isL_tup {xs : List PV} : isL (.tup xs) = false := rfl
@[simp] theorem isL_lst {xs : List PV} : isL (.lst xs) = true := rfl
@[simp] theorem isL_loc {l : Nat} : isL (.loc l) = false := rfl
@[simp] theorem isDat_non : isDat .non = true := rfl
@[simp] theorem isDat_bl {b : Bool} : isDat (.bl b) = true := rfl
@[simp] theorem isDat_int {i : Int} : isDat (.int i) = true := rfl
@[simp] theorem isDat_str {x : Str} : isDat (.str x) = true := rfl
@[simp] theorem isDat_tup {xs : List PV} : isDat (.tup xs) = true := rfl
@[simp] theorem isDat_lst {xs : List PV} : isDat (.lst xs) = true := rfl
@[simp] theorem isDat_loc {l : Nat} : isDat (.loc l) = false := rfl
theorem kits : kitB "NoneType" "int" = some false ∧ kitB "bool" "int" = some true ∧ kitB "int" "int" = some true ∧ kitB "str" "int" = some false ∧ kitB "tuple" "int" = some false ∧ kitB "list" "int" = some false := by decide +kernel
theorem kits2 : kitB "NoneType" "bool" = some false ∧ kitB "bool" "bool" = some true ∧ kitB "int" "bool" = some false ∧ kitB "str" "bool" = some false ∧ kitB "tuple" "bool" = some false ∧ kitB "list" "bool" = some false := by decide +kernel
theorem kits3 : kitB "NoneType" "str" = some false ∧ kitB "bool" "str" = some false ∧ kitB "int" "str" = some false ∧ kitB "str" "str" = some true ∧ kitB "tuple" "str" = some false ∧ kitB "list" "str" = some false := by decide +kernel
theorem kits4 : kitB "NoneType" "tuple" = some false ∧ kitB "bool" "tuple" = some false ∧ kitB "int" "tuple" = some false ∧ kitB "str" "tuple" = some false ∧ kitB "tuple" "tuple" = some true ∧ kitB "list" "tuple" = some false := by decide +kernel
theorem kits5 : kitB "NoneType" "list" = some false ∧ kitB "bool" "list" = some false ∧ kitB "int" "list" = some false ∧ kitB "str" "list" = some false ∧ kitB "tuple" "list" = some false ∧ kitB "list" "list" = some true := by decide +kernel
@[simp] theorem wp_isi_int {p : PV} (h : isDat p = true) : wp (opIsi "int" (.pv p)) s Q E = Q (.pv (.bl (isI p))) s := by
  obtain ⟨h1, h2, h3, h4, h5, h6⟩ := kits
  apply wp_isi; cases p <;> first | assumption | cases h
@[simp] theorem wp_isi_bool {p : PV} (h : isDat p = true) : wp (opIsi "bool" (.pv p)) s Q E = Q (.pv (.bl (isB p))) s := by
  obtain ⟨h1, h2, h3, h4, h5, h6⟩ := kits2
  apply wp_isi; cases p <;> first | assumption | cases h
@[simp] theorem wp_isi_str {p : PV} (h : isDat p = true) : wp (opIsi "str" (.pv p)) s Q E = Q (.pv (.bl (isS p))) s := by
  obtain ⟨h1, h2, h3, h4, h5, h6⟩ := kits3
  apply wp_isi; cases p <;> first | assumption | cases h
@[simp] theorem wp_isi_tup {p : PV} (h : isDat p = true) : wp (opIsi "tuple" (.pv p)) s Q E = Q (.pv (.bl (isT p))) s := by
  obtain ⟨h1, h2, h3, h4, h5, h6⟩ := kits4
  apply wp_isi; cases p <;> first | assumption | cases h
@[simp] theorem wp_isi_lst {p : PV} (h : isDat p = true) : wp (opIsi "list" (.pv p)) s Q E = Q (.pv (.bl (isL p))) s := by
  obtain ⟨h1, h2, h3, h4, h5, h6⟩ := kits5
  apply wp_isi; cases p <;> first | assumption | cases h

end CL

/-! WP3: running the clean layer's texts: equality, places, cuts, tables. -/
namespace CL
open PySem L2
open PySem.PyData (strOk)
variable {Q : RV → CSt → Prop} {E : EQ} {s : CSt} {sl : List SV} {h : List CO} {QU : Unit → CSt → Prop} {QF : Fl → CSt → Prop}
@[simp] theorem strOk_lit (x : String) : strOk (Str.ofString x) = true := by
  rw [Str.ofString_eq_toList]
  unfold strOk
  rw [Array.all_eq_true]
  intro i hi
  simp only [List.getElem_toArray, List.getElem_map, decide_eq_true_eq]
  have := (x.toList[i]'(by simpa using hi)).valid
  have h2 : (x.toList[i]'(by simpa using hi)).toNat = (x.toList[i]'(by simpa using hi)).val.toNat := rfl
  rw [h2]
  rcases this with h | h <;> simp at h ⊢ <;> omega
theorem ofString_inj {a b : String} (h : Str.ofString a = Str.ofString b) : a = b := by
  rw [Str.ofString_eq_toList, Str.ofString_eq_toList] at h
  simp only [Str.mk.injEq] at h
  have h2 : a.toList.map Char.toNat = b.toList.map Char.toNat := by simpa using h
  have key : ∀ (l m : List Char), l.map Char.toNat = m.map Char.toNat → l = m := by
    intro l
    induction l with
    | nil => intro m e; cases m with
      | nil => rfl
      | cons _ _ => simp at e
    | cons x l ih => intro m e; cases m with
      | nil => simp at e
      | cons y m =>
        simp only [List.map_cons, List.cons.injEq] at e
        rw [ih m e.2, Char.toNat_inj.mp e.1]
  have h3 : a.toList = b.toList := key _ _ h2
  exact String.toList_inj.mp h3
@[simp] theorem ofString_eq {a b : String} : (Str.ofString a = Str.ofString b) ↔ a = b := ⟨ofString_inj, fun h => h ▸ rfl⟩
/-! ### plain values -/
/-- plain, of that depth at the most -/
def pl : Nat → PV → Bool
  | _, .non => true
  | _, .bl _ => true
  | _, .int _ => true
  | _, .str x => strOk x
  | n + 1, .tup xs => xs.all (pl n)
  | n + 1, .lst xs => xs.all (pl n)
  | _, _ => false
/-- .. without True and False -/
def cl : Nat → PV → Bool
  | _, .non => true
  | _, .int _ => true
  | _, .str x => strOk x
  | n + 1, .tup xs => xs.all (cl n)
  | n + 1, .lst xs => xs.all (cl n)
  | _, _ => false
@[simp] theorem pl_non {n : Nat} : pl n .non = true := by cases n <;> rfl
@[simp] theorem pl_bl {n : Nat} {b : Bool} : pl n (.bl b) = true := by cases n <;> rfl
@[simp] theorem pl_int {n : Nat} {i : Int} : pl n (.int i) = true := by cases n <;> rfl
@[simp] theorem pl_str {n : Nat} {x : Str} : pl n (.str x) = strOk x := by cases n <;> rfl
@[simp] theorem pl_tup {n : Nat} {xs : List PV} : pl (n + 1) (.tup xs) = xs.all (pl n) := rfl
@[simp] theorem pl_lst {n : Nat} {xs : List PV} : pl (n + 1) (.lst xs) = xs.all (pl n) := rfl
@[simp] theorem cl_non {n : Nat} : cl n .non = true := by cases n <;> rfl
@[simp] theorem cl_bl {n : Nat} {b : Bool} : cl n (.bl b) = false := by cases n <;> rfl
@[simp] theorem cl_int {n : Nat} {i : Int} : cl n (.int i) = true := by cases n <;> rfl
@[simp] theorem cl_str {n : Nat} {x : Str} : cl n (.str x) = strOk x := by cases n <;> rfl
@[simp] theorem cl_tup {n : Nat} {xs : List PV} : cl (n + 1) (.tup xs) = xs.all (cl n) := rfl
@[simp] theorem cl_lst {n : Nat} {xs : List PV} : cl (n + 1) (.lst xs) = xs.all (cl n) := rfl
theorem pl_of_cl : ∀ {n : Nat} {p : PV}, cl n p = true → pl n p = true
  | n, .non, _ => by simp
  | n, .bl _, h => by simp at h
  | n, .int _, _ => by simp
  | n, .str _, h => by simpa using h
  | 0, .tup _, h => by simp [cl] at h
  | 0, .lst _, h => by simp [cl] at h
  | n + 1, .tup xs, h => by
    simp only [cl_tup, pl_tup, List.all_eq_true] at h ⊢
    exact fun x hx => pl_of_cl (h x hx)
  | n + 1, .lst xs, h => by
    simp only [cl_lst, pl_lst, List.all_eq_true] at h ⊢
    exact fun x hx => pl_of_cl (h x hx)
  | n, .loc _, h => by cases n <;> simp [cl] at h
  | n, .clo _ _, h => by cases n <;> simp [cl] at h
theorem pl_dat {n : Nat} {p : PV} (h : pl n p = true) : isDat p = true := by
  cases p <;> first | rfl | (cases n <;> simp [pl] at h)
theorem toDs_of {F : PV → Option PyData} : ∀ {xs : List PV}, (∀ x ∈ xs, ∃ d, toD x = some d) → ∃ ds, toDs xs = some ds ∧ ds = xs.map dOf
  | [], _ => ⟨[], rfl, rfl⟩
  | x :: xs, h => by
    obtain ⟨d, hd⟩ := h x (List.mem_cons_self ..)
    obtain ⟨ds, h1, h2⟩ := toDs_of (F := F) (xs := xs) fun y hy => h y (List.mem_cons_of_mem _ hy)
    refine ⟨d :: ds, by rw [toDs, hd, h1], ?_⟩
    rw [h2, List.map_cons]
    unfold dOf; rw [hd]; rfl
theorem canLayAll0_iff : ∀ {ds : List PyData}, PyData.canLayAll0 ds = true ↔ ∀ d ∈ ds, d.canLay0 = true
  | [] => by simp [PyData.canLayAll0]
  | d :: ds => by simp [PyData.canLayAll0, canLayAll0_iff (ds := ds)]
theorem depthAll_le : ∀ {ds : List PyData} {n : Nat}, (∀ d ∈ ds, d.depth ≤ n) → PyData.depthAll ds ≤ n
  | [], n, _ => by simp [PyData.depthAll]
  | d :: ds, n, h => by
    rw [PyData.depthAll]
    exact Nat.max_le.mpr ⟨h d (List.mem_cons_self ..), depthAll_le fun e he => h e (List.mem_cons_of_mem _ he)⟩
theorem pl_toD : ∀ {n : Nat} {p : PV}, pl n p = true → ∃ d, toD p = some d ∧ d.canLay0 = true ∧ d.depth ≤ n
  | n, .non, _ => ⟨_, rfl, rfl, Nat.zero_le _⟩
  | n, .bl _, h => ⟨_, rfl, rfl, Nat.zero_le _⟩
  | n, .int _, _ => ⟨_, rfl, rfl, Nat.zero_le _⟩
  | n, .str x, h => ⟨_, rfl, by simpa [PyData.canLay0] using h, Nat.zero_le _⟩
  | 0, .tup _, h => by simp [pl] at h
  | 0, .lst _, h => by simp [pl] at h
  | n + 1, .tup xs, h => by
    simp only [pl_tup, List.all_eq_true] at h
    obtain ⟨ds, h1, h2⟩ := toDs_of (F := toD) (xs := xs) fun x hx => let ⟨d, hd, _⟩ := pl_toD (h x hx); ⟨d, hd⟩
    have hm : ∀ d ∈ ds, d.canLay0 = true ∧ d.depth ≤ n := fun d hd => by
      rw [h2, List.mem_map] at hd
      obtain ⟨x, hx, rfl⟩ := hd
      obtain ⟨d, e, k⟩ := pl_toD (h x hx)
      unfold dOf; rw [e]; exact k
    refine ⟨.tuple ds, by rw [toD, h1]; rfl, ?_, ?_⟩
    · rw [PyData.canLay0]; exact canLayAll0_iff.mpr fun d hd => (hm d hd).1
    · rw [PyData.depth]; exact Nat.succ_le_succ (depthAll_le fun d hd => (hm d hd).2)
  | n + 1, .lst xs, h => by
    simp only [pl_lst, List.all_eq_true] at h
    obtain ⟨ds, h1, h2⟩ := toDs_of (F := toD) (xs := xs) fun x hx => let ⟨d, hd, _⟩ := pl_toD (h x hx); ⟨d, hd⟩
    have hm : ∀ d ∈ ds, d.canLay0 = true ∧ d.depth ≤ n := fun d hd => by
      rw [h2, List.mem_map] at hd
      obtain ⟨x, hx, rfl⟩ := hd
      obtain ⟨d, e, k⟩ := pl_toD (h x hx)
      unfold dOf; rw [e]; exact k
    refine ⟨.list ds, by rw [toD, h1]; rfl, ?_, ?_⟩
    · rw [PyData.canLay0]; exact canLayAll0_iff.mpr fun d hd => (hm d hd).1
    · rw [PyData.depth]; exact Nat.succ_le_succ (depthAll_le fun d hd => (hm d hd).2)
  | n, .loc _, h => by cases n <;> simp [pl] at h
  | n, .clo _ _, h => by cases n <;> simp [pl] at h
theorem pl_shaped {n : Nat} {p : PV} (h : pl n p = true) (hn : n ≤ 64) : toD p = some (dOf p) ∧ SeqAt.shaped (dOf p) = true := by
  obtain ⟨d, e, h1, h2⟩ := pl_toD h
  have e2 : dOf p = d := by unfold dOf; rw [e]; rfl
  rw [e2]
  exact ⟨e, by unfold SeqAt.shaped; simp [h1, Nat.le_trans h2 hn]⟩
/-! ### equality -/
def eqP (p q : PV) : Bool := PyData.eqv (dOf p) (dOf q)
theorem dOf_tup {n : Nat} {xs : List PV} (h : xs.all (pl n) = true) : dOf (.tup xs) = .tuple (xs.map dOf) := by
  obtain ⟨ds, h1, h2⟩ := toDs_of (F := toD) (xs := xs) fun x hx => let ⟨d, hd, _⟩ := pl_toD (List.all_eq_true.mp h x hx); ⟨d, hd⟩
  show (toD (.tup xs)).getD .none = _
  rw [toD, h1, h2]; rfl
theorem dOf_lst {n : Nat} {xs : List PV} (h : xs.all (pl n) = true) : dOf (.lst xs) = .list (xs.map dOf) := by
  obtain ⟨ds, h1, h2⟩ := toDs_of (F := toD) (xs := xs) fun x hx => let ⟨d, hd, _⟩ := pl_toD (List.all_eq_true.mp h x hx); ⟨d, hd⟩
  show (toD (.lst xs)).getD .none = _
  rw [toD, h1, h2]; rfl
@[simp] theorem dOf_non : dOf .non = .none := rfl
@[simp] theorem dOf_bl {b : Bool} : dOf (.bl b) = .bool b := rfl
@[simp] theorem dOf_int {i : Int} : dOf (.int i) = .int i := rfl
@[simp] theorem dOf_str {x : Str} : dOf (.str x) = .str x := rfl
theorem eqvAll_refl_of : ∀ {ds : List PyData}, (∀ d ∈ ds, PyData.eqv d d = true) → PyData.eqvAll ds ds = true
  | [], _ => rfl
  | d :: ds, h => by rw [PyData.eqvAll, h d (List.mem_cons_self ..), eqvAll_refl_of fun e he => h e (List.mem_cons_of_mem _ he)]; rfl
theorem eqP_refl : ∀ {n : Nat} {p : PV}, pl n p = true → eqP p p = true
  | n, .non, _ => rfl
  | n, .bl b, _ => by simp [eqP, PyData.eqv]
  | n, .int _, _ => by simp [eqP, PyData.eqv]
  | n, .str _, _ => by simp [eqP, PyData.eqv]
  | 0, .tup _, h => by simp [pl] at h
  | 0, .lst _, h => by simp [pl] at h
  | n + 1, .tup xs, h => by
    simp only [pl_tup] at h
    unfold eqP; rw [dOf_tup h, PyData.eqv]
    refine eqvAll_refl_of fun d hd => ?_
    obtain ⟨x, hx, rfl⟩ := List.mem_map.mp hd
    exact eqP_refl (List.all_eq_true.mp h x hx)
  | n + 1, .lst xs, h => by
    simp only [pl_lst] at h
    unfold eqP; rw [dOf_lst h, PyData.eqv]
    refine eqvAll_refl_of fun d hd => ?_
    obtain ⟨x, hx, rfl⟩ := List.mem_map.mp hd
    exact eqP_refl (List.all_eq_true.mp h x hx)
  | n, .loc _, h => by cases n <;> simp [pl] at h
  | n, .clo _ _, h => by cases n <;> simp [pl] at h
theorem all_pl_of_cl {n : Nat} {xs : List PV} (h : xs.all (cl n) = true) : xs.all (pl n) = true :=
  List.all_eq_true.mpr fun x hx => pl_of_cl (List.all_eq_true.mp h x hx)
theorem eqvAll_eq {n m : Nat} (ih : ∀ p q : PV, cl n p = true → cl m q = true → eqP p q = true → p = q) : ∀ {xs ys : List PV}, xs.all (cl n) = true → ys.all (cl m) = true → PyData.eqvAll (xs.map dOf) (ys.map dOf) = true → xs = ys
  | [], [], _, _, _ => rfl
  | [], y :: ys, _, _, h => by simp [PyData.eqvAll] at h
  | x :: xs, [], _, _, h => by simp [PyData.eqvAll] at h
  | x :: xs, y :: ys, h1, h2, h => by
    simp only [List.map_cons, PyData.eqvAll, Bool.and_eq_true] at h
    simp only [List.all_cons, Bool.and_eq_true] at h1 h2
    rw [ih x y h1.1 h2.1 h.1, eqvAll_eq ih h1.2 h2.2 h.2]
theorem tupF {m : Nat} {ys : List PV} (h : cl m (.tup ys) = true) : ∃ k, m = k + 1 ∧ ys.all (cl k) = true ∧ dOf (.tup ys) = .tuple (ys.map dOf) := by
  cases m with
  | zero => simp [cl] at h
  | succ m => exact ⟨m, rfl, h, dOf_tup (all_pl_of_cl h)⟩
theorem lstF {m : Nat} {ys : List PV} (h : cl m (.lst ys) = true) : ∃ k, m = k + 1 ∧ ys.all (cl k) = true ∧ dOf (.lst ys) = .list (ys.map dOf) := by
  cases m with
  | zero => simp [cl] at h
  | succ m => exact ⟨m, rfl, h, dOf_lst (all_pl_of_cl h)⟩
theorem locF {m l : Nat} (h : cl m (.loc l) = true) : False := by cases m <;> simp [cl] at h
theorem cloF {m l : Nat} {xs : List PV} (h : cl m (.clo l xs) = true) : False := by cases m <;> simp [cl] at h
theorem eq_of_eqP : ∀ (n m : Nat) (p q : PV), cl n p = true → cl m q = true → eqP p q = true → p = q := by
  intro n
  induction n with
  | zero =>
    intro m p q h1 h2 h
    cases p with
    | tup xs => obtain ⟨_, e, _⟩ := tupF h1; cases e
    | lst xs => obtain ⟨_, e, _⟩ := lstF h1; cases e
    | bl b => simp at h1
    | loc _ => exact (locF h1).elim
    | clo _ _ => exact (cloF h1).elim
    | non =>
      cases q with
      | tup ys => obtain ⟨k, _, _, e⟩ := tupF h2; rw [eqP, e] at h; simp [PyData.eqv] at h
      | lst ys => obtain ⟨k, _, _, e⟩ := lstF h2; rw [eqP, e] at h; simp [PyData.eqv] at h
      | loc _ => exact (locF h2).elim
      | clo _ _ => exact (cloF h2).elim
      | bl _ => simp at h2
      | _ => simp [eqP, PyData.eqv] at h ⊢
    | int i =>
      cases q with
      | tup ys => obtain ⟨k, _, _, e⟩ := tupF h2; rw [eqP, e] at h; simp [PyData.eqv] at h
      | lst ys => obtain ⟨k, _, _, e⟩ := lstF h2; rw [eqP, e] at h; simp [PyData.eqv] at h
      | loc _ => exact (locF h2).elim
      | clo _ _ => exact (cloF h2).elim
      | bl _ => simp at h2
      | int j => simp [eqP, PyData.eqv] at h ⊢; exact h
      | _ => simp [eqP, PyData.eqv] at h
    | str x =>
      cases q with
      | tup ys => obtain ⟨k, _, _, e⟩ := tupF h2; rw [eqP, e] at h; simp [PyData.eqv] at h
      | lst ys => obtain ⟨k, _, _, e⟩ := lstF h2; rw [eqP, e] at h; simp [PyData.eqv] at h
      | loc _ => exact (locF h2).elim
      | clo _ _ => exact (cloF h2).elim
      | bl _ => simp at h2
      | str j => simp [eqP, PyData.eqv] at h ⊢; exact h
      | _ => simp [eqP, PyData.eqv] at h
  | succ n ih =>
    intro m p q h1 h2 h
    cases p with
    | tup xs =>
      obtain ⟨n', en, h1', e1⟩ := tupF h1
      cases en
      cases q with
      | tup ys =>
        obtain ⟨k, rfl, h2', e⟩ := tupF h2
        rw [eqP, e1, e, PyData.eqv] at h
        rw [eqvAll_eq (fun p q => ih k p q) h1' h2' h]
      | lst ys => obtain ⟨k, _, _, e⟩ := lstF h2; rw [eqP, e1, e] at h; simp [PyData.eqv] at h
      | loc _ => exact (locF h2).elim
      | clo _ _ => exact (cloF h2).elim
      | _ => rw [eqP, e1] at h; simp [PyData.eqv] at h
    | lst xs =>
      obtain ⟨n', en, h1', e1⟩ := lstF h1
      cases en
      cases q with
      | lst ys =>
        obtain ⟨k, rfl, h2', e⟩ := lstF h2
        rw [eqP, e1, e, PyData.eqv] at h
        rw [eqvAll_eq (fun p q => ih k p q) h1' h2' h]
      | tup ys => obtain ⟨k, _, _, e⟩ := tupF h2; rw [eqP, e1, e] at h; simp [PyData.eqv] at h
      | loc _ => exact (locF h2).elim
      | clo _ _ => exact (cloF h2).elim
      | _ => rw [eqP, e1] at h; simp [PyData.eqv] at h
    | bl b => simp at h1
    | loc _ => exact (locF h1).elim
    | clo _ _ => exact (cloF h1).elim
    | non => exact ih m _ q (by simp) h2 h
    | int i => exact ih m _ q (by simp) h2 h
    | str x => exact ih m _ q (by simpa using h1) h2 h
theorem eqP_cl {n m : Nat} {p q : PV} (h1 : cl n p = true) (h2 : cl m q = true) : eqP p q = decide (p = q) := by
  by_cases e : p = q
  · subst e; rw [eqP_refl (pl_of_cl h1)]; simp
  · have : eqP p q = false := by
      cases z : eqP p q with
      | false => rfl
      | true => exact absurd (eq_of_eqP n m p q h1 h2 z) e
    rw [this]; simp [e]
end CL

/-! WP4: running the clean layer's texts: equality, places, cuts, tables: the rules. -/
namespace CL
open PySem L2
open PySem.PyData (strOk)
variable {Q : RV → CSt → Prop} {E : EQ} {s : CSt} {sl : List SV} {h : List CO} {QU : Unit → CSt → Prop} {QF : Fl → CSt → Prop} {QP : PV → CSt → Prop}
theorem pl_mono : ∀ {n m : Nat} {p : PV}, pl n p = true → n ≤ m → pl m p = true
  | n, m, .non, _, _ => by simp
  | n, m, .bl _, h, _ => by simp
  | n, m, .int _, _, _ => by simp
  | n, m, .str x, h, _ => by simpa using h
  | 0, _, .tup _, h, _ => by simp [pl] at h
  | 0, _, .lst _, h, _ => by simp [pl] at h
  | n + 1, m + 1, .tup xs, h, hm => by
    simp only [pl_tup, List.all_eq_true] at h ⊢
    exact fun x hx => pl_mono (h x hx) (by omega)
  | n + 1, m + 1, .lst xs, h, hm => by
    simp only [pl_lst, List.all_eq_true] at h ⊢
    exact fun x hx => pl_mono (h x hx) (by omega)
  | n + 1, 0, .tup xs, h, hm => by omega
  | n + 1, 0, .lst xs, h, hm => by omega
  | n, m, .loc _, h, _ => by cases n <;> simp [pl] at h
  | n, m, .clo _ _, h, _ => by cases n <;> simp [pl] at h
theorem cl_mono : ∀ {n m : Nat} {p : PV}, cl n p = true → n ≤ m → cl m p = true
  | n, m, .non, _, _ => by simp
  | n, m, .bl _, h, _ => by simp at h
  | n, m, .int _, _, _ => by simp
  | n, m, .str x, h, _ => by simpa using h
  | 0, _, .tup _, h, _ => by simp [cl] at h
  | 0, _, .lst _, h, _ => by simp [cl] at h
  | n + 1, m + 1, .tup xs, h, hm => by
    simp only [cl_tup, List.all_eq_true] at h ⊢
    exact fun x hx => cl_mono (h x hx) (by omega)
  | n + 1, m + 1, .lst xs, h, hm => by
    simp only [cl_lst, List.all_eq_true] at h ⊢
    exact fun x hx => cl_mono (h x hx) (by omega)
  | n + 1, 0, .tup xs, h, hm => by omega
  | n + 1, 0, .lst xs, h, hm => by omega
  | n, m, .loc _, h, _ => (locF h).elim
  | n, m, .clo _ _, h, _ => (cloF h).elim
theorem dataC_pl {p : PV} (h : pl 20 p = true) : dataC s (.pv p) = some (dOf p) ∧ SeqAt.shaped (dOf p) = true := by
  obtain ⟨h1, h2⟩ := pl_shaped h (by decide)
  refine ⟨?_, h2⟩
  rw [← h1]
  unfold dataC
  cases p with
  | lst xs => simp only [listC_lst]; rfl
  | loc l => simp [pl] at h
  | _ => rfl
theorem dataC_own {xs : List PV} (h : pl 20 (.lst xs) = true) : dataC s (.own (.list xs)) = some (dOf (.lst xs)) ∧ SeqAt.shaped (dOf (.lst xs)) = true := by
  obtain ⟨h1, h2⟩ := pl_shaped h (by decide)
  refine ⟨?_, h2⟩
  rw [← h1]; rfl
theorem wp_eqB {neg : Bool} {x y : RV} {d e : PyData} (h1 : dataC s x = some d) (h2 : dataC s y = some e) (h3 : SeqAt.shaped d = true) (h4 : SeqAt.shaped e = true) : wp (opEqB neg x y) s Q E = Q (.pv (.bl (if neg then !PyData.eqv d e else PyData.eqv d e))) s := by
  apply wp_ok; unfold opEqB; simp only [h1, h2, h3, h4, Bool.and_self, if_true]
theorem wp_eqP {neg : Bool} {p q : PV} (h1 : pl 20 p = true) (h2 : pl 20 q = true) : wp (opEqB neg (.pv p) (.pv q)) s Q E = Q (.pv (.bl (if neg then !eqP p q else eqP p q))) s :=
  wp_eqB (dataC_pl h1).1 (dataC_pl h2).1 (dataC_pl (s := s) h1).2 (dataC_pl (s := s) h2).2
@[simp] theorem wp_eq {p q : PV} (h1 : cl 20 p = true) (h2 : cl 20 q = true) : wp (opEq (.pv p) (.pv q)) s Q E = Q (.pv (.bl (decide (p = q)))) s := by
  rw [← eqP_cl h1 h2]; exact wp_eqP (pl_of_cl h1) (pl_of_cl h2)
@[simp] theorem wp_ne {p q : PV} (h1 : cl 20 p = true) (h2 : cl 20 q = true) : wp (opNe (.pv p) (.pv q)) s Q E = Q (.pv (.bl (!decide (p = q)))) s := by
  rw [← eqP_cl h1 h2]; exact wp_eqP (pl_of_cl h1) (pl_of_cl h2)
@[simp] theorem wp_eq_bl {a b : Bool} : wp (opEq (.pv (.bl a)) (.pv (.bl b))) s Q E = Q (.pv (.bl (a == b))) s := wp_eqP (p := .bl a) (q := .bl b) (by simp) (by simp)
@[simp] theorem wp_ne_bl {a b : Bool} : wp (opNe (.pv (.bl a)) (.pv (.bl b))) s Q E = Q (.pv (.bl (!(a == b)))) s := wp_eqP (p := .bl a) (q := .bl b) (by simp) (by simp)
@[simp] theorem wp_eq_o1 {xs : List PV} {q : PV} (h1 : cl 20 (.lst xs) = true) (h2 : cl 20 q = true) : wp (opEq (.own (.list xs)) (.pv q)) s Q E = Q (.pv (.bl (decide (PV.lst xs = q)))) s := by
  rw [← eqP_cl h1 h2]; exact wp_eqB (dataC_own (pl_of_cl h1)).1 (dataC_pl (pl_of_cl h2)).1 (dataC_own (s := s) (pl_of_cl h1)).2 (dataC_pl (s := s) (pl_of_cl h2)).2
@[simp] theorem wp_ne_o1 {xs : List PV} {q : PV} (h1 : cl 20 (.lst xs) = true) (h2 : cl 20 q = true) : wp (opNe (.own (.list xs)) (.pv q)) s Q E = Q (.pv (.bl (!decide (PV.lst xs = q)))) s := by
  rw [← eqP_cl h1 h2]; exact wp_eqB (dataC_own (pl_of_cl h1)).1 (dataC_pl (pl_of_cl h2)).1 (dataC_own (s := s) (pl_of_cl h1)).2 (dataC_pl (s := s) (pl_of_cl h2)).2
@[simp] theorem wp_eq_o2 {xs : List PV} {q : PV} (h1 : cl 20 (.lst xs) = true) (h2 : cl 20 q = true) : wp (opEq (.pv q) (.own (.list xs))) s Q E = Q (.pv (.bl (decide (q = PV.lst xs)))) s := by
  rw [← eqP_cl h2 h1]; exact wp_eqB (dataC_pl (pl_of_cl h2)).1 (dataC_own (pl_of_cl h1)).1 (dataC_pl (s := s) (pl_of_cl h2)).2 (dataC_own (s := s) (pl_of_cl h1)).2
@[simp] theorem wp_ne_o2 {xs : List PV} {q : PV} (h1 : cl 20 (.lst xs) = true) (h2 : cl 20 q = true) : wp (opNe (.pv q) (.own (.list xs))) s Q E = Q (.pv (.bl (!decide (q = PV.lst xs)))) s := by
  rw [← eqP_cl h2 h1]; exact wp_eqB (dataC_pl (pl_of_cl h2)).1 (dataC_own (pl_of_cl h1)).1 (dataC_pl (s := s) (pl_of_cl h2)).2 (dataC_own (s := s) (pl_of_cl h1)).2
@[simp] theorem wp_emp {neg : Bool} {x : RV} (hx : (listC s x).isSome = true) : wp (opEmp neg x (.own (.list []))) s Q E = Q (.pv (.bl (if neg then !(oL (listC s x)).isEmpty else (oL (listC s x)).isEmpty))) s := by
  obtain ⟨a, ha⟩ := Option.isSome_iff_exists.mp hx
  apply wp_ok
  unfold opEmp; rw [ha]; rfl
theorem any_eqv {n : Nat} {p : PV} {xs : List PV} (h1 : cl n p = true) (h2 : xs.all (cl n) = true) : ((xs.map dOf).any fun z => PyData.eqv z (dOf p)) = decide (p ∈ xs) := by
  induction xs with
  | nil => rfl
  | cons x xs ih =>
    simp only [List.all_cons, Bool.and_eq_true] at h2
    rw [List.map_cons, List.any_cons, ih h2.2]
    have e : PyData.eqv (dOf x) (dOf p) = decide (x = p) := eqP_cl h2.1 h1
    rw [e]
    by_cases z : x = p
    · simp [z]
    · have : ¬ p = x := fun y => z y.symm
      simp [z, this]
theorem wp_inB {neg : Bool} {x y : RV} {d : PyData} {ds : List PyData} (h1 : dataC s x = some d) (h2 : dataC s y = some (.list ds) ∨ dataC s y = some (.tuple ds)) (h3 : SeqAt.shaped d = true) (h4 : dataC s y = some (.list ds) → SeqAt.shaped (.list ds) = true) (h5 : dataC s y = some (.tuple ds) → SeqAt.shaped (.tuple ds) = true) :
    wp (opIn neg x y) s Q E = Q (.pv (.bl (if neg then !ds.any fun z => PyData.eqv z d else ds.any fun z => PyData.eqv z d))) s := by
  apply wp_ok; unfold opIn
  rcases h2 with h2 | h2
  · simp only [h1, h2, h3, h4 h2, Bool.and_self, if_true]
  · simp only [h1, h2, h3, h5 h2, Bool.and_self, if_true]
theorem wp_in_t0 {neg : Bool} {p : PV} {xs : List PV} (h1 : cl 20 p = true) (h2 : cl 20 (.tup xs) = true) : wp (opIn neg (.pv p) (.pv (.tup xs))) s Q E = Q (.pv (.bl (if neg then !decide (p ∈ xs) else decide (p ∈ xs)))) s := by
  have a := dataC_pl (s := s) (pl_of_cl h1)
  have b := dataC_pl (s := s) (pl_of_cl h2)
  obtain ⟨k, e, h2', e2⟩ := tupF h2
  rw [e2] at b
  rw [wp_inB (ds := xs.map dOf) a.1 (.inr b.1) a.2 (fun z => by rw [b.1] at z; cases z) (fun _ => b.2)]
  rw [any_eqv (n := 20) h1 (List.all_eq_true.mpr fun x hx => cl_mono (List.all_eq_true.mp h2' x hx) (by omega))]
theorem wp_in_l0 {neg : Bool} {p : PV} {xs : List PV} {y : RV} (hy : y = .pv (.lst xs) ∨ y = .own (.list xs)) (h1 : cl 20 p = true) (h2 : cl 20 (.lst xs) = true) : wp (opIn neg (.pv p) y) s Q E = Q (.pv (.bl (if neg then !decide (p ∈ xs) else decide (p ∈ xs)))) s := by
  have a := dataC_pl (s := s) (pl_of_cl h1)
  have b : dataC s y = some (dOf (.lst xs)) ∧ SeqAt.shaped (dOf (.lst xs)) = true := by
    rcases hy with rfl | rfl
    · exact dataC_pl (s := s) (pl_of_cl h2)
    · exact dataC_own (pl_of_cl h2)
  obtain ⟨k, e, h2', e2⟩ := lstF h2
  rw [e2] at b
  rw [wp_inB (ds := xs.map dOf) a.1 (.inl b.1) a.2 (fun _ => b.2) (fun z => by rw [b.1] at z; cases z)]
  rw [any_eqv (n := 20) h1 (List.all_eq_true.mpr fun x hx => cl_mono (List.all_eq_true.mp h2' x hx) (by omega))]
@[simp] theorem wp_in_t {p : PV} {xs : List PV} (h1 : cl 20 p = true) (h2 : cl 20 (.tup xs) = true) : wp (opIn false (.pv p) (.pv (.tup xs))) s Q E = Q (.pv (.bl (decide (p ∈ xs)))) s := wp_in_t0 h1 h2
@[simp] theorem wp_nin_t {p : PV} {xs : List PV} (h1 : cl 20 p = true) (h2 : cl 20 (.tup xs) = true) : wp (opIn true (.pv p) (.pv (.tup xs))) s Q E = Q (.pv (.bl (!decide (p ∈ xs)))) s := wp_in_t0 h1 h2
@[simp] theorem wp_in_l {p : PV} {xs : List PV} (h1 : cl 20 p = true) (h2 : cl 20 (.lst xs) = true) : wp (opIn false (.pv p) (.pv (.lst xs))) s Q E = Q (.pv (.bl (decide (p ∈ xs)))) s := wp_in_l0 (.inl rfl) h1 h2
@[simp] theorem wp_nin_l {p : PV} {xs : List PV} (h1 : cl 20 p = true) (h2 : cl 20 (.lst xs) = true) : wp (opIn true (.pv p) (.pv (.lst xs))) s Q E = Q (.pv (.bl (!decide (p ∈ xs)))) s := wp_in_l0 (.inl rfl) h1 h2
@[simp] theorem wp_in_o {p : PV} {xs : List PV} (h1 : cl 20 p = true) (h2 : cl 20 (.lst xs) = true) : wp (opIn false (.pv p) (.own (.list xs))) s Q E = Q (.pv (.bl (decide (p ∈ xs)))) s := wp_in_l0 (.inr rfl) h1 h2
@[simp] theorem wp_nin_o {p : PV} {xs : List PV} (h1 : cl 20 p = true) (h2 : cl 20 (.lst xs) = true) : wp (opIn true (.pv p) (.own (.list xs))) s Q E = Q (.pv (.bl (!decide (p ∈ xs)))) s := wp_in_l0 (.inr rfl) h1 h2
theorem wp_in_s {neg : Bool} {c : Nat} {z : Str} : wp (opIn neg (.pv (.str ⟨#[c]⟩)) (.pv (.str z))) s Q E = Q (.pv (.bl (if neg then !decide (c ∈ z.cps.toList) else decide (c ∈ z.cps.toList)))) s := rfl
/-! ### places -/
def ixK (o : Option PV) (s : CSt) (Q : RV → CSt → Prop) : Prop := match o with
  | some p => Q (.pv p) s
  | none => False
@[simp] theorem ixK_some {p : PV} : ixK (some p) s Q = Q (.pv p) s := rfl
@[simp] theorem wp_ixT {xs : List PV} {i : Int} : wp (opIx (.pv (.tup xs)) (.pv (.int i))) s Q E = ixK (atI xs i) s Q := by
  unfold wp opIx ixK
  simp only [listC_tup, valC_pv]
  cases atI xs i <;> rfl
@[simp] theorem wp_ixL {xs : List PV} {i : Int} : wp (opIx (.pv (.lst xs)) (.pv (.int i))) s Q E = ixK (atI xs i) s Q := by
  unfold wp opIx ixK
  simp only [listC_lst]
  cases atI xs i <;> rfl
@[simp] theorem wp_ixO {xs : List PV} {i : Int} : wp (opIx (.own (.list xs)) (.pv (.int i))) s Q E = ixK (atI xs i) s Q := by
  unfold wp opIx ixK
  simp only [listC_own]
  cases atI xs i <;> rfl
theorem wp_ixG {x : RV} {i : Int} (hx : (listC s x).isSome = true) : wp (opIx x (.pv (.int i))) s Q E = ixK (atI (oL (listC s x)) i) s Q := by
  obtain ⟨a, ha⟩ := Option.isSome_iff_exists.mp hx
  unfold wp opIx ixK
  simp only [ha, oL_some]
  cases atI a i <;> rfl
theorem atI_nat {α : Type} {xs : List α} {i : Int} (h : 0 ≤ i) : atI xs i = xs[i.toNat]? := by
  unfold atI ixN
  rw [if_pos h]
  by_cases h1 : i < xs.length
  · rw [if_pos h1]; rfl
  · rw [if_neg h1]
    have : xs.length ≤ i.toNat := by omega
    rw [List.getElem?_eq_none this]; rfl
theorem atI_neg {α : Type} {xs : List α} {k : Nat} (h : k + 1 ≤ xs.length) : atI xs (-((k + 1 : Nat) : Int)) = xs[xs.length - (k + 1)]? := by
  unfold atI ixN
  rw [if_neg (by omega), if_pos (by omega)]
  show xs[(-((k + 1 : Nat) : Int) + xs.length).toNat]? = _
  congr 1; omega
@[simp] theorem atI_c {α : Type} {xs : List α} {k : Nat} : atI xs (k : Int) = xs[k]? := atI_nat (by omega)
@[simp] theorem atI_0 {α : Type} {xs : List α} : atI xs 0 = xs[0]? := atI_nat (by omega)
@[simp] theorem atI_1 {α : Type} {xs : List α} : atI xs 1 = xs[1]? := atI_nat (by omega)
@[simp] theorem atI_2 {α : Type} {xs : List α} : atI xs 2 = xs[2]? := atI_nat (by omega)
@[simp] theorem atI_3 {α : Type} {xs : List α} : atI xs 3 = xs[3]? := atI_nat (by omega)
@[simp] theorem atI_4 {α : Type} {xs : List α} : atI xs 4 = xs[4]? := atI_nat (by omega)
@[simp] theorem atI_m1 {α : Type} {xs : List α} (h : 1 ≤ xs.length) : atI xs (-1) = xs[xs.length - 1]? := atI_neg (k := 0) h
@[simp] theorem atI_m2 {α : Type} {xs : List α} (h : 2 ≤ xs.length) : atI xs (-2) = xs[xs.length - 2]? := atI_neg (k := 1) h
/-! ### cuts -/
@[simp] theorem wp_slT {xs : List PV} {lo hi : Option Int} : wp (opSl (.pv (.tup xs)) lo hi) s Q E = Q (.pv (.tup (cutP xs lo hi))) s := rfl
@[simp] theorem wp_slL {xs : List PV} {lo hi : Option Int} : wp (opSl (.pv (.lst xs)) lo hi) s Q E = Q (.own (.list (cutP xs lo hi))) s := rfl
@[simp] theorem wp_slO {xs : List PV} {lo hi : Option Int} : wp (opSl (.own (.list xs)) lo hi) s Q E = Q (.own (.list (cutP xs lo hi))) s := rfl
theorem wp_slG {x : RV} {lo hi : Option Int} (hx : (listC s x).isSome = true) : wp (opSl x lo hi) s Q E = Q (.own (.list (cutP (oL (listC s x)) lo hi))) s := by
  obtain ⟨a, ha⟩ := Option.isSome_iff_exists.mp hx
  apply wp_ok; unfold opSl; rw [ha]; rfl
@[simp] theorem wp_slS {z : Str} {lo hi : Option Int} (hz : z.length ≤ 16777216) : wp (opSl (.pv (.str z)) lo hi) s Q E = Q (.pv (.str (cutS z lo hi))) s := by
  apply wp_ok
  show (if z.length ≤ 16777216 then CRes.ok (RV.pv (.str (cutS z lo hi))) s else .stuck) = _
  rw [if_pos hz]
theorem sIx_pos {n d : Nat} {i : Int} (h : 0 ≤ i) : HT.sIx n d (some i) = min i.toNat n := by
  unfold HT.sIx; simp only; rw [if_neg (by omega)]
theorem cutP_to {xs : List PV} {i : Int} (h : 0 ≤ i) : cutP xs none (some i) = xs.take i.toNat := by
  unfold cutP
  rw [sIx_pos h]
  show List.take (min i.toNat xs.length - 0) (List.drop 0 xs) = _
  simp only [List.drop_zero, Nat.sub_zero]
  by_cases z : i.toNat ≤ xs.length
  · rw [Nat.min_eq_left z]
  · rw [Nat.min_eq_right (by omega), List.take_of_length_le (Nat.le_refl _), List.take_of_length_le (by omega)]
theorem cutP_from {xs : List PV} {i : Int} (h : 0 ≤ i) : cutP xs (some i) none = xs.drop i.toNat := by
  unfold cutP
  rw [sIx_pos h]
  show List.take (xs.length - min i.toNat xs.length) (List.drop (min i.toNat xs.length) xs) = _
  by_cases z : i.toNat ≤ xs.length
  · rw [Nat.min_eq_left z, List.take_of_length_le (by simp)]
  · rw [Nat.min_eq_right (by omega), List.drop_of_length_le (Nat.le_refl _), List.drop_of_length_le (by omega)]; simp
theorem cutP_mid {xs : List PV} {i j : Int} (h : 0 ≤ i) (h2 : 0 ≤ j) : cutP xs (some i) (some j) = (xs.drop i.toNat).take (j.toNat - i.toNat) := by
  unfold cutP
  rw [sIx_pos h, sIx_pos h2]
  by_cases z : i.toNat ≤ xs.length
  · rw [Nat.min_eq_left z]
    by_cases y : j.toNat ≤ xs.length
    · rw [Nat.min_eq_left y]
    · rw [Nat.min_eq_right (by omega), List.take_of_length_le (by simp), List.take_of_length_le (by simp; omega)]
  · rw [Nat.min_eq_right (a := i.toNat) (by omega), List.drop_of_length_le (Nat.le_refl _), List.drop_of_length_le (by omega)]; simp
@[simp] theorem cutP_m1 {xs : List PV} : cutP xs none (some (-1)) = xs.dropLast := by
  unfold cutP HT.sIx
  simp only [List.drop_zero, Nat.sub_zero, List.dropLast_eq_take]
  rw [if_pos (by decide)]
  congr 1; omega
@[simp] theorem cutP_t2 {xs : List PV} : cutP xs none (some 2) = xs.take 2 := cutP_to (by decide)
@[simp] theorem cutP_t1 {xs : List PV} : cutP xs none (some 1) = xs.take 1 := cutP_to (by decide)
@[simp] theorem cutP_t5 {xs : List PV} : cutP xs none (some 5) = xs.take 5 := cutP_to (by decide)
@[simp] theorem cutP_tk {xs : List PV} {k : Nat} : cutP xs none (some (k : Int)) = xs.take k := cutP_to (by omega)
@[simp] theorem cutP_f1 {xs : List PV} : cutP xs (some 1) none = xs.drop 1 := cutP_from (by decide)
@[simp] theorem cutP_f2 {xs : List PV} : cutP xs (some 2) none = xs.drop 2 := cutP_from (by decide)
@[simp] theorem cutP_fk {xs : List PV} {k : Nat} : cutP xs (some (k : Int)) none = xs.drop k := cutP_from (by omega)
@[simp] theorem cutP_12 {xs : List PV} : cutP xs (some 1) (some 2) = (xs.drop 1).take 1 := cutP_mid (by decide) (by decide)
/-! ### tables -/
def dcO (o : Option Cont) : List (PV × PV) := match o with
  | some (.dict kv) => kv
  | _ => []
@[simp] theorem dcO_d {kv : List (PV × PV)} : dcO (some (.dict kv)) = kv := rfl
theorem idC_iff {o : Option Cont} (h : idC o = true) : o = some (.dict (dcO o)) := by
  cases o with
  | none => cases h
  | some c => cases c with
    | list _ => cases h
    | dict kv => rfl
@[simp] theorem wp_dIn {neg : Bool} {p : PV} {y : RV} (h1 : idC (contC s y) = true) (h2 : keyOk (dcO (contC s y)) p = true) : wp (opDIn neg (.pv p) y) s Q E = Q (.pv (.bl (if neg then !(dget (dcO (contC s y)) p).isSome else (dget (dcO (contC s y)) p).isSome))) s := by
  have e := idC_iff h1
  apply wp_ok; unfold opDIn; rw [e]; simp only [valC_pv, dcO_d, h2, if_true]
def dgK (o : Option PV) (s : CSt) (Q : RV → CSt → Prop) : Prop := match o with
  | some p => Q (.pv p) s
  | none => False
@[simp] theorem dgK_some {p : PV} : dgK (some p) s Q = Q (.pv p) s := rfl
@[simp] theorem wp_dGetI {p : PV} {x : RV} (h1 : idC (contC s x) = true) (h2 : keyOk (dcO (contC s x)) p = true) : wp (opDGet x (.pv p)) s Q E = dgK (dget (dcO (contC s x)) p) s Q := by
  have e := idC_iff h1
  generalize dcO (contC s x) = kv at *
  unfold wp opDGet dgK; rw [e]; simp only [valC_pv, h2, if_true]
  cases dget kv p <;> rfl
@[simp] theorem wp_dGet2 {p d : PV} {x : RV} (h1 : idC (contC s x) = true) (h2 : keyOk (dcO (contC s x)) p = true) : wp (dGet2 x [p, d]) s Q E = Q (.pv ((dget (dcO (contC s x)) p).getD d)) s := by
  have e := idC_iff h1
  apply wp_ok; unfold dGet2; rw [e]; simp only [dcO_d, h2, if_true]
def kDp3 (x : RV) (p q : PV) (Q : Unit → CSt → Prop) : CSt → Prop := fun s => if (keyOk (dcO (contC s x)) p && decide ((dcO (contC s x)).length < 16777216)) = true ∧ idC (contC s x) = true then Q () (wrC x (.dict (dput (dcO (contC s x)) p q)) s) else False
def kDp2 (x : RV) (q : PV) (Q : Unit → CSt → Prop) : RV → CSt → Prop := fun y s => match valC s y with
  | some p => kDp3 x p q Q s
  | none => False
def kDp1 (mi : CM RV) (q : PV) (Q : Unit → CSt → Prop) (E : EQ) : RV → CSt → Prop := fun x s => wp mi s (kDp2 x q Q) E
@[simp] theorem wp_gDPut {mo mi : CM RV} {q : PV} : wp (gDPut mo mi q) s QU E = wp mo s (kDp1 mi q QU E) E := by
  show wp (mo >>= fun x => mi >>= fun y => _) s QU E = _
  rw [wp_bind]; congr; funext x s; rw [wp_bind]; unfold kDp1; congr; funext y s
  unfold kDp2 kDp3 wp
  cases e1 : contC s x with
  | none => cases e2 : valC s y <;> simp [e1, e2, idC]
  | some c => cases c with
    | list _ => cases e2 : valC s y <;> simp [e1, e2, idC]
    | dict kv => cases e2 : valC s y with
      | none => simp [e1, e2]
      | some p =>
        simp only [e1, e2, dcO_d, idC_d, and_true]
        by_cases z : (keyOk kv p && decide (kv.length < 16777216)) = true
        · simp only [if_pos z]; exact (if_pos z).symm
        · simp only [if_neg z]; exact (if_neg z).symm
@[simp] theorem kDp1_ap {mi : CM RV} {q : PV} {x : RV} : kDp1 mi q QU E x s = wp mi s (kDp2 x q QU) E := rfl
@[simp] theorem kDp2_ap {x : RV} {q p : PV} : kDp2 x q QU (.pv p) s = kDp3 x p q QU s := rfl
theorem kDp3_ap {x : RV} {p q : PV} (h1 : idC (contC s x) = true) (h2 : keyOk (dcO (contC s x)) p = true) (h3 : (dcO (contC s x)).length < 16777216) : kDp3 x p q QU s = QU () (wrC x (.dict (dput (dcO (contC s x)) p q)) s) := by
  unfold kDp3; simp [h1, h2, h3]
def dpK (x : RV) (kv : List (PV × PV)) (p : PV) (more : List PV) (o : Option PV) (s : CSt) (Q : RV → CSt → Prop) : Prop := match o with
  | some q => Q (.pv q) (wrC x (.dict (ddel kv p)) s)
  | none => match more with
    | [d] => Q (.pv d) s
    | _ => False
theorem wp_dPop {x : RV} {p : PV} {more : List PV} (h1 : idC (contC s x) = true) (h2 : keyOk (dcO (contC s x)) p = true) (h3 : more.length ≤ 1) : wp (dPop x (p :: more)) s Q E = dpK x (dcO (contC s x)) p more (dget (dcO (contC s x)) p) s Q := by
  have e := idC_iff h1
  generalize dcO (contC s x) = kv at *
  unfold wp dPop dpK; rw [e]; simp only [h2, h3, decide_true, Bool.and_self, if_true]
  cases dget kv p with
  | some q => rfl
  | none => match more with
    | [] => rfl
    | [d] => rfl
    | _ :: _ :: _ => rfl
@[simp] theorem dpK_some {x : RV} {kv : List (PV × PV)} {p q : PV} {more : List PV} : dpK x kv p more (some q) s Q = Q (.pv q) (wrC x (.dict (ddel kv p)) s) := rfl
@[simp] theorem dpK_none {x : RV} {kv : List (PV × PV)} {p d : PV} : dpK x kv p [d] none s Q = Q (.pv d) s := rfl
/-- told with something for none: both ways alike -/
theorem dpK_del {x : RV} {kv : List (PV × PV)} {p d : PV} {o : Option PV} : dpK x kv p [d] o s Q = match o with | some q => Q (.pv q) (wrC x (.dict (ddel kv p)) s) | none => Q (.pv d) s := by cases o <;> rfl
/-! ### lists that change -/
def icC (o : Option Cont) : Bool := match o with
  | some (.list _) => true
  | _ => false
def lcO (o : Option Cont) : List PV := match o with
  | some (.list xs) => xs
  | _ => []
@[simp] theorem icC_l {xs : List PV} : icC (some (.list xs)) = true := rfl
@[simp] theorem lcO_l {xs : List PV} : lcO (some (.list xs)) = xs := rfl
theorem icC_iff {o : Option Cont} (h : icC o = true) : o = some (.list (lcO o)) := by
  cases o with
  | none => cases h
  | some c => cases c with
    | list _ => rfl
    | dict kv => cases h
theorem wp_append {x : RV} {p : PV} (h1 : icC (contC s x) = true) (h2 : (lcO (contC s x)).length < 16777216) : wp (lAppend x [p]) s Q E = Q (.pv .non) (wrC x (.list (lcO (contC s x) ++ [p])) s) := by
  have e := icC_iff h1
  apply wp_ok; unfold lAppend; rw [e]; simp only [lcO_l, h2, if_true]
theorem wp_extend {x : RV} {ys : List PV} (h1 : icC (contC s x) = true) (h2 : (lcO (contC s x)).length + ys.length ≤ 16777216) : wp (lExtend x [.lst ys]) s Q E = Q (.pv .non) (wrC x (.list (lcO (contC s x) ++ ys)) s) := by
  have e := icC_iff h1
  apply wp_ok; unfold lExtend; rw [e]; simp only [lcO_l, h2, if_true]
theorem wp_lpop0 {x : RV} {p : PV} {xs : List PV} (h1 : contC s x = some (.list (p :: xs))) : wp (lPop x [.int 0]) s Q E = Q (.pv p) (wrC x (.list xs) s) := by
  apply wp_ok; unfold lPop; rw [h1]
  have : seqIndex? 0 (xs.length + 1) = some 0 := by
    unfold seqIndex?; simp
  simp [this]
def kLs2 (x : RV) (q : PV) (Q : Unit → CSt → Prop) (E : EQ) : RV → CSt → Prop := fun y s => wp (fun cs => match contC cs x, y with
    | some (.list xs), .pv (.int i) => match ixN xs.length i with
      | some j => .ok () (wrC x (.list (xs.set j q)) cs)
      | none => .stuck
    | _, _ => .stuck) s Q E
def kLs1 (mi : CM RV) (q : PV) (Q : Unit → CSt → Prop) (E : EQ) : RV → CSt → Prop := fun x s => wp mi s (kLs2 x q Q E) E
@[simp] theorem wp_gLSet {mo mi : CM RV} {q : PV} : wp (gLSet mo mi q) s QU E = wp mo s (kLs1 mi q QU E) E := by
  show wp (mo >>= fun x => mi >>= fun y => _) s QU E = _
  rw [wp_bind]; congr; funext x s; exact wp_bind
@[simp] theorem kLs1_ap {mi : CM RV} {q : PV} {x : RV} : kLs1 mi q QU E x s = wp mi s (kLs2 x q QU E) E := rfl
@[simp] theorem kLs2_ap {x : RV} {q : PV} {i : Int} (h1 : icC (contC s x) = true) (h0 : 0 ≤ i) (h2 : i.toNat < (lcO (contC s x)).length) : kLs2 x q QU E (.pv (.int i)) s = QU () (wrC x (.list ((lcO (contC s x)).set i.toNat q)) s) := by
  have e := icC_iff h1
  apply wp_ok
  rw [e]
  have : ixN (lcO (contC s x)).length i = some i.toNat := by
    unfold ixN; rw [if_pos h0, if_pos (by omega)]
  simp only [this, lcO_l]
theorem kLs2_m1 {x : RV} {q : PV} (h1 : icC (contC s x) = true) (h2 : 0 < (lcO (contC s x)).length) : kLs2 x q QU E (.pv (.int (-1))) s = QU () (wrC x (.list ((lcO (contC s x)).set ((lcO (contC s x)).length - 1) q)) s) := by
  have e := icC_iff h1
  apply wp_ok
  rw [e]
  have : ixN (lcO (contC s x)).length (-1) = some ((lcO (contC s x)).length - 1) := by
    unfold ixN; rw [if_neg (by decide), if_pos (by omega)]; congr 1; omega
  simp only [this, lcO_l]
/-! ### making lists -/
@[simp] theorem wp_tupleO {xs : List PV} : wp (opTuple (.own (.list xs))) s Q E = Q (.pv (.tup xs)) s := rfl
@[simp] theorem wp_tupleL {xs : List PV} : wp (opTuple (.pv (.lst xs))) s Q E = Q (.pv (.tup xs)) s := rfl
@[simp] theorem wp_tupleT {xs : List PV} : wp (opTuple (.pv (.tup xs))) s Q E = Q (.pv (.tup xs)) s := rfl
@[simp] theorem wp_listO {xs : List PV} : wp (opList (.own (.list xs))) s Q E = Q (.own (.list xs)) s := rfl
@[simp] theorem wp_listL {xs : List PV} : wp (opList (.pv (.lst xs))) s Q E = Q (.own (.list xs)) s := rfl
@[simp] theorem wp_listT {xs : List PV} : wp (opList (.pv (.tup xs))) s Q E = Q (.own (.list xs)) s := rfl
@[simp] theorem wp_revO {xs : List PV} : wp (opRev (.own (.list xs))) s Q E = Q (.own (.list xs.reverse)) s := rfl
@[simp] theorem wp_revL {xs : List PV} : wp (opRev (.pv (.lst xs))) s Q E = Q (.own (.list xs.reverse)) s := rfl
theorem wp_sortI {x : RV} (h1 : idC (contC s x) = true) (h2 : sortOk ((dcO (contC s x)).map mkP) = true) : wp (opSortI x) s Q E = Q (.own (.list (sortPV ((dcO (contC s x)).map mkP)))) s := by
  have e := idC_iff h1
  apply wp_ok; unfold opSortI; rw [e]; simp only [dcO_d, h2, if_true]
theorem pairsOf_mk : ∀ {kv : List (PV × PV)}, pairsOf (kv.map mkP) = some kv
  | [] => rfl
  | (a, b) :: kv => by
    rw [List.map_cons, pairsOf, pairsOf_mk]; rfl
theorem wp_dictP {kv : List (PV × PV)} (h : pairsOk kv = true) : wp (opDictP (.pv (.lst (kv.map mkP)))) s Q E = Q (.own (.dict (dputs [] kv))) s := by
  apply wp_ok; unfold opDictP
  simp only [listC_lst, pairsOf_mk, h, if_true]
end CL

/-! WP5: lambdas, refusals that are told, count, index. -/
namespace CL
open PySem L2
open PySem.PyData (strOk)
variable {Q : RV → CSt → Prop} {E : EQ} {s : CSt} {sl : List SV} {h : List CO} {QU : Unit → CSt → Prop} {QF : Fl → CSt → Prop} {QP : PV → CSt → Prop}
theorem wp_fin {m : CM Fl} {R : FRes → Prop} (hw : wp m s (kFin R) fun x s' => R (.exc x s'.h)) : R (finF (m s)) := by
  unfold wp kFin at hw
  cases e : m s with
  | ok a s' => rw [e] at hw; exact hw
  | exc x s' => rw [e] at hw; exact hw
  | stuck => rw [e] at hw; exact hw.elim
def kTold (vs : List Nat) (bodies : Nat → Option (CM RV)) (n i : Nat) (em : EM) (ms : CM Fl) (Q : RV → CSt → Prop) (E : EQ) : PV → CSt → Prop := fun p s => wp (match p with
  | .clo j _ => match bodies j with
    | some mi => fun cs => liftF (toldF n i em ms (lamF mi (wipeC cs.sl vs) cs.h)) cs
    | none => stuck
  | _ => stuck) s Q E
@[simp] theorem wp_eToldB {vs : List Nat} {bodies : Nat → Option (CM RV)} {n i : Nat} {em : EM} {ms : CM Fl} {ma : CM PV} : wp (eToldB vs bodies n i em ms ma) s Q E = wp ma s (kTold vs bodies n i em ms Q E) E := wp_bind
@[simp] theorem wp_eTold {bodies : Nat → Option (CM RV)} {n i : Nat} {em : EM} {ms : CM Fl} {ma : CM PV} : wp (eTold bodies n i em ms ma) s Q E = wp ma s (kTold [] bodies n i em ms Q E) E := wp_bind
theorem kTold_ap {vs : List Nat} {bodies : Nat → Option (CM RV)} {n i : Nat} {em : EM} {ms : CM Fl} {j : Nat} {cs : List PV} {mi : CM RV} (hb : bodies j = some mi) : kTold vs bodies n i em ms Q E (.clo j cs) s = kLift (toldF n i em ms (lamF mi (wipeC s.sl vs) s.h)) s Q E := by
  unfold kTold; simp only [hb]
  exact wp_lift
theorem lamF_def {mi : CM RV} {sl : List SV} {h : List CO} {R : FRes → Prop} (hw : wp mi ⟨maskC sl, h⟩ (kRet (kFin R)) fun x s' => R (.exc x s'.h)) : R (lamF mi sl h) := by
  unfold lamF; apply wp_fin; rw [wp_sRet]; exact hw
@[simp] theorem toldF_ok {n i : Nat} {em : EM} {ms : CM Fl} {v : FV} {h : List CO} : toldF n i em ms (.ok v h) = .ok v h := rfl
/-- a refusal that is caught -/
theorem toldF_exc {n i : Nat} {em : EM} {ms : CM Fl} {x : PExc} {h h' : List CO} {v : FV} (he : em x.cls = some true) (hs : finF (ms ⟨exnS n i x, h⟩) = .ok v h') : toldF n i em ms (.exc x h) = .ok v h' := by
  unfold toldF; simp only [he, hs]
def exK (o : Option SV) (f : PExc → Prop) : Prop := match o with
  | some (.exn x) => f x
  | _ => False
@[simp] theorem exK_x {x : PExc} {f : PExc → Prop} : exK (some (.exn x)) f = f x := rfl
theorem rdExn_k {i : Nat} {f : PExc → Prop} : (match rdExn i s with | some x => f x | none => False) = exK s.sl[i]? f := by
  unfold rdExn exK
  cases s.sl[i]? with
  | none => rfl
  | some v => cases v <;> rfl
def boK (o : Option Bool) (f : Bool → Prop) : Prop := match o with
  | some b => f b
  | none => False
@[simp] theorem boK_s {b : Bool} {f : Bool → Prop} : boK (some b) f = f b := rfl
@[simp] theorem wp_eIsE {i : Nat} {ki : Nat → Option Bool} : wp (eIsE i ki) s Q E = exK s.sl[i]? fun x => boK (ki x.cls) fun b => Q (.pv (.bl b)) s := by
  rw [← rdExn_k]
  unfold wp eIsE boK
  cases rdExn i s with
  | none => rfl
  | some x => simp only; cases ki x.cls <;> rfl
def agK (f : Str) (o : Option (Str × PV)) (g : PV → Prop) : Prop := match o with
  | some (f', p) => if f' = f then g p else False
  | none => False
@[simp] theorem agK_s {f : Str} {p : PV} {g : PV → Prop} : agK f (some (f, p)) g = g p := by unfold agK; simp
@[simp] theorem wp_eXf {i : Nat} {f : Str} {okc : Nat → Bool} : wp (eXf i f okc) s Q E = exK s.sl[i]? fun x => if okc x.cls = true then agK f x.arg fun p => Q (.pv p) s else False := by
  rw [← rdExn_k]
  unfold wp eXf agK
  cases rdExn i s with
  | none => rfl
  | some x =>
    simp only
    by_cases e : okc x.cls = true
    · simp only [e, if_true]
      cases x.arg with
      | none => rfl
      | some q =>
        obtain ⟨f', p⟩ := q
        by_cases e2 : f' = f <;> simp [e2]
    · simp [e]
theorem dataC_list {x : RV} {xs : List PV} (hx : listC s x = some xs) (h : pl 20 (.lst xs) = true) : dataC s x = some (.list (xs.map dOf)) ∧ SeqAt.shaped (.list (xs.map dOf)) = true := by
  have h' : xs.all (pl 19) = true := by simpa using h
  obtain ⟨h1, h2⟩ := pl_shaped h (by decide)
  rw [dOf_lst h'] at h1 h2
  refine ⟨?_, h2⟩
  unfold dataC; rw [hx]
  exact h1
theorem wp_count {x : RV} {p : PV} (hx : (listC s x).isSome = true) (h1 : pl 20 (.lst (oL (listC s x))) = true) (h2 : pl 20 p = true) : wp (lCount x [p]) s Q E = Q (.pv (.int ((oL (listC s x)).countP fun z => eqP z p : Nat))) s := by
  obtain ⟨xs, e⟩ := Option.isSome_iff_exists.mp hx
  rw [e] at h1 ⊢
  obtain ⟨d1, d2⟩ := dataC_list e h1
  obtain ⟨d3, d4⟩ := pl_shaped h2 (by decide)
  apply wp_ok
  unfold lCount
  rw [d1]; simp only [d3, d2, d4, Bool.and_self, if_true, List.countP_map, oL_some]
  rfl
def fiK (o : Option Nat) (f : Nat → Prop) : Prop := match o with
  | some n => f n
  | none => False
@[simp] theorem fiK_s {n : Nat} {f : Nat → Prop} : fiK (some n) f = f n := rfl
theorem wp_index {x : RV} {p : PV} (hx : (listC s x).isSome = true) (h1 : pl 20 (.lst (oL (listC s x))) = true) (h2 : pl 20 p = true) : wp (lIndex x [p]) s Q E = fiK ((oL (listC s x)).findIdx? fun z => eqP z p) fun j => Q (.pv (.int (j : Nat))) s := by
  obtain ⟨xs, e⟩ := Option.isSome_iff_exists.mp hx
  rw [e] at h1 ⊢
  obtain ⟨d1, d2⟩ := dataC_list e h1
  obtain ⟨d3, d4⟩ := pl_shaped h2 (by decide)
  unfold wp lIndex
  rw [d1]; simp only [d3, d2, d4, Bool.and_self, if_true, oL_some, List.findIdx?_map]
  have : ((fun z => PyData.eqv z (dOf p)) ∘ dOf) = fun z => eqP z p := rfl
  rw [this]
  cases xs.findIdx? fun z => eqP z p <;> rfl
@[simp] theorem eqP_bl {a b : Bool} : eqP (.bl a) (.bl b) = (a == b) := rfl
@[simp] theorem wp_eLam {l i : Nat} : wp (eLam l i) s Q E = match s.h[l]? with | some .tbl => Q (.pv (.clo i [])) s | _ => False := by
  unfold wp eLam
  cases s.h[l]? with
  | none => rfl
  | some v => cases v <;> rfl
end CL

/-! WP6: texts by their signs: split, join, int, cuts; sets sorted. -/
namespace CL
open PySem L2
open PySem.PyData (strOk)
open SX (S)
variable {Q : RV → CSt → Prop} {E : EQ} {s : CSt} {sl : List SV} {h : List CO} {QU : Unit → CSt → Prop} {QF : Fl → CSt → Prop} {QP : PV → CSt → Prop}
/-- a text from its signs -/
def tx (l : List Nat) : Str := S l
abbrev sv (l : List Nat) : PV := .str (tx l)
@[simp] theorem tx_len (l : List Nat) : (tx l).length = l.length := SX.S_len l
@[simp] theorem tx_inj {a b : List Nat} : (tx a = tx b) ↔ a = b := ⟨SX.S_inj, fun h => h ▸ rfl⟩
@[simp] theorem tx_signs (l : List Nat) : signs (tx l) = l.map fun c => sv [c] := rfl
@[simp] theorem tx_cps (l : List Nat) : (tx l).cps.toList = l := rfl
def spl1 (c : Nat) (l : List Nat) : List (List Nat) := TL.spl [c] 0 [] l
def joinC (c : Nat) (ps : List (List Nat)) : List Nat := TL.joinL [c] ps
@[simp] theorem tx_mem {c : Nat} {l : List Nat} : c ∈ (tx l).cps ↔ c ∈ l := by unfold tx; simp
theorem split_1 {l : List Nat} {c : Nat} (hc : c < 256) : Txt.split (tx l) (tx [c]) = (spl1 c l).map tx := SX.split_S (by simp) (by simp [hc])
theorem join_1 (c : Nat) (ps : List (List Nat)) : Txt.join (tx [c]) (ps.map tx) = tx (joinC c ps) := SX.join_S [c] ps
theorem spl1_join {c : Nat} {ps : List (List Nat)} (h0 : ps ≠ []) (h : ∀ p ∈ ps, c ∉ p) : spl1 c (joinC c ps) = ps := SX.spl_join h0 h
theorem wp_splitC {l : List Nat} {c : Nat} (hc : c < 256) (hl : l.length + 2 ≤ 16777216) : wp (strSplit (.pv (sv l)) [sv [c]]) s Q E = Q (.own (.list ((spl1 c l).map sv))) s := by
  apply wp_ok
  unfold strSplit
  simp only [tx_len, hl, ne_eq, decide_true, Bool.and_true, List.length_cons, List.length_nil]
  rw [if_pos (by decide), split_1 hc, List.map_map]; rfl
theorem strsP_sv (ps : List (List Nat)) : strsP (ps.map sv) = some (ps.map tx) := by
  have := strsP_map (ps.map tx)
  rw [List.map_map] at this
  exact this
theorem joinF_sv {a : List Nat} {ps : List (List Nat)} (hl : (ps.map List.length).sum + ps.length * a.length ≤ 16777216) : joinF (tx a) (ps.map sv) s = .ok (.pv (sv (TL.joinL a ps))) s := by
  unfold joinF
  rw [strsP_sv]
  have e : ((ps.map tx).map (·.length)).sum + (ps.map tx).length * (tx a).length ≤ 16777216 := by
    have := SX.lens ps
    unfold tx; rw [this, SX.S_len, List.length_map]; exact hl
  simp only [e, if_true]
  have := SX.join_S a ps
  unfold tx; rw [this]; rfl
theorem wp_joinL {a : List Nat} {ps : List (List Nat)} (hl : (ps.map List.length).sum + ps.length * a.length ≤ 16777216) : wp (strJoin (.pv (sv a)) [.lst (ps.map sv)]) s Q E = Q (.pv (sv (TL.joinL a ps))) s := wp_ok (joinF_sv hl)
theorem wp_joinT {a : List Nat} {ps : List (List Nat)} (hl : (ps.map List.length).sum + ps.length * a.length ≤ 16777216) : wp (strJoin (.pv (sv a)) [.tup (ps.map sv)]) s Q E = Q (.pv (sv (TL.joinL a ps))) s := wp_ok (joinF_sv hl)
theorem wp_intS {z : Str} {n : Int} (h : PySem.intText? z = some n) (hl : z.length ≤ 640) : wp (opIntS (.pv (.str z))) s Q E = Q (.pv (.int n)) s := by
  apply wp_ok; unfold opIntS; simp only [h, hl, if_true]
theorem wp_mulS {z : Str} {k : Int} (h0 : 0 ≤ k) (h1 : k ≤ 1) : wp (opMulS (.pv (.str z)) (.pv (.int k))) s Q E = Q (.pv (.str (if k = 0 then Str.empty else z))) s := by
  apply wp_ok; unfold opMulS; simp only [h0, h1, decide_true, Bool.and_self, if_true]
theorem wp_sortSet {x : RV} (hx : (listC s x).isSome = true) (h1 : setOk (oL (listC s x)) = true) (h2 : sortOk (dedup (oL (listC s x))) = true) : wp (opSortSet x) s Q E = Q (.own (.list (sortPV (dedup (oL (listC s x)))))) s := by
  obtain ⟨a, ha⟩ := Option.isSome_iff_exists.mp hx
  rw [ha] at h1 h2 ⊢
  apply wp_ok; unfold opSortSet; rw [ha]; simp only [oL_some] at h1 h2 ⊢; simp only [h1, h2, Bool.and_self, if_true]
theorem wp_lenSet {x : RV} (hx : (listC s x).isSome = true) (h1 : setOk (oL (listC s x)) = true) : wp (opLenSet x) s Q E = Q (.pv (.int (dedup (oL (listC s x))).length)) s := by
  obtain ⟨a, ha⟩ := Option.isSome_iff_exists.mp hx
  rw [ha] at h1 ⊢
  apply wp_ok; unfold opLenSet; rw [ha]; simp only [oL_some] at h1 ⊢; simp only [h1, if_true]
@[simp] theorem wp_ixS {l : List Nat} {i : Int} (hl : l.length ≤ 16777216) : wp (opIx (.pv (sv l)) (.pv (.int i))) s Q E = ixK ((atI l i).map fun c => sv [c]) s Q := by
  unfold wp opIx ixK
  simp only [listC_str, valC_pv, tx_len, hl, if_true, tx_cps]
  cases atI l i <;> rfl
@[simp] theorem wp_len_sv {l : List Nat} (hl : l.length ≤ 16777216) : wp (opLen (.pv (sv l))) s Q E = Q (.pv (.int l.length)) s := by
  rw [wp_len_str (by rw [tx_len]; exact hl), tx_len]
theorem cutS_to {l : List Nat} {i : Int} (h : 0 ≤ i) : cutS (tx l) none (some i) = tx (l.take i.toNat) := by
  rw [C8.cutS_slice]; exact SX.slice_to h
theorem cutS_from {l : List Nat} {i : Int} (h : 0 ≤ i) : cutS (tx l) (some i) none = tx (l.drop i.toNat) := by
  rw [C8.cutS_slice]; exact SX.slice_from h
theorem strOk_tx {l : List Nat} (h : ∀ c ∈ l, c < 128) : strOk (tx l) = true := by
  unfold strOk tx
  rw [Array.all_eq_true]
  intro i hi
  have := h l[i] (List.getElem_mem (by simpa using hi))
  simp only [List.getElem_toArray, decide_eq_true_eq]; omega
@[simp] theorem tx_cat (a b : List Nat) : tx a ++ tx b = tx (a ++ b) := SX.S_cat a b
@[simp] theorem wp_add_sv {a b : List Nat} (hl : a.length + b.length ≤ 16777216) : wp (opAdd (.pv (sv a)) (.pv (sv b))) s Q E = Q (.pv (sv (a ++ b))) s := by
  rw [wp_addS (by rw [tx_len, tx_len]; exact hl), tx_cat]
theorem wp_str_n {n : Nat} (h : n < 1000000) : wp (opStr (.pv (.int (n : Int)))) s Q E = Q (.pv (sv (TL.numL n))) s := by
  rw [wp_strI (by
    have : n.log2 < 1920 := by
      by_cases e : n = 0
      · subst e; decide
      · rw [Nat.log2_lt e]; exact Nat.lt_of_lt_of_le h (by decide)
    simpa using this)]
  have e := SX.num_S n
  unfold sv tx
  rw [← e]
theorem wp_in_tx {neg : Bool} {c : Nat} {z : Str} : wp (opIn neg (.pv (sv [c])) (.pv (.str z))) s Q E = Q (.pv (.bl (if neg then !decide (c ∈ z.cps.toList) else decide (c ∈ z.cps.toList)))) s := wp_in_s
end CL

/-! LC1: what all laws have: names, numbers, the dice. -/
namespace LC
open PySem CL
open PySem.PyData (strOk)
def sem_is_between : CM Fl :=
  (sRet (eAnd (e1 (opIsi "int") (rdVar 0)) (eAnd (eNot (e1 (opIsi "bool") (rdVar 0))) (eLeLe (rdVar 1) (rdVar 0) (rdVar 2)))))
def fn_is_between : FSem := runDef 3 sem_is_between
def sem_is_label : CM Fl :=
  (sSeq (sIf (bOr (bNot (tst (e1 (opIsi "str") (rdVar 0)))) (bNot (tst (eLeLe (kst (.int 1)) (e1 opLen (rdVar 0)) (kst (.int 3)))))) (sRet (kst (.bl false))) sNil)
  (sRet (e2 (opEmp false) (eComp [1] (iSeq (ePv (rdVar 0))) (gNm 1) (tst (e2 (opIn true) (rdVar 1) (kst (.str "abcdefghijklmnopqrstuvwxyz")))) (ePv (rdVar 1))) (eLst aNil))))
def fn_is_label : FSem := runDef 2 sem_is_label
def sem_is_name : CM Fl :=
  (sSeq (sIf (bOr (bNot (tst (e1 (opIsi "tuple") (rdVar 0)))) (tst (e2 opGt (e1 opLen (rdVar 0)) (kst (.int 5))))) (sRet (kst (.bl false))) sNil)
  (sRet (e2 (opEmp false) (eComp [1] (iSeq (ePv (rdVar 0))) (gNm 1) (bNot (tst (eCall fn_is_label (aCons (ePv (rdVar 1)) aNil)))) (ePv (rdVar 1))) (eLst aNil))))
def fn_is_name : FSem := runDef 2 sem_is_name
def sem__law_dice : CM Fl :=
  (sSeq (sAsg (ePv (kst (.int 0))) (gNm 1))
  (sSeq (sFor (iSeq (ePv (rdVar 0))) (gNm 2) (sAsg (ePv (e2 opMod (e2 opAdd (e2 opAdd (e2 opMulI (rdVar 1) (kst (.int 48271))) (e2 opMulI (e2 opMod (rdVar 2) (kst (.int 2147483647))) (kst (.int 69621)))) (kst (.int 11))) (kst (.int 2147483647)))) (gNm 1)))
  (sRet (eLst (aCons (ePv (rdVar 0)) (aCons (ePv (kst (.int 0))) (aCons (ePv (e2 opMulI (rdVar 1) (e1 opInt (e2 opGt (e1 opLen (rdVar 0)) (kst (.int 2)))))) (aCons (ePv (kst (.int 0))) aNil))))))))
def fn__law_dice : FSem := runDef 3 sem__law_dice
def sem__law_next : CM Fl :=
  (sSeq (sIf (tst (e2 opGt (e2 opIx (rdVar 0) (kst (.int 3))) (kst (.int 0)))) (sSeq (sAsg (ePv (e2 opMod (e2 opIx (rdVar 0) (kst (.int 3))) (rdVar 1))) (gNm 2))
  (sSeq (sAsg (ePv (e2 opDiv (e2 opIx (rdVar 0) (kst (.int 3))) (rdVar 1))) (gLSet (rdVar 0) (kst (.int 3))))
  (sRet (rdVar 2)))) sNil)
  (sSeq (sAsg (ePv (e2 opAdd (e2 opIx (rdVar 0) (kst (.int 1))) (kst (.int 1)))) (gLSet (rdVar 0) (kst (.int 1))))
  (sSeq (sIf (tst (e2 opLe (e2 opIx (rdVar 0) (kst (.int 1))) (e1 opLen (e2 opIx (rdVar 0) (kst (.int 0)))))) (sSeq (sAsg (ePv (e2 opIx (e2 opIx (rdVar 0) (kst (.int 0))) (e2 opSub (e2 opIx (rdVar 0) (kst (.int 1))) (kst (.int 1))))) (gNm 3))
  (sSeq (sAsg (ePv (eIf (tst (e2 opGe (rdVar 3) (e2 opPow (kst (.int 10)) (kst (.int 18))))) (e2 opDiv (rdVar 3) (rdVar 1)) (kst (.int 0)))) (gLSet (rdVar 0) (kst (.int 3))))
  (sRet (e2 opMod (rdVar 3) (rdVar 1))))) sNil)
  (sSeq (sAsg (ePv (e2 opMod (e2 opMulI (e2 opIx (rdVar 0) (kst (.int 2))) (kst (.int 48271))) (kst (.int 2147483647)))) (gLSet (rdVar 0) (kst (.int 2))))
  (sRet (e2 opMod (e2 opDiv (e2 opIx (rdVar 0) (kst (.int 2))) (kst (.int 7))) (rdVar 1)))))))
def fn__law_next : FSem := runDef 4 sem__law_next
def btw (p : PV) (lo hi : Int) : Bool := match p with
  | .int i => decide (lo ≤ i) && decide (i ≤ hi)
  | _ => false
theorem is_between_eq {p : PV} {lo hi : Int} {h : List CO} (hp : isDat p = true) : fn_is_between [p, .int lo, .int hi] h = .ok (.pv (.bl (btw p lo hi))) h := by
  refine wp_def (R := fun r => r = _) ?_
  simp only [sem_is_between, startC]
  cases p with
  | int i =>
    simp -implicitDefEqProofs
    refine kChB_split (fun e => ?_) fun e => ?_
    · simp [btw] at e ⊢; simp [e]
    · simp [btw] at e ⊢; omega
  | loc _ => cases hp
  | clo _ _ => cases hp
  | _ => simp -implicitDefEqProofs [btw]
def isLow (c : Nat) : Bool := decide (c ∈ (Str.ofString "abcdefghijklmnopqrstuvwxyz").cps)
def isLabel (p : PV) : Bool := match p with
  | .str x => decide (1 ≤ x.length) && decide (x.length ≤ 3) && x.cps.toList.all isLow
  | _ => false
def sml (p : PV) : Bool := match p with
  | .str x => decide (x.length ≤ 16777216)
  | .tup xs => decide (xs.length ≤ 16777216)
  | _ => true
def badSign (p : PV) : Option PV := match p with
  | .str z => if z.cps.toList.all isLow = true then none else some p
  | _ => none
theorem badSign_c {c : Nat} : badSign (.str ⟨#[c]⟩) = if isLow c = true then none else some (.str ⟨#[c]⟩) := by
  simp [badSign]
theorem badSigns : ∀ {l : List Nat}, (List.filterMap badSign (l.map fun c => PV.str ⟨#[c]⟩)).isEmpty = l.all isLow
  | [] => rfl
  | c :: l => by
    rw [List.map_cons, List.filterMap_cons, badSign_c, List.all_cons, ← badSigns (l := l)]
    cases isLow c <;> simp
theorem is_label_eq {p : PV} {h : List CO} (hp : isDat p = true) (hs : sml p = true) : fn_is_label [p] h = .ok (.pv (.bl (isLabel p))) h := by
  refine wp_def (R := fun r => r = _) ?_
  simp only [sem_is_label, startC]
  cases p with
  | str x =>
    simp only [sml, decide_eq_true_eq] at hs
    simp -implicitDefEqProofs [hs]
    refine kChB_split (fun e1 => ?_) fun e1 => ?_
    · simp at e1
      simp -implicitDefEqProofs
      by_cases e2 : (x.length : Int) ≤ 3
      · simp -implicitDefEqProofs [e2]
        refine kComp_pure badSign ?_ ?_ ?_
        · simp [signs]; exact hs
        · intro p hp
          simp only [signs, List.mem_map] at hp
          obtain ⟨c, hc, rfl⟩ := hp
          rw [badSign_c]
          simp -implicitDefEqProofs [wipeC, wp_in_s]
          cases e3 : isLow c
          · simp [isLow] at e3; simp [e3]
          · simp [isLow] at e3; simp [e3]
        · simp -implicitDefEqProofs
          rw [signs, badSigns]
          simp [isLabel]; omega
      · simp -implicitDefEqProofs [e2]
        simp [isLabel]; omega
    · simp at e1
      simp -implicitDefEqProofs
      simp [isLabel]; omega
  | loc _ => cases hp
  | clo _ _ => cases hp
  | _ => simp -implicitDefEqProofs [isLabel]
def isName (p : PV) : Bool := match p with
  | .tup xs => decide (xs.length ≤ 5) && xs.all isLabel
  | _ => false
def badLabel (p : PV) : Option PV := if isLabel p = true then none else some p
theorem badLabels : ∀ {l : List PV}, (List.filterMap badLabel l).isEmpty = l.all isLabel
  | [] => rfl
  | c :: l => by
    rw [List.filterMap_cons, List.all_cons, ← badLabels (l := l), badLabel]
    cases isLabel c <;> simp
def sml2 (p : PV) : Bool := match p with
  | .tup xs => xs.all fun q => isDat q && sml q
  | _ => true
theorem is_name_eq {p : PV} {h : List CO} (hp : isDat p = true) (hs : sml2 p = true) : fn_is_name [p] h = .ok (.pv (.bl (isName p))) h := by
  refine wp_def (R := fun r => r = _) ?_
  simp only [sem_is_name, startC]
  cases p with
  | tup xs =>
    simp only [sml2, List.all_eq_true, Bool.and_eq_true] at hs
    simp -implicitDefEqProofs
    refine kIf_split (fun e1 => ?_) fun e1 => ?_
    · simp at e1
      simp -implicitDefEqProofs [isName]; omega
    · simp at e1
      simp -implicitDefEqProofs
      refine kComp_pure badLabel (by omega) ?_ ?_
      · intro p hp
        obtain ⟨h1, h2⟩ := hs p hp
        simp -implicitDefEqProofs [wipeC, is_label_eq h1 h2, badLabel]
        cases isLabel p <;> simp
      · simp -implicitDefEqProofs
        rw [badLabels]
        simp [isName]; omega
  | loc _ => cases hp
  | clo _ _ => cases hp
  | _ => simp -implicitDefEqProofs [isName]

/-! ### the dice -/
structure Dice where
  i : Int
  m : Int
  c : Int
  hi : 0 ≤ i
  hm : 0 ≤ m
  hc : 0 ≤ c
def diceO (ns : List Int) (D : Dice) : CO := .cont (.list [.lst (ns.map .int), .int D.i, .int D.m, .int D.c])
theorem next_k (ns : List Int) (D : Dice) (t : CO) (r : List CO) {many : Int} (hm : 0 < many) (hm2 : many < 1073741824) (R : FRes → Prop)
    (k : ∀ (v : Int) (D' : Dice), 0 ≤ v → v < many → R (.ok (.pv (.int v)) (t :: diceO ns D' :: r))) : R (fn__law_next [.loc 1, .int many] (t :: diceO ns D :: r)) := by
  refine wp_def ?_
  obtain ⟨i, m, c, hi, hmm, hc⟩ := D
  have mod1 : ∀ x : Int, 0 ≤ x % many ∧ x % many < many := fun x => ⟨Int.emod_nonneg _ (by omega), Int.emod_lt_of_pos _ hm⟩
  simp -implicitDefEqProofs [sem__law_next, startC, diceO, wp_ixG]
  refine kIf_split (fun e1 => ?_) fun e1 => ?_
  · simp -implicitDefEqProofs [wp_ixG, hm, hm2]
    exact k (c % many) ⟨i, m, c / many, hi, hmm, Int.ediv_nonneg hc (by omega)⟩ (mod1 c).1 (mod1 c).2
  · simp -implicitDefEqProofs [wp_ixG]
    refine kIf_split (fun e2 => ?_) fun e2 => ?_
    · simp at e2
      obtain ⟨n, rfl⟩ := Int.eq_ofNat_of_zero_le hi
      have e4 : n < ns.length := by omega
      simp -implicitDefEqProofs [wp_ixG, e4]
      generalize ns[n] = cell
      refine kIf_split (fun e5 => ?_) fun e5 => ?_
      · have : (0:Int) ≤ cell := by simp at e5; omega
        simp -implicitDefEqProofs [wp_ixG, hm, hm2]
        exact k (cell % many) ⟨n + 1, m, cell / many, by omega, hmm, Int.ediv_nonneg this (by omega)⟩ (mod1 _).1 (mod1 _).2
      · simp -implicitDefEqProofs [wp_ixG, hm, hm2]
        exact k (cell % many) ⟨n + 1, m, 0, by omega, hmm, by omega⟩ (mod1 _).1 (mod1 _).2
    · simp -implicitDefEqProofs [wp_ixG, hm, hm2, wp_mulI]
      exact k (m * 48271 % 2147483647 / 7 % many) ⟨i + 1, m * 48271 % 2147483647, c, by omega, Int.emod_nonneg _ (by decide), hc⟩ (mod1 _).1 (mod1 _).2
theorem next_spec (ns : List Int) (D : Dice) (t : CO) (r : List CO) {many : Int} (hm : 0 < many) (hm2 : many < 1073741824) :
    ∃ (v : Int) (D' : Dice), 0 ≤ v ∧ v < many ∧ fn__law_next [.loc 1, .int many] (t :: diceO ns D :: r) = .ok (.pv (.int v)) (t :: diceO ns D' :: r) :=
  next_k ns D t r hm hm2 (fun x => ∃ (v : Int) (D' : Dice), 0 ≤ v ∧ v < many ∧ x = .ok (.pv (.int v)) (t :: diceO ns D' :: r)) fun v D' h1 h2 => ⟨v, D', h1, h2, rfl⟩
/-- a call of the dice -/
theorem next_call {ns : List Int} {D : Dice} {t : CO} {r : List CO} {many : Int} {s : CSt} {Q : RV → CSt → Prop} {E : EQ} (hm : 0 < many) (hm2 : many < 1073741824)
    (k : ∀ (v : Int) (D' : Dice), 0 ≤ v → v < many → Q (.pv (.int v)) { s with h := t :: diceO ns D' :: r }) : kLift (fn__law_next [.loc 1, .int many] (t :: diceO ns D :: r)) s Q E :=
  next_k ns D t r hm hm2 (fun x => kLift x s Q E) fun v D' h1 h2 => k v D' h1 h2
def DInv (ns : List Int) (h : List CO) (ys : List PV) (s : CSt) : Prop := ∃ (js : List Int) (m : Int) (a : SV), ys = js.map .int ∧ 0 ≤ m ∧ s = ⟨[.pv (.lst (ns.map .int)), .pv (.int m), a], h⟩
/-- something drawn of a list -/
theorem pick_k {xs : List PV} {v : Int} {s : CSt} {Q : RV → CSt → Prop} (h0 : 0 ≤ v) (h1 : v < xs.length) (k : ∀ p ∈ xs, Q (.pv p) s) : ixK (L2.atI xs v) s Q := by
  obtain ⟨n, rfl⟩ := Int.eq_ofNat_of_zero_le h0
  have hn : n < xs.length := by omega
  rw [atI_c, List.getElem?_eq_getElem hn]
  exact k _ (List.getElem_mem hn)
theorem dice_eq (ns : List Int) (h : List CO) : ∃ D : Dice, fn__law_dice [.lst (ns.map .int)] h = .ok (.own (.list [.lst (ns.map .int), .int D.i, .int D.m, .int D.c])) h := by
  refine wp_def (R := fun x => ∃ D : Dice, x = .ok (.own (.list [.lst (ns.map .int), .int D.i, .int D.m, .int D.c])) h) ?_
  simp only [sem__law_dice, startC]
  simp -implicitDefEqProofs
  refine for_inv (DInv ns h) ⟨ns, 0, _, rfl, by decide, rfl⟩ ?_ ?_
  · rintro p ps s ⟨js, m, a, e1, h1, rfl⟩
    cases js with
    | nil => cases e1
    | cons j js =>
      simp only [List.map_cons, List.cons.injEq] at e1
      obtain ⟨rfl, rfl⟩ := e1
      simp -implicitDefEqProofs [wp_mulI]
      exact ⟨js, (m * 48271 + j % 2147483647 * 69621 + 11) % 2147483647, _, rfl, Int.emod_nonneg _ (by decide), rfl⟩
  · rintro s ⟨js, m, a, e1, h1, rfl⟩
    have e : -18446744073709551616 < (if 2 < (ns.length : Int) then (1:Int) else 0) ∧ (if 2 < (ns.length : Int) then (1:Int) else 0) < 18446744073709551616 := by split <;> decide
    simp -implicitDefEqProofs [wp_mulI, e.1, e.2]
    refine ⟨⟨0, m * (if 2 < (ns.length : Int) then (1:Int) else 0), 0, by decide, ?_, by decide⟩, rfl, rfl, rfl⟩
    split <;> omega
end LC

/-! LC2: what all laws have: names drawn, values compared. -/
namespace LC
open PySem CL
open PySem.PyData (strOk)
def sem__law_name : CM Fl :=
  (sRet (e1 opTuple (eComp [2] (iRange1 (aCons (ePv (eCall fn__law_next (aCons (ePv (rdVar 0)) (aCons (ePv (e2 opIx (eLst (aCons (ePv (kst (.int 2))) (aCons (ePv (kst (.int 4))) (aCons (ePv (kst (.int 6))) aNil)))) (eCall fn__law_next (aCons (ePv (rdVar 0)) (aCons (ePv (kst (.int 3))) aNil))))) aNil)))) aNil)) (gNm 2) bTrue (ePv (e2 opIx (rdVar 1) (eCall fn__law_next (aCons (ePv (rdVar 0)) (aCons (ePv (e1 opLen (rdVar 1))) aNil))))))))
def fn__law_name : FSem := runDef 3 sem__law_name
def sem__law_like (f0 : FSem) : CM Fl :=
  (sSeq (sIf (tst (e1 (opIsi "bool") (rdVar 1))) (sRet (eAnd (e1 (opIsi "bool") (rdVar 0)) (e2 opEq (rdVar 0) (rdVar 1)))) sNil)
  (sSeq (sIf (tst (e1 (opIsi "str") (rdVar 1))) (sRet (eAnd (e1 (opIsi "str") (rdVar 0)) (e2 opEq (rdVar 0) (rdVar 1)))) sNil)
  (sSeq (sIf (tst (e1 (opIsi "int") (rdVar 1))) (sRet (eAnd (e1 (opIsi "int") (rdVar 0)) (eAnd (eNot (e1 (opIsi "bool") (rdVar 0))) (e2 opEq (rdVar 0) (rdVar 1))))) sNil)
  (sSeq (sIf (tst (e1 (opIsN false) (rdVar 1))) (sRet (e1 (opIsN false) (rdVar 0))) sNil)
  (sSeq (sIf (bOr (tst (e2 opNe (e1 (opIsi "tuple") (rdVar 1)) (e1 (opIsi "tuple") (rdVar 0)))) (tst (e2 opNe (e1 (opIsi "list") (rdVar 1)) (e1 (opIsi "list") (rdVar 0))))) (sRet (kst (.bl false))) sNil)
  (sSeq (sIf (tst (e2 opNe (e1 opLen (rdVar 0)) (e1 opLen (rdVar 1)))) (sRet (kst (.bl false))) sNil)
  (sSeq (sFor (iRange1 (aCons (ePv (e1 opLen (rdVar 1))) aNil)) (gNm 2) (sIf (bNot (tst (eCall f0 (aCons (ePv (e2 opIx (rdVar 0) (rdVar 2))) (aCons (ePv (e2 opIx (rdVar 1) (rdVar 2))) aNil))))) (sRet (kst (.bl false))) sNil))
  (sRet (kst (.bl true))))))))))
def fa__law_like : Nat → FSem
  | 0 => fun _ _ => .stuck
  | j + 1 => runDef 3 (sem__law_like (fa__law_like j))
def fn__law_like : FSem := fa__law_like 12

def nm (xs : List Str) : PV := .tup (xs.map .str)
def NInv (ns : List Int) (t : CO) (r : List CO) (ls : List Str) (ys acc : List PV) (s : CSt) : Prop :=
  ∃ (xs : List Str) (D : Dice), acc = xs.map .str ∧ xs.length + ys.length ≤ 5 ∧ (∀ x ∈ xs, x ∈ ls) ∧ s = ⟨[.pv (.loc 1), .pv (.lst (ls.map .str)), .emp], t :: diceO ns D :: r⟩
theorem name_k (ns : List Int) (D : Dice) (t : CO) (r : List CO) {ls : List Str} (h0 : ls ≠ []) (h1 : ls.length < 1000) (R : FRes → Prop)
    (k : ∀ (xs : List Str) (D' : Dice), xs.length ≤ 5 → (∀ x ∈ xs, x ∈ ls) → R (.ok (.pv (nm xs)) (t :: diceO ns D' :: r))) : R (fn__law_name [.loc 1, .lst (ls.map .str)] (t :: diceO ns D :: r)) := by
  refine wp_def ?_
  simp -implicitDefEqProofs [sem__law_name, startC]
  refine next_call (by decide) (by decide) fun v D1 h2 h3 => ?_
  simp -implicitDefEqProofs
  refine pick_k h2 h3 fun p hp => ?_
  have key : ∃ m : Int, p = .int m ∧ 0 < m ∧ m ≤ 6 := by simp at hp; rcases hp with rfl | rfl | rfl <;> exact ⟨_, rfl, by decide, by decide⟩
  obtain ⟨m, rfl, h4, h5⟩ := key
  simp -implicitDefEqProofs
  refine next_call h4 (by omega) fun w D2 h6 h7 => ?_
  have h8 : inR w = true := by unfold inR; simp; omega
  simp -implicitDefEqProofs [h8]
  refine kComp_inv (NInv ns t r ls) ?_ ?_ ?_ ?_
  · simp [rangeP]; omega
  · exact ⟨[], D2, rfl, by simp [rangeP]; omega, by simp, rfl⟩
  · rintro p ps acc s ⟨xs, D3, rfl, h9, h10, rfl⟩
    simp -implicitDefEqProofs
    refine next_call (by have := List.length_pos_iff.mpr h0; omega) (by omega) fun u D4 h11 h12 => ?_
    simp -implicitDefEqProofs
    refine pick_k h11 (by simpa using h12) fun q hq => ?_
    obtain ⟨x, hx, rfl⟩ := List.mem_map.mp hq
    simp -implicitDefEqProofs [wipeC]
    refine ⟨xs ++ [x], D4, by simp, by simp at h9 ⊢; omega, ?_, rfl⟩
    intro y hy
    rcases List.mem_append.mp hy with z | z
    · exact h10 y z
    · rw [List.mem_singleton.mp z]; exact hx
  · rintro acc s ⟨xs, D3, rfl, h9, h10, rfl⟩
    simp -implicitDefEqProofs
    exact k xs D3 (by simpa using h9) h10
theorem name_spec (ns : List Int) (D : Dice) (t : CO) (r : List CO) {ls : List Str} (h0 : ls ≠ []) (h1 : ls.length < 1000) : ∃ (xs : List Str) (D' : Dice), xs.length ≤ 5 ∧ (∀ x ∈ xs, x ∈ ls) ∧ fn__law_name [.loc 1, .lst (ls.map .str)] (t :: diceO ns D :: r) = .ok (.pv (nm xs)) (t :: diceO ns D' :: r) :=
  name_k ns D t r h0 h1 (fun x => ∃ (xs : List Str) (D' : Dice), xs.length ≤ 5 ∧ (∀ x ∈ xs, x ∈ ls) ∧ x = .ok (.pv (nm xs)) (t :: diceO ns D' :: r)) fun xs D' a b => ⟨xs, D', a, b, rfl⟩
theorem name_call {ns : List Int} {D : Dice} {t : CO} {r : List CO} {ls : List Str} {s : CSt} {Q : RV → CSt → Prop} {E : EQ} (h0 : ls ≠ []) (h1 : ls.length < 1000)
    (k : ∀ (xs : List Str) (D' : Dice), xs.length ≤ 5 → (∀ x ∈ xs, x ∈ ls) → Q (.pv (nm xs)) { s with h := t :: diceO ns D' :: r }) : kLift (fn__law_name [.loc 1, .lst (ls.map .str)] (t :: diceO ns D :: r)) s Q E :=
  name_k ns D t r h0 h1 (fun x => kLift x s Q E) fun v D' h1 h2 => k v D' h1 h2
theorem rangeP_succ {lo : Int} {n : Nat} : rangeP lo (n + 1) = .int lo :: rangeP (lo + 1) n := by
  unfold rangeP
  rw [List.range_succ_eq_map, List.map_cons, List.map_map]
  congr 1
  · simp
  · apply List.map_congr_left; intro i _; simp; omega
@[simp] theorem rangeP_zero {lo : Int} : rangeP lo 0 = [] := rfl
@[simp] theorem rangeP_len {lo : Int} {n : Nat} : (rangeP lo n).length = n := by simp [rangeP]
mutual
/-- what a value reads as -/
inductive Rd (h : List CO) : PV → PV → Prop
  | non : Rd h .non .non
  | bl (b : Bool) : Rd h (.bl b) (.bl b)
  | int (i : Int) : Rd h (.int i) (.int i)
  | str (x : Str) : strOk x = true → Rd h (.str x) (.str x)
  | tup {xs ys : List PV} : xs.length ≤ 16777216 → Rds h xs ys → Rd h (.tup xs) (.tup ys)
  | lst {xs ys : List PV} : xs.length ≤ 16777216 → Rds h xs ys → Rd h (.lst xs) (.lst ys)
  | loc {l : Nat} {xs ys : List PV} : h[l]? = some (.cont (.list xs)) → xs.length ≤ 16777216 → Rds h xs ys → Rd h (.loc l) (.lst ys)
inductive Rds (h : List CO) : List PV → List PV → Prop
  | nil : Rds h [] []
  | cons {x y : PV} {xs ys : List PV} : Rd h x y → Rds h xs ys → Rds h (x :: xs) (y :: ys)
end
theorem Rds.length {h : List CO} : ∀ {xs ys : List PV}, Rds h xs ys → xs.length = ys.length
  | _, _, .nil => rfl
  | _, _, .cons _ r => by simp [Rds.length r]
theorem Rds.get {h : List CO} : ∀ {xs ys : List PV} {i : Nat} (_ : Rds h xs ys) (h1 : i < xs.length) (h2 : i < ys.length), Rd h xs[i] ys[i]
  | _, _, _, .nil, h1, _ => by simp at h1
  | _, _, 0, .cons a _, _, _ => a
  | _, _, i + 1, .cons _ r, h1, h2 => Rds.get r (by simpa using h1) (by simpa using h2)
/-- plain, of that depth and of sizes that can be -/
def pz : Nat → PV → Bool
  | _, .non => true
  | _, .bl _ => true
  | _, .int _ => true
  | _, .str x => strOk x
  | n + 1, .tup xs => decide (xs.length ≤ 16777216) && xs.all (pz n)
  | n + 1, .lst xs => decide (xs.length ≤ 16777216) && xs.all (pz n)
  | _, _ => false
@[simp] theorem pz_non {n : Nat} : pz n .non = true := by cases n <;> rfl
@[simp] theorem pz_bl {n : Nat} {b : Bool} : pz n (.bl b) = true := by cases n <;> rfl
@[simp] theorem pz_int {n : Nat} {i : Int} : pz n (.int i) = true := by cases n <;> rfl
@[simp] theorem pz_str {n : Nat} {x : Str} : pz n (.str x) = strOk x := by cases n <;> rfl
@[simp] theorem pz_tup {n : Nat} {xs : List PV} : pz (n + 1) (.tup xs) = (decide (xs.length ≤ 16777216) && xs.all (pz n)) := rfl
@[simp] theorem pz_lst {n : Nat} {xs : List PV} : pz (n + 1) (.lst xs) = (decide (xs.length ≤ 16777216) && xs.all (pz n)) := rfl
theorem Rds.of_pz {h : List CO} {n : Nat} (f : ∀ p, pz n p = true → Rd h p p) : ∀ {xs : List PV}, xs.all (pz n) = true → Rds h xs xs
  | [], _ => .nil
  | x :: xs, hx => by
    simp only [List.all_cons, Bool.and_eq_true] at hx
    exact .cons (f x hx.1) (Rds.of_pz f hx.2)
theorem Rd.of_pz {h : List CO} : ∀ (n : Nat) (p : PV), pz n p = true → Rd h p p := by
  intro n
  induction n with
  | zero => intro p hp; cases p with
    | non => exact .non
    | bl b => exact .bl b
    | int i => exact .int i
    | str x => exact .str x (by simpa using hp)
    | _ => simp [pz] at hp
  | succ n ih => intro p hp; cases p with
    | non => exact .non
    | bl b => exact .bl b
    | int i => exact .int i
    | str x => exact .str x (by simpa using hp)
    | tup xs => simp at hp; exact .tup hp.1 (Rds.of_pz ih (by simpa using hp.2))
    | lst xs => simp at hp; exact .lst hp.1 (Rds.of_pz ih (by simpa using hp.2))
    | _ => simp [pz] at hp
theorem pz_dat {n : Nat} {p : PV} (h : pz n p = true) : isDat p = true := by
  cases p <;> first | rfl | (cases n <;> simp [pz] at h)
section
variable {Q : RV → CSt → Prop} {E : EQ} {sl : List SV} {h : List CO}
theorem wp_isi_loc {T : String} {l : Nat} {xs : List PV} {b : Bool} (h0 : h[l]? = some (.cont (.list xs))) (hk : L2.kitB "list" T = some b) : wp (opIsi T (.pv (.loc l))) ⟨sl, h⟩ Q E = Q (.pv (.bl b)) ⟨sl, h⟩ := by
  apply wp_isi; unfold rvT; rw [listC_loc]; simp only [h0]; exact hk
theorem isiB_rd {p v : PV} (r : Rd h p v) : wp (opIsi "bool" (.pv p)) ⟨sl, h⟩ Q E = Q (.pv (.bl (isB v))) ⟨sl, h⟩ := by
  cases r with
  | loc h0 _ _ => exact wp_isi_loc h0 kits2.2.2.2.2.2
  | _ => exact wp_isi_bool rfl
theorem isiI_rd {p v : PV} (r : Rd h p v) : wp (opIsi "int" (.pv p)) ⟨sl, h⟩ Q E = Q (.pv (.bl (isI v))) ⟨sl, h⟩ := by
  cases r with
  | loc h0 _ _ => exact wp_isi_loc h0 kits.2.2.2.2.2
  | _ => exact wp_isi_int rfl
theorem isiS_rd {p v : PV} (r : Rd h p v) : wp (opIsi "str" (.pv p)) ⟨sl, h⟩ Q E = Q (.pv (.bl (isS v))) ⟨sl, h⟩ := by
  cases r with
  | loc h0 _ _ => exact wp_isi_loc h0 kits3.2.2.2.2.2
  | _ => exact wp_isi_str rfl
theorem isiT_rd {p v : PV} (r : Rd h p v) : wp (opIsi "tuple" (.pv p)) ⟨sl, h⟩ Q E = Q (.pv (.bl (isT v))) ⟨sl, h⟩ := by
  cases r with
  | loc h0 _ _ => exact wp_isi_loc h0 kits4.2.2.2.2.2
  | _ => exact wp_isi_tup rfl
theorem isiL_rd {p v : PV} (r : Rd h p v) : wp (opIsi "list" (.pv p)) ⟨sl, h⟩ Q E = Q (.pv (.bl (isL v))) ⟨sl, h⟩ := by
  cases r with
  | loc h0 _ _ => exact wp_isi_loc h0 kits5.2.2.2.2.2
  | _ => exact wp_isi_lst rfl
end
/-- the items of a tuple or list -/
def its : PV → List PV
  | .tup xs => xs
  | .lst xs => xs
  | _ => []
def sq (v : PV) : Bool := isT v || isL v
section
variable {Q : RV → CSt → Prop} {E : EQ} {sl : List SV} {h : List CO}
theorem len_rd {p v : PV} (r : Rd h p v) (hv : sq v = true) : wp (opLen (.pv p)) ⟨sl, h⟩ Q E = Q (.pv (.int (its v).length)) ⟨sl, h⟩ := by
  cases r with
  | loc h0 _ r => rw [wp_len (by simp [h0])]; simp [h0, its, r.length]
  | tup _ r => simp [its, r.length]
  | lst _ r => simp [its, r.length]
  | _ => cases hv
theorem ix_rd {p v : PV} (r : Rd h p v) (hv : sq v = true) {n : Nat} (hn : n < (its v).length) (k : ∀ q, Rd h q (its v)[n] → Q (.pv q) ⟨sl, h⟩) : wp (opIx (.pv p) (.pv (.int (n : Int)))) ⟨sl, h⟩ Q E := by
  cases r with
  | loc h0 _ r =>
    rw [wp_ixG (by simp [h0])]
    have hl := r.length
    simp only [its] at hn
    simp only [listC_loc, h0, lcH_l, oL_some, atI_c, List.getElem?_eq_getElem (show n < _ by rw [hl]; exact hn), ixK_some]
    exact k _ (r.get (by rw [hl]; exact hn) hn)
  | tup _ r =>
    have hl := r.length
    simp only [its] at hn
    simp only [wp_ixT, atI_c, List.getElem?_eq_getElem (show n < _ by rw [hl]; exact hn), ixK_some]
    exact k _ (r.get (by rw [hl]; exact hn) hn)
  | lst _ r =>
    have hl := r.length
    simp only [its] at hn
    simp only [wp_ixL, atI_c, List.getElem?_eq_getElem (show n < _ by rw [hl]; exact hn), ixK_some]
    exact k _ (r.get (by rw [hl]; exact hn) hn)
  | _ => cases hv
end
theorem Rd.kind {h : List CO} {p v : PV} (r : Rd h p v) : isDat v = true := by cases r <;> rfl
def LInv (p q : PV) (xs ys : List PV) (h : List CO) (zs : List PV) (s : CSt) : Prop :=
  ∃ (k m : Nat) (a : SV), zs = rangeP k m ∧ k + m = ys.length ∧ xs.take k = ys.take k ∧ s = ⟨[.pv p, .pv q, a], h⟩
theorem take_last {xs ys : List PV} {k : Nat} (h1 : k < xs.length) (h2 : k < ys.length) (h : xs.take k = ys.take k) (e : xs[k] = ys[k]) : xs.take (k + 1) = ys.take (k + 1) := by
  rw [List.take_add_one, List.take_add_one, h, List.getElem?_eq_getElem h1, List.getElem?_eq_getElem h2, e]
theorem inR_len {n : Nat} (h : n ≤ 16777216) : inR (n : Int) = true := by unfold inR; simp; omega
theorem like_loop {h : List CO} {j : Nat} {p q : PV} {vs ys : List PV} {a : SV} (hv : vs.length = ys.length) (hb : inR (ys.length : Int) = true)
    (ixp : ∀ (k : Nat) (sl : List SV) (Q : RV → CSt → Prop) (E : EQ) (_ : k < vs.length), (∀ x, Rd h x vs[k] → Q (.pv x) ⟨sl, h⟩) → wp (opIx (.pv p) (.pv (.int (k : Int)))) ⟨sl, h⟩ Q E)
    (ixq : ∀ (k : Nat) (sl : List SV) (Q : RV → CSt → Prop) (E : EQ) (_ : k < ys.length), Q (.pv ys[k]) ⟨sl, h⟩ → wp (opIx (.pv q) (.pv (.int (k : Int)))) ⟨sl, h⟩ Q E)
    (ih : ∀ (k : Nat) (_ : k < vs.length) (_ : k < ys.length) (x : PV), Rd h x vs[k] → fa__law_like j [x, ys[k]] h = .ok (.pv (.bl (decide (vs[k] = ys[k])))) h) {b : Bool} (hbq : b = true ↔ vs = ys) :
    kR1 (kFor (gNm 2) (sIf (bNot (tst (eCall (fa__law_like j) (aCons (ePv (e2 opIx (rdVar 0) (rdVar 2))) (aCons (ePv (e2 opIx (rdVar 1) (rdVar 2))) aNil))))) (sRet (kst (PV.bl false))) sNil)
      (kSeq (sRet (kst (PV.bl true))) (kFin fun x => x = FRes.ok (FV.pv (PV.bl b)) h) fun x s' => False) fun x s' => False) (fun x s' => False) [PV.int ys.length] { sl := [SV.pv p, SV.pv q, a], h := h } := by
  rw [kR1_ap hb]
  refine for_inv (LInv p q vs ys h) ⟨0, ys.length, _, by simp, by simp, by simp, rfl⟩ ?_ ?_
  · rintro z zs s ⟨k, m, a, e1, e2', e3, rfl⟩
    cases m with
    | zero => cases e1
    | succ m =>
      rw [rangeP_succ] at e1
      simp only [List.cons.injEq] at e1
      obtain ⟨rfl, rfl⟩ := e1
      have k1 : k < ys.length := by omega
      have k2 : k < vs.length := by omega
      simp -implicitDefEqProofs
      refine ixp k _ _ _ k2 fun x hx => ?_
      simp -implicitDefEqProofs
      refine ixq k _ _ _ k1 ?_
      simp -implicitDefEqProofs [ih k k2 k1 x hx]
      by_cases e4 : vs[k] = ys[k]
      · simp -implicitDefEqProofs [e4]
        exact ⟨k + 1, m, _, by simp, by omega, take_last k2 k1 e3 e4, rfl⟩
      · have hb0 : b = false := by
          cases b with
          | false => rfl
          | true => have := hbq.mp rfl; subst this; exact absurd rfl e4
        simp -implicitDefEqProofs [e4, hb0]
  · rintro s ⟨k, m, a, e1, e2', e3, rfl⟩
    have hm : m = 0 := by
      cases m with
      | zero => rfl
      | succ m => rw [rangeP_succ] at e1; cases e1
    have : vs = ys := by
      rw [List.take_of_length_le (by omega), List.take_of_length_le (by omega)] at e3; exact e3
    simp -implicitDefEqProofs [hbq.mpr this]
theorem like_atom (h : List CO) (j : Nat) (p v q : PV) (hq : pz 0 q = true) (r : Rd h p v) : fa__law_like (j + 1) [p, q] h = .ok (.pv (.bl (decide (v = q)))) h := by
  refine wp_def (R := fun x => x = _) ?_
  simp only [sem__law_like, startC]
  cases q with
  | bl b =>
    simp -implicitDefEqProofs [isiB_rd r]
    cases r <;> simp -implicitDefEqProofs
    rename_i c; cases c <;> cases b <;> rfl
  | str x =>
    have hx : strOk x = true := by simpa using hq
    simp -implicitDefEqProofs [isiS_rd r]
    cases r with
    | str y hy => simp -implicitDefEqProofs [hx, hy]
    | _ => simp -implicitDefEqProofs
  | int i =>
    simp -implicitDefEqProofs [isiI_rd r, isiB_rd r]
    cases r <;> simp -implicitDefEqProofs
  | non =>
    simp -implicitDefEqProofs
    cases r <;> simp -implicitDefEqProofs
  | _ => simp [pz] at hq
theorem like_at (h : List CO) : ∀ (n j : Nat) (p v q : PV), n < j → pz n q = true → Rd h p v → fa__law_like j [p, q] h = .ok (.pv (.bl (decide (v = q)))) h := by
  intro n
  induction n with
  | zero =>
    intro j p v q hj hq r
    cases j with
    | zero => omega
    | succ j => exact like_atom h j p v q hq r
  | succ n ih =>
    intro j p v q hj hq r
    cases j with
    | zero => omega
    | succ j =>
    cases q with
    | tup ys =>
      simp only [pz_tup, Bool.and_eq_true, decide_eq_true_eq, List.all_eq_true] at hq
      refine wp_def (R := fun x => x = _) ?_
      simp only [sem__law_like, startC]
      simp -implicitDefEqProofs [isiT_rd r, isiL_rd r]
      cases r with
      | tup hb r =>
        rename_i ps vs
        have hl := r.length
        simp -implicitDefEqProofs
        by_cases hl2 : (ps.length : Int) = ys.length
        · simp -implicitDefEqProofs [hl2]
          refine like_loop (vs := vs) (ys := ys) (by omega) (inR_len hq.1) ?_ ?_ ?_ (by simp)
          · intro k sl Q E hk f
            have hk2 : k < ps.length := by omega
            simp -implicitDefEqProofs [hk2]
            exact f _ (r.get hk2 hk)
          · intro k sl Q E hk f
            simp -implicitDefEqProofs [hk]
            exact f
          · intro k h1 h2 x hx
            exact ih j x _ _ (by omega) (hq.2 _ (List.getElem_mem h2)) hx
        · simp -implicitDefEqProofs [hl2]
          rintro rfl; exact hl2 (by omega)
      | _ => simp -implicitDefEqProofs
    | lst ys =>
      simp only [pz_lst, Bool.and_eq_true, decide_eq_true_eq, List.all_eq_true] at hq
      refine wp_def (R := fun x => x = _) ?_
      simp only [sem__law_like, startC]
      simp -implicitDefEqProofs [isiT_rd r, isiL_rd r]
      cases r with
      | lst hb r =>
        rename_i ps vs
        have hl := r.length
        simp -implicitDefEqProofs
        by_cases hl2 : (ps.length : Int) = ys.length
        · simp -implicitDefEqProofs [hl2]
          refine like_loop (vs := vs) (ys := ys) (by omega) (inR_len hq.1) ?_ ?_ ?_ (by simp)
          · intro k sl Q E hk f
            have hk2 : k < ps.length := by omega
            simp -implicitDefEqProofs [hk2]
            exact f _ (r.get hk2 hk)
          · intro k sl Q E hk f
            simp -implicitDefEqProofs [hk]
            exact f
          · intro k h1 h2 x hx
            exact ih j x _ _ (by omega) (hq.2 _ (List.getElem_mem h2)) hx
        · simp -implicitDefEqProofs [hl2]
          rintro rfl; exact hl2 (by omega)
      | loc h0 hb r =>
        rename_i l ps vs
        have hl := r.length
        simp -implicitDefEqProofs [isiT_rd (Rd.loc h0 hb r), isiL_rd (Rd.loc h0 hb r), wp_len, h0]
        by_cases hl2 : (ps.length : Int) = ys.length
        · simp -implicitDefEqProofs [hl2]
          refine like_loop (vs := vs) (ys := ys) (by omega) (inR_len hq.1) ?_ ?_ ?_ (by simp)
          · intro k sl Q E hk f
            have hk2 : k < ps.length := by omega
            simp -implicitDefEqProofs [wp_ixG, h0, hk2]
            exact f _ (r.get hk2 hk)
          · intro k sl Q E hk f
            simp -implicitDefEqProofs [hk]
            exact f
          · intro k h1 h2 x hx
            exact ih j x _ _ (by omega) (hq.2 _ (List.getElem_mem h2)) hx
        · simp -implicitDefEqProofs [hl2]
          rintro rfl; exact hl2 (by omega)
      | _ => simp -implicitDefEqProofs
    | loc _ => simp [pz] at hq
    | clo _ _ => simp [pz] at hq
    | _ => exact like_atom h j p v _ (by simpa using hq) r
theorem like_eq {h : List CO} {p v q : PV} (hq : pz 10 q = true) (r : Rd h p v) : fn__law_like [p, q] h = .ok (.pv (.bl (decide (v = q)))) h := like_at h 10 12 p v q (by decide) hq r
end LC

/-! LC3: tables by names, sorting. -/
namespace LC
open PySem CL
open PySem.PyData (strOk)
/-! ### names as keys -/
theorem nks_strs : ∀ n : List Str, nks (n.map .str) = some (n.map .text)
  | [] => rfl
  | x :: n => by rw [List.map_cons, nks, nks_strs n]; rfl
theorem depth_texts : ∀ n : List Str, NestedKey.depthAll (n.map .text) = 0
  | [] => rfl
  | x :: n => by rw [List.map_cons, NestedKey.depthAll, depth_texts n]; rfl
theorem tupK_nm (n : List Str) : tupK (nm n) = some (.tup (n.map .text)) := by
  unfold nm tupK
  simp only
  rw [nk, nks_strs]
  simp [NestedKey.depth, depth_texts]
def NK (kv : List (PV × PV)) : Prop := ∀ q ∈ kv, ∃ n, q.1 = nm n
theorem keyOk_nm {kv : List (PV × PV)} {n : List Str} (h : NK kv) : keyOk kv (nm n) = true := by
  cases kv with
  | nil => simp [keyOk, tupK_nm]
  | cons q kv =>
    obtain ⟨m, e⟩ := h q (List.mem_cons_self ..)
    simp [keyOk, e, tupK_nm]
theorem NK.put {kv : List (PV × PV)} {n : List Str} {v : PV} (h : NK kv) : NK (dput kv (nm n) v) := by
  intro q hq
  unfold dput at hq
  split at hq
  · obtain ⟨r, hr, rfl⟩ := List.mem_map.mp hq
    split
    · exact ⟨_, (h r hr).choose_spec⟩
    · exact h r hr
  · rcases List.mem_append.mp hq with z | z
    · exact h q z
    · rw [List.mem_singleton.mp z]; exact ⟨n, rfl⟩
theorem NK.del {kv : List (PV × PV)} {p : PV} (h : NK kv) : NK (ddel kv p) := fun q hq => h q (List.mem_filter.mp hq).1
/-! ### tables, whatever their keys -/
theorem dput_len {kv : List (PV × PV)} {p v : PV} : (dput kv p v).length ≤ kv.length + 1 := by
  unfold dput; split <;> simp
theorem ddel_len {kv : List (PV × PV)} {p : PV} : (ddel kv p).length ≤ kv.length := List.length_filter_le ..
theorem dput_all {P : PV × PV → Prop} {kv : List (PV × PV)} {p v : PV} (h : ∀ q ∈ kv, P q) (h2 : ∀ w, (p, w) ∈ kv → P (p, v)) (h3 : P (p, v)) : ∀ q ∈ dput kv p v, P q := by
  intro q hq
  unfold dput at hq
  split at hq
  · obtain ⟨r, hr, rfl⟩ := List.mem_map.mp hq
    split
    · rename_i e; rw [e]; exact h3
    · exact h r hr
  · rcases List.mem_append.mp hq with z | z
    · exact h q z
    · rw [List.mem_singleton.mp z]; exact h3
theorem ddel_all {P : PV × PV → Prop} {kv : List (PV × PV)} {p : PV} (h : ∀ q ∈ kv, P q) : ∀ q ∈ ddel kv p, P q := fun q hq => h q (List.mem_filter.mp hq).1
def NDK (kv : List (PV × PV)) : Prop := (kv.map (·.1)).Nodup
theorem any_key {kv : List (PV × PV)} {p : PV} : (kv.any fun q => decide (q.1 = p)) = true ↔ p ∈ kv.map (·.1) := by
  simp only [List.any_eq_true, decide_eq_true_eq, List.mem_map]
theorem map_put_keys {kv : List (PV × PV)} {p v : PV} : (kv.map fun q => if q.1 = p then (q.1, v) else q).map (·.1) = kv.map (·.1) := by
  rw [List.map_map]; apply List.map_congr_left; intro q _; simp only [Function.comp]; split <;> rfl
theorem NDK.put {kv : List (PV × PV)} {p v : PV} (h : NDK kv) : NDK (dput kv p v) := by
  unfold dput NDK
  split
  · rw [map_put_keys]; exact h
  · rename_i e
    rw [any_key] at e
    rw [List.map_append, List.nodup_append]
    refine ⟨h, by simp, fun a ha b hb z => ?_⟩
    simp at hb; subst hb; subst z; exact e ha
theorem NDK.del {kv : List (PV × PV)} {p : PV} (h : NDK kv) : NDK (ddel kv p) := by
  unfold NDK ddel
  exact List.Nodup.sublist (List.Sublist.map _ List.filter_sublist) h
theorem NDK.perm {kv kv' : List (PV × PV)} (h : NDK kv) (p : kv.Perm kv') : NDK kv' := (p.map _).nodup_iff.mp h
theorem dget_mem {kv : List (PV × PV)} {p v : PV} (h : NDK kv) : dget kv p = some v ↔ (p, v) ∈ kv := by
  induction kv with
  | nil => simp [dget]
  | cons q kv ih =>
    obtain ⟨a, b⟩ := q
    unfold NDK at h
    rw [List.map_cons, List.nodup_cons] at h
    have ih := ih h.2
    unfold dget at ih ⊢
    rw [List.find?_cons]
    by_cases e : a = p
    · subst e
      simp only [decide_true, Option.map_some, Option.some.injEq, List.mem_cons, Prod.mk.injEq, true_and]
      constructor
      · rintro rfl; exact .inl rfl
      · rintro (z | z)
        · exact z.symm
        · exact absurd (List.mem_map.mpr ⟨_, z, rfl⟩) h.1
    · simp only [e, decide_false, List.mem_cons, Prod.mk.injEq]
      rw [ih]
      constructor
      · exact .inr
      · rintro (⟨z, _⟩ | z)
        · exact absurd z.symm e
        · exact z
theorem dget_perm {kv kv' : List (PV × PV)} {p : PV} (h : NDK kv) (e : kv.Perm kv') : dget kv p = dget kv' p := by
  have h' := h.perm e
  cases z : dget kv p with
  | some v => exact ((dget_mem h').mpr (e.mem_iff.mp ((dget_mem h).mp z))).symm
  | none =>
    cases y : dget kv' p with
    | none => rfl
    | some v =>
      have := (dget_mem h).mpr (e.mem_iff.mpr ((dget_mem h').mp y))
      rw [z] at this; cases this
theorem dput_perm {kv kv' : List (PV × PV)} {p v : PV} (e : kv.Perm kv') : (dput kv p v).Perm (dput kv' p v) := by
  unfold dput
  have : (kv.any fun q => decide (q.1 = p)) = (kv'.any fun q => decide (q.1 = p)) := by
    rw [Bool.eq_iff_iff, any_key, any_key]; exact (e.map _).mem_iff
  rw [this]
  split
  · exact e.map _
  · exact e.append_right _
theorem ddel_perm {kv kv' : List (PV × PV)} {p : PV} (e : kv.Perm kv') : (ddel kv p).Perm (ddel kv' p) := e.filter _
theorem dget_none {kv : List (PV × PV)} {p : PV} : dget kv p = none ↔ p ∉ kv.map (·.1) := by
  unfold dget
  rw [Option.map_eq_none_iff, List.find?_eq_none]
  simp only [decide_eq_true_eq, List.mem_map, not_exists, not_and]
theorem ddel_none {kv : List (PV × PV)} {p : PV} (h : dget kv p = none) : ddel kv p = kv := by
  unfold ddel
  rw [List.filter_eq_self]
  intro q hq
  rw [dget_none] at h
  simp only [decide_eq_true_eq, ne_eq]
  exact fun z => h (List.mem_map.mpr ⟨q, hq, z⟩)
theorem dputs_nd : ∀ (kv acc : List (PV × PV)), NDK (acc ++ kv) → dputs acc kv = acc ++ kv
  | [], acc, _ => by simp [dputs]
  | q :: kv, acc, h => by
    have e : dput acc q.1 q.2 = acc ++ [q] := by
      unfold dput
      rw [if_neg]
      rw [any_key]
      intro z
      unfold NDK at h
      rw [List.map_append, List.nodup_append] at h
      exact h.2.2 _ z q.1 (by simp) rfl
    show dputs (dput acc q.1 q.2) kv = _
    rw [e, dputs_nd kv (acc ++ [q]) (by rw [List.append_assoc]; exact h), List.append_assoc]; rfl
theorem dputs_nil {kv : List (PV × PV)} (h : NDK kv) : dputs [] kv = kv := by rw [dputs_nd kv [] (by simpa using h)]; rfl
/-! ### small tables, written out -/
@[simp] theorem dget_nil {k : PV} : dget [] k = none := rfl
@[simp] theorem dget_cons {a b k : PV} {r : List (PV × PV)} : dget ((a, b) :: r) k = if a = k then some b else dget r k := by
  unfold dget; rw [List.find?_cons]; by_cases e : a = k <;> simp [e]
@[simp] theorem dput_nil {k v : PV} : dput [] k v = [(k, v)] := rfl
@[simp] theorem dput_cons_ne {a b k v : PV} {r : List (PV × PV)} (h : ¬ a = k) : dput ((a, b) :: r) k v = (a, b) :: dput r k v := by
  unfold dput; rw [List.any_cons]; simp only [h, decide_false, Bool.false_or]; split <;> simp [h]
@[simp] theorem keyOk_str {a k : Str} {b : PV} {r : List (PV × PV)} : keyOk ((.str a, b) :: r) (.str k) = true := by simp [keyOk, leafK]
@[simp] theorem dputs_nil1 {acc : List (PV × PV)} : dputs acc [] = acc := rfl
@[simp] theorem dputs_cons1 {acc kv : List (PV × PV)} {q : PV × PV} : dputs acc (q :: kv) = dputs (dput acc q.1 q.2) kv := rfl
/-! ### sorting -/
def unP (p : PV) : PV × PV := (pairOf p).getD (.non, .non)
@[simp] theorem unP_mk {q : PV × PV} : unP (mkP q) = q := rfl
def sortKV (kv : List (PV × PV)) : List (PV × PV) := (sortPV (kv.map mkP)).map unP
theorem sortPV_perm (ps : List PV) : (sortPV ps).Perm ps := List.mergeSort_perm ..
theorem sortKV_mk (kv : List (PV × PV)) : sortPV (kv.map mkP) = (sortKV kv).map mkP := by
  unfold sortKV
  rw [List.map_map]
  have : ∀ p ∈ sortPV (kv.map mkP), mkP (unP p) = p := fun p hp => by
    obtain ⟨q, _, rfl⟩ := List.mem_map.mp ((sortPV_perm _).mem_iff.mp hp)
    rfl
  conv => lhs; rw [← List.map_id (sortPV (kv.map mkP))]
  exact List.map_congr_left fun p hp => (this p hp).symm
theorem sortKV_perm (kv : List (PV × PV)) : (sortKV kv).Perm kv := by
  have := (sortPV_perm (kv.map mkP)).map unP
  rw [List.map_map] at this
  have e : kv.map (unP ∘ mkP) = kv := by
    conv => rhs; rw [← List.map_id kv]
    exact List.map_congr_left fun q _ => rfl
  rw [e] at this
  exact this
def le1 : PV → PV → Bool := PySem.W.dataLe false dOf
theorem le1_def {p q : PV} : le1 p q = !PyProof.Rows.lexLt PyProof.Rows.itemOrd (PySem.W.keyToks (dOf q)) (PySem.W.keyToks (dOf p)) := rfl
theorem le1_trans : ∀ a b c : PV, le1 a b = true → le1 b c = true → le1 a c = true := (PySem.W.sortLe_total (PyProof.Rows.listOrd PyProof.Rows.itemOrd) false fun b => PySem.W.keyToks (dOf b)).trans
theorem le1_total : ∀ a b : PV, (le1 a b || le1 b a) = true := fun a b => by
  rw [Bool.or_eq_true]
  exact (PySem.W.sortLe_total (PyProof.Rows.listOrd PyProof.Rows.itemOrd) false fun b => PySem.W.keyToks (dOf b)).total a b
theorem le1_anti {p q : PV} (h1 : le1 p q = true) (h2 : le1 q p = true) : PySem.W.keyToks (dOf p) = PySem.W.keyToks (dOf q) := by
  rw [le1_def, Bool.not_eq_true'] at h1 h2
  exact (PyProof.Rows.listOrd PyProof.Rows.itemOrd).total _ _ h2 h1
theorem sortPV_sorted (ps : List PV) : List.Pairwise (fun a b => le1 a b = true) (sortPV ps) := List.pairwise_mergeSort le1_trans le1_total ps
/-- values told apart by their sorting -/
def TokInj (ps : List PV) : Prop := ∀ p ∈ ps, ∀ q ∈ ps, PySem.W.keyToks (dOf p) = PySem.W.keyToks (dOf q) → p = q
theorem sortPV_eq {ps qs : List PV} (h : TokInj ps) (e : ps.Perm qs) : sortPV ps = sortPV qs := by
  refine List.Perm.eq_of_pairwise (le := fun a b => le1 a b = true) (fun a b ha hb h1 h2 => ?_) (sortPV_sorted ps) (sortPV_sorted qs) ((sortPV_perm ps).trans (e.trans (sortPV_perm qs).symm))
  exact h a ((sortPV_perm ps).mem_iff.mp ha) b (e.mem_iff.mpr ((sortPV_perm qs).mem_iff.mp hb)) (le1_anti h1 h2)
theorem sortPV_self {ps : List PV} (h : TokInj ps) (e : List.Pairwise (fun a b => le1 a b = true) ps) : sortPV ps = ps :=
  List.Perm.eq_of_pairwise (le := fun a b => le1 a b = true) (fun a b ha hb h1 h2 => h a ((sortPV_perm ps).mem_iff.mp ha) b hb (le1_anti h1 h2)) (sortPV_sorted ps) e (sortPV_perm ps)
end LC

/-! LC4: entries: names and numbers, sorted. -/
namespace LC
open PySem CL
open PySem.PyData (strOk)
def okS (n : List Str) : Prop := ∀ x ∈ n, strOk x = true
theorem cl_nm {n : List Str} {k : Nat} (h : okS n) : cl (k + 1) (nm n) = true := by
  unfold nm; rw [cl_tup, List.all_map, List.all_eq_true]; exact fun x hx => by simpa using h x hx
theorem pl_nm {n : List Str} {k : Nat} (h : okS n) : pl (k + 1) (nm n) = true := pl_of_cl (cl_nm h)
theorem pz_nm {n : List Str} {k : Nat} (h : okS n) (hl : n.length ≤ 16777216) : pz (k + 1) (nm n) = true := by
  unfold nm; rw [pz_tup, List.all_map, Bool.and_eq_true, List.all_eq_true]; exact ⟨by simpa using hl, fun x hx => by simpa using h x hx⟩
theorem dOf_nm {n : List Str} (h : okS n) : dOf (nm n) = .tuple (n.map .str) := by
  have := dOf_tup (n := 0) (xs := n.map PV.str) (by rw [List.all_map, List.all_eq_true]; exact fun x hx => by simpa using h x hx)
  unfold nm; rw [this, List.map_map]; rfl
theorem nm_inj {n m : List Str} (h : nm n = nm m) : n = m := by
  unfold nm at h
  simp only [PV.tup.injEq] at h
  exact (List.map_inj_right (fun x y e => by cases e; rfl)).mp h
/-- an entry -/
def entP (p : PV) : Prop := ∃ n v, okS n ∧ p = .tup [nm n, .int v]
def ENT (kv : List (PV × PV)) : Prop := ∀ q ∈ kv, ∃ n v, okS n ∧ q = (nm n, .int v)
theorem ENT.nk {kv : List (PV × PV)} (h : ENT kv) : NK kv := fun q hq => by obtain ⟨n, v, _, rfl⟩ := h q hq; exact ⟨n, rfl⟩
theorem dOf_ent {n : List Str} {v : Int} (h : okS n) : dOf (.tup [nm n, .int v]) = .tuple [.tuple (n.map .str), .int v] := by
  rw [dOf_tup (n := 1) (by simp [pl_nm h]), List.map_cons, dOf_nm h]; rfl
theorem toks_names : ∀ (n m : List Str) (s t : List (Int ⊕ List Nat)), PySem.W.keyToksAll (n.map .str) ++ s = PySem.W.keyToksAll (m.map .str) ++ t → n = m ∧ s = t
  | [], [], s, t, h => by
    simp only [List.map_nil, PySem.W.keyToksAll, List.cons_append, List.nil_append, List.cons.injEq, true_and] at h
    exact ⟨rfl, h⟩
  | [], y :: m, s, t, h => by simp [PySem.W.keyToksAll] at h
  | x :: n, [], s, t, h => by simp [PySem.W.keyToksAll] at h
  | x :: n, y :: m, s, t, h => by
    simp only [List.map_cons, PySem.W.keyToksAll, PySem.W.keyToks, List.cons_append, List.nil_append, List.cons.injEq, Sum.inr.injEq, true_and] at h
    obtain ⟨h1, h2⟩ := toks_names n m s t h.2
    rw [PySem.W.str_of_cps h.1, h1, h2]; exact ⟨rfl, rfl⟩
theorem ent_inj {n m : List Str} {v u : Int} (h1 : okS n) (h2 : okS m) (h : PySem.W.keyToks (dOf (.tup [nm n, .int v])) = PySem.W.keyToks (dOf (.tup [nm m, .int u]))) : n = m ∧ v = u := by
  rw [dOf_ent h1, dOf_ent h2] at h
  simp only [PySem.W.keyToks, PySem.W.keyToksAll, List.cons.injEq, true_and] at h
  obtain ⟨a, b⟩ := toks_names _ _ _ _ h
  simp at b
  exact ⟨a, b⟩
theorem ENT.toks {kv : List (PV × PV)} (h : ENT kv) : TokInj (kv.map mkP) := by
  intro p hp q hq e
  obtain ⟨a, ha, rfl⟩ := List.mem_map.mp hp
  obtain ⟨b, hb, rfl⟩ := List.mem_map.mp hq
  obtain ⟨n, v, h1, rfl⟩ := h a ha
  obtain ⟨m, u, h2, rfl⟩ := h b hb
  obtain ⟨rfl, rfl⟩ := ent_inj h1 h2 e
  rfl
theorem alike_strs : ∀ n m : List Str, PySem.W.alikeAll (n.map .str) (m.map .str) = true
  | [], _ => by simp [PySem.W.alikeAll]
  | _ :: _, [] => by simp [PySem.W.alikeAll]
  | x :: n, y :: m => by
    simp only [List.map_cons, PySem.W.alikeAll, PySem.W.alike, Bool.true_and]
    exact alike_strs n m
theorem depth_strs : ∀ n : List Str, PyData.depthAll (n.map .str) = 0
  | [] => rfl
  | x :: n => by rw [List.map_cons, PyData.depthAll, depth_strs n]; rfl
theorem ENT.sortOk {kv : List (PV × PV)} (h : ENT kv) : CL.sortOk (kv.map mkP) = true := by
  have key : ∀ p ∈ kv.map mkP, ∃ n v, okS n ∧ p = .tup [nm n, .int v] := fun p hp => by
    obtain ⟨a, ha, rfl⟩ := List.mem_map.mp hp
    obtain ⟨n, v, h1, rfl⟩ := h a ha
    exact ⟨n, v, h1, rfl⟩
  unfold CL.sortOk
  rw [Bool.and_eq_true, Bool.and_eq_true, List.all_eq_true, List.all_eq_true]
  refine ⟨⟨fun p hp => ?_, fun p hp => ?_⟩, ?_⟩
  · obtain ⟨n, v, h1, rfl⟩ := key p hp
    rw [Bool.and_eq_true]
    refine ⟨?_, ?_⟩
    · have := pl_toD (n := 20) (p := .tup [nm n, .int v]) (by simp [pl_nm h1])
      obtain ⟨d, e, _⟩ := this
      rw [e]; rfl
    · rw [dOf_ent h1, decide_eq_true_eq]
      simp [PyData.depth, PyData.depthAll, depth_strs]
  · rw [List.all_eq_true]
    intro q hq
    obtain ⟨n, v, h1, rfl⟩ := key p hp
    obtain ⟨m, u, h2, rfl⟩ := key q hq
    rw [dOf_ent h1, dOf_ent h2]
    simp [PySem.W.alike, PySem.W.alikeAll, alike_strs]
  · rw [Bool.or_eq_true]; left
    rw [List.all_eq_true]
    intro p hp
    obtain ⟨n, v, h1, rfl⟩ := key p hp
    rfl
theorem ENT.perm {kv kv' : List (PV × PV)} (h : ENT kv) (e : kv.Perm kv') : ENT kv' := fun q hq => h q (e.mem_iff.mpr hq)
theorem ENT.put {kv : List (PV × PV)} {n : List Str} {v : Int} (h : ENT kv) (hn : okS n) : ENT (dput kv (nm n) (.int v)) :=
  dput_all h (fun _ _ => ⟨n, v, hn, rfl⟩) ⟨n, v, hn, rfl⟩
theorem ENT.del {kv : List (PV × PV)} {p : PV} (h : ENT kv) : ENT (ddel kv p) := ddel_all h
theorem ENT.sort {kv : List (PV × PV)} (h : ENT kv) : ENT (sortKV kv) := h.perm (sortKV_perm kv).symm
theorem NDK.sort {kv : List (PV × PV)} (h : NDK kv) : NDK (sortKV kv) := h.perm (sortKV_perm kv).symm
theorem ENT.sort_eq {kv kv' : List (PV × PV)} (h : ENT kv) (e : kv.Perm kv') : sortPV (kv.map mkP) = sortPV (kv'.map mkP) := sortPV_eq h.toks (e.map _)
theorem ENT.pairsOk {kv : List (PV × PV)} (h : ENT kv) : CL.pairsOk kv = true := by
  unfold CL.pairsOk
  rw [Bool.or_eq_true]; right
  rw [List.all_eq_true]
  intro q hq
  obtain ⟨n, v, _, rfl⟩ := h q hq
  simp [tupK_nm]
theorem ENT.dget {kv : List (PV × PV)} {p q : PV} (h : ENT kv) (e : CL.dget kv p = some q) : ∃ v, q = .int v := by
  unfold CL.dget at e
  rw [Option.map_eq_some_iff] at e
  obtain ⟨r, h1, rfl⟩ := e
  obtain ⟨n, v, _, rfl⟩ := h r (List.mem_of_find?_eq_some h1)
  exact ⟨v, rfl⟩
theorem ENT.dcase {kv : List (PV × PV)} (h : ENT kv) (p : PV) : CL.dget kv p = none ∨ ∃ v, CL.dget kv p = some (.int v) := by
  cases e : CL.dget kv p with
  | none => exact .inl rfl
  | some q => obtain ⟨v, rfl⟩ := h.dget e; exact .inr ⟨v, rfl⟩
theorem ENT.pz {kv : List (PV × PV)} {k : Nat} (h : ENT kv) (hl : kv.length ≤ 16777216) (hn : ∀ q ∈ kv, ∀ n, q.1 = nm n → n.length ≤ 16777216) : LC.pz (k + 3) (.lst (kv.map mkP)) = true := by
  rw [pz_lst, Bool.and_eq_true, List.all_map, List.all_eq_true]
  refine ⟨by simpa using hl, fun q hq => ?_⟩
  obtain ⟨n, v, h1, rfl⟩ := h q hq
  simp [mkP, pz_nm h1 (hn _ hq n rfl)]
theorem ENT.cl {kv : List (PV × PV)} {k : Nat} (h : ENT kv) : CL.cl (k + 3) (.lst (kv.map mkP)) = true := by
  rw [cl_lst, List.all_map, List.all_eq_true]
  intro q hq
  obtain ⟨n, v, h1, rfl⟩ := h q hq
  simp [mkP, cl_nm h1]
/-- the items of a table, sorted -/
theorem wp_sortE {Q : RV → CSt → Prop} {E : EQ} {s : CSt} {x : RV} (h1 : idC (contC s x) = true) (h2 : ENT (dcO (contC s x))) : wp (opSortI x) s Q E = Q (.own (.list ((sortKV (dcO (contC s x))).map mkP))) s := by
  rw [wp_sortI h1 h2.sortOk, sortKV_mk]
/-- dict(entries) -/
theorem wp_dictE {Q : RV → CSt → Prop} {E : EQ} {s : CSt} {kv : List (PV × PV)} (h : ENT kv) (hd : NDK kv) : wp (opDictP (.pv (.lst (kv.map mkP)))) s Q E = Q (.own (.dict kv)) s := by
  rw [wp_dictP h.pairsOk, dputs_nil hd]
end LC

/-! LC5: what more laws have: enumerated lists, labels by their signs. -/
namespace LC
open PySem CL

def enF : Nat → List PV → List PV
  | _, [] => []
  | k, r :: rs => .tup [.int k, r] :: enF (k + 1) rs
theorem enumP_enF (xs : List PV) : enumP xs = enF 0 xs := by
  have key : ∀ (ys : List PV) (k : Nat), (∀ i, i < ys.length → xs.getD (k + i) .non = ys.getD i .non) → enF k ys = (List.range ys.length).map fun i : Nat => .tup [.int ((k + i : Nat) : Int), xs.getD (k + i) .non] := by
    intro ys
    induction ys with
    | nil => intro k _; rfl
    | cons y ys ih =>
      intro k h
      rw [List.length_cons, List.range_succ_eq_map, List.map_cons, List.map_map, enF, ih (k + 1) fun i hi => ?_]
      · refine List.cons_eq_cons.mpr ⟨?_, ?_⟩
        · have h0 := h 0 (by simp)
          simp only [Nat.add_zero] at h0 ⊢
          rw [h0]; rfl
        apply List.map_congr_left; intro i _
        simp only [Function.comp, Nat.succ_eq_add_one]
        rw [show k + 1 + i = k + (i + 1) by omega]
      · have := h (i + 1) (by simp; omega)
        rw [show k + 1 + i = k + (i + 1) by omega, this]; rfl
  rw [key xs 0 (fun i _ => by rw [Nat.zero_add])]
  unfold enumP
  apply List.map_congr_left; intro i _; simp
/-- a small letter -/
def lowC (c : Nat) : Bool := decide (97 ≤ c) && decide (c ≤ 122)
theorem low_lt : ∀ c ∈ (Str.ofString "abcdefghijklmnopqrstuvwxyz").cps.toList, c < 128 := by decide +kernel
theorem low_all : ∀ c < 128, isLow c = lowC c := by decide +kernel
theorem low_eq (c : Nat) : isLow c = lowC c := by
  by_cases h : c < 128
  · exact low_all c h
  · have h1 : isLow c = false := by
      unfold isLow
      rw [decide_eq_false_iff_not]
      exact fun z => h (low_lt c (Array.mem_toList_iff.mpr z))
    have h2 : lowC c = false := by unfold lowC; simp; omega
    rw [h1, h2]
theorem isLabel_tx (l : List Nat) : isLabel (sv l) = (decide (1 ≤ l.length) && decide (l.length ≤ 3) && l.all lowC) := by
  unfold isLabel sv
  simp only [tx_len, tx_cps]
  have : isLow = lowC := funext low_eq
  rw [this]
theorem set_last {α : Type} {h : List α} {a b : α} : (h ++ [a]).set h.length b = h ++ [b] := by
  rw [List.set_append_right _ _ (Nat.le_refl _)]; simp
/-! ### sets of texts -/
theorem setOk_sv {ls : List (List Nat)} (h : ls.length < 4096) : setOk (ls.map sv) = true := by
  unfold setOk; rw [strsP_sv]; simp [h]
theorem dedup_sub {ps : List PV} : ∀ p ∈ dedup ps, p ∈ ps := fun p h => dedup_mem.mp h
theorem sortOk_str {ps : List PV} (h : ∀ p ∈ ps, ∃ x, p = .str x) : sortOk ps = true := by
  unfold sortOk
  simp only [Bool.and_eq_true, List.all_eq_true, Bool.or_eq_true]
  refine ⟨⟨fun p hp => ?_, fun p hp q hq => ?_⟩, .inr fun p hp => ?_⟩
  · obtain ⟨x, rfl⟩ := h p hp; exact ⟨rfl, rfl⟩
  · obtain ⟨x, rfl⟩ := h p hp; obtain ⟨y, rfl⟩ := h q hq; rfl
  · obtain ⟨x, rfl⟩ := h p hp; simp [isTupP]
theorem sorted_set_sv {ls : List (List Nat)} (h : ls ≠ []) : ∃ ls' : List (List Nat), sortPV (dedup (ls.map sv)) = ls'.map sv ∧ (∀ l ∈ ls', l ∈ ls) ∧ ls' ≠ [] ∧ ls'.length ≤ ls.length := by
  have m : ∀ p ∈ sortPV (dedup (ls.map sv)), ∃ l ∈ ls, p = sv l := fun p hp => by
    have := dedup_mem.mp ((sortP_perm _).mem_iff.mp hp)
    obtain ⟨l, hl, rfl⟩ := List.mem_map.mp this
    exact ⟨l, hl, rfl⟩
  have key : ∀ ps : List PV, (∀ p ∈ ps, ∃ l ∈ ls, p = sv l) → ∃ ls' : List (List Nat), ps = ls'.map sv ∧ ∀ l ∈ ls', l ∈ ls := by
    intro ps
    induction ps with
    | nil => exact fun _ => ⟨[], rfl, fun _ h => by cases h⟩
    | cons p ps ih =>
      intro h
      obtain ⟨l, hl, rfl⟩ := h p (List.mem_cons_self ..)
      obtain ⟨ls', rfl, h2⟩ := ih fun q hq => h q (List.mem_cons_of_mem _ hq)
      exact ⟨l :: ls', rfl, fun x hx => (List.mem_cons.mp hx).elim (fun e => e ▸ hl) (h2 x)⟩
  obtain ⟨ls', e, h2⟩ := key _ m
  refine ⟨ls', e, h2, ?_, ?_⟩
  · rintro rfl
    cases ls with
    | nil => exact h rfl
    | cons l ls =>
      have : sv l ∈ sortPV (dedup ((l :: ls).map sv)) := (sortP_perm _).mem_iff.mpr (dedup_mem.mpr (by simp))
      rw [e] at this; cases this
  · have e1 := congrArg List.length e
    rw [(sortP_perm _).length_eq, List.length_map] at e1
    rw [← e1]
    have : ∀ ps : List PV, (dedup ps).length ≤ ps.length := by
      intro ps
      induction ps with
      | nil => exact Nat.le_refl _
      | cons p ps ih => rw [dedup]; split <;> simp <;> omega
    have := this (ls.map sv)
    simpa using this
/-- a label's letters -/
def labC (l : List Nat) : Bool := decide (1 ≤ l.length) && decide (l.length ≤ 3) && l.all lowC
def sem__law_labels : CM Fl :=
  (sSeq (sAsg (ePv (kst (.str "abcdefghijklmnopqrstuvwxyz"))) (gNm 1))
  (sSeq (sOwn 2 (eLst aNil))
  (sSeq (sFor (iRange1 (aCons (ePv (e2 opAdd (kst (.int 2)) (eCall fn__law_next (aCons (ePv (rdVar 0)) (aCons (ePv (kst (.int 3))) aNil))))) aNil)) (gNm 3) (sExpr (eBm isList lAppend (rdVar 2) (aCons (ePv (eBm isStr strJoin (kst (.str "")) (aCons (ePv (eComp [4] (iRange1 (aCons (ePv (e2 opAdd (kst (.int 1)) (eCall fn__law_next (aCons (ePv (rdVar 0)) (aCons (ePv (kst (.int 3))) aNil))))) aNil)) (gNm 4) bTrue (ePv (e2 opIx (rdVar 1) (eCall fn__law_next (aCons (ePv (rdVar 0)) (aCons (ePv (kst (.int 26))) aNil))))))) aNil))) aNil))))
  (sRet (e1 opSortSet (e2 opAdd (rdVar 2) (eLst (aCons (ePv (kst (.str "q"))) aNil))))))))
def fn__law_labels : FSem := runDef 5 sem__law_labels
def abc : List Nat := (Str.ofString "abcdefghijklmnopqrstuvwxyz").cps.toList
theorem abc_S : Str.ofString "abcdefghijklmnopqrstuvwxyz" = tx abc := (SX.S_tl _).symm
theorem abc_len : abc.length = 26 := by decide +kernel
theorem abc_low : ∀ c ∈ abc, lowC c = true := by decide +kernel
def LbInv (ns : List Int) (t : CO) (r : List CO) (ys : List PV) (s : CSt) : Prop := ∃ (D : Dice) (ls : List (List Nat)) (a3 a4 : SV), ls.length + ys.length ≤ 4 ∧ (∀ l ∈ ls, labC l = true) ∧ s = ⟨[.pv (.loc 1), .pv (sv abc), .own (.list (ls.map sv)), a3, a4], t :: diceO ns D :: r⟩
def LcInv (ns : List Int) (t : CO) (r : List CO) (ls : List (List Nat)) (a3 : SV) (m : Nat) (ys acc : List PV) (s : CSt) : Prop := ∃ (D : Dice) (cs : List Nat), acc = cs.map (fun c => sv [c]) ∧ cs.length + ys.length = m ∧ (∀ c ∈ cs, lowC c = true) ∧ s = ⟨[.pv (.loc 1), .pv (sv abc), .own (.list (ls.map sv)), a3, .emp], t :: diceO ns D :: r⟩
theorem joinL_single : ∀ cs : List Nat, TL.joinL [] (cs.map fun c => [c]) = cs
  | [] => rfl
  | [c] => rfl
  | c :: d :: r => by
    have := joinL_single (d :: r)
    simp only [List.map_cons, TL.joinL] at this ⊢
    rw [this]; rfl
theorem sum_one : ∀ cs : List Nat, ((cs.map fun c => [c]).map List.length).sum = cs.length
  | [] => rfl
  | c :: cs => by
    have := sum_one cs
    simp only [List.map_cons, List.sum_cons, List.length_cons, List.length_nil] at this ⊢
    omega
theorem labels_k (ns : List Int) (D : Dice) (t : CO) (r : List CO) (R : FRes → Prop)
    (k : ∀ (ls : List (List Nat)) (D' : Dice), ls ≠ [] → ls.length ≤ 5 → (∀ l ∈ ls, labC l = true) → R (.ok (.own (.list (ls.map sv))) (t :: diceO ns D' :: r))) : R (fn__law_labels [.loc 1] (t :: diceO ns D :: r)) := by
  refine wp_def ?_
  simp only [sem__law_labels, startC, abc_S]
  simp -implicitDefEqProofs
  refine next_call (by decide) (by decide) fun v D1 h2 h3 => ?_
  simp -implicitDefEqProofs [show inR (2 + v) = true by unfold inR; simp; omega]
  refine for_inv (LbInv ns t r) ⟨D1, [], _, _, by simp; omega, (fun _ h => by cases h), rfl⟩ ?_ ?_
  · rintro p ps s ⟨D2, ls, a3, a4, h4, h5, rfl⟩
    simp only [List.length_cons] at h4
    simp -implicitDefEqProofs
    refine next_call (by decide) (by decide) fun w D3 h6 h7 => ?_
    simp -implicitDefEqProofs [show inR (1 + w) = true by unfold inR; simp; omega]
    refine kComp_inv (LcInv ns t r ls (.pv p) (1 + w).toNat) (by simp; omega) ⟨D3, [], rfl, by simp, (fun _ h => by cases h), by simp [wipeC]⟩ ?_ ?_
    · rintro q qs acc s ⟨D4, cs, rfl, h8, h9, rfl⟩
      simp -implicitDefEqProofs
      refine next_call (by decide) (by decide) fun x D5 h10 h11 => ?_
      obtain ⟨n, rfl⟩ := Int.eq_ofNat_of_zero_le h10
      have hn : n < abc.length := by rw [abc_len]; omega
      simp -implicitDefEqProofs [wp_ixS (l := abc) (by rw [abc_len]; decide), hn]
      refine ⟨D5, cs ++ [abc[n]], by simp, by simp at h8 ⊢; omega, fun c hc => ?_, by simp [wipeC]⟩
      rcases List.mem_append.mp hc with z | z
      · exact h9 c z
      · rw [List.mem_singleton.mp z]; exact abc_low _ (List.getElem_mem hn)
    · rintro acc s ⟨D4, cs, rfl, h8, h9, rfl⟩
      simp only [List.length_nil] at h8
      have e : (cs.map fun c => sv [c]) = (cs.map fun c => [c]).map sv := by simp
      have e0 : Str.ofString "" = tx [] := by decide +kernel
      simp -implicitDefEqProofs
      have hj : ((cs.map fun c => [c]).map List.length).sum + (cs.map fun c => [c]).length * ([] : List Nat).length ≤ 16777216 := by
        rw [sum_one]; simp; omega
      rw [e, e0, wp_joinL hj, joinL_single]
      simp -implicitDefEqProofs [wp_append, show ls.length < 16777216 by omega]
      refine ⟨D4, ls ++ [cs], _, _, by simp; omega, fun l hl => ?_, by rw [List.map_append]; rfl⟩
      rcases List.mem_append.mp hl with z | z
      · exact h5 l z
      · rw [List.mem_singleton.mp z]
        unfold labC
        simp only [Bool.and_eq_true, decide_eq_true_eq, List.all_eq_true]
        exact ⟨⟨by omega, by omega⟩, h9⟩
  · rintro s ⟨D2, ls, a3, a4, h4, h5, rfl⟩
    simp only [List.length_nil] at h4
    have eq : Str.ofString "q" = tx [113] := by decide +kernel
    have e : ls.map sv ++ [.str (Str.ofString "q")] = (ls ++ [[113]]).map sv := by rw [eq]; simp
    obtain ⟨ls', e1, e2, e3, e4⟩ := sorted_set_sv (ls := ls ++ [[113]]) (by simp)
    have s1 := setOk_sv (ls := ls ++ [[113]]) (by simp; omega)
    have s2 : sortOk (dedup ((ls ++ [[113]]).map sv)) = true := sortOk_str fun p hp => by
      obtain ⟨l, _, rfl⟩ := List.mem_map.mp (dedup_mem.mp hp); exact ⟨_, rfl⟩
    simp -implicitDefEqProofs [wp_addL, show ls.length + 1 ≤ 16777216 by omega]
    rw [e, wp_sortSet (by simp) (by simpa using s1) (by simpa using s2)]
    simp only [listC_own, oL_some, e1]
    simp -implicitDefEqProofs
    refine k ls' D2 e3 (by simp at e4; omega) fun l hl => ?_
    rcases List.mem_append.mp (e2 l hl) with z | z
    · exact h5 l z
    · rw [List.mem_singleton.mp z]; decide
end LC

/-! printed by gen.py: the defs of the law in the clean layer -/
namespace K10
open PySem PySem.Spec PyProof.Rows L2 CL
def top (i : Nat) : Stmt := PySem.Challenge.pw_headbook_k10_texts.main.body.getD i (.Pass ⟨0, 0, 0, 0⟩)
abbrev s_is_between : Stmt := top 16
abbrev s_is_label : Stmt := top 17
abbrev s_is_name : Stmt := top 18
abbrev s_word_of : Stmt := top 23
abbrev s_written : Stmt := top 24
abbrev s_name_of : Stmt := top 25
abbrev s_number_of : Stmt := top 26
abbrev s_read : Stmt := top 27
abbrev s__law_dice : Stmt := top 29
abbrev s__law_next : Stmt := top 30
abbrev s__law_like : Stmt := top 31
abbrev s__law_name : Stmt := top 32
abbrev s__law_labels : Stmt := top 33
abbrev s__law_told : Stmt := top 34
abbrev s__law_row : Stmt := top 35
abbrev s__law_changed : Stmt := top 36
abbrev s_law : Stmt := top 37
abbrev s_BadTables___init__ : Stmt := inClass (top 8) 0
abbrev s_BadLog___init__ : Stmt := inClass (top 9) 0
abbrev s_BadText___init__ : Stmt := inClass (top 10) 0
def ki_BadHouse : Nat → Option Bool
  | 1 => some true
  | 2 => some false
  | 3 => some false
  | 4 => some false
  | 5 => some false
  | 6 => some false
  | 7 => some false
  | 8 => some false
  | 9 => some false
  | _ => none
def ki_BadName : Nat → Option Bool
  | 1 => some false
  | 2 => some true
  | 3 => some false
  | 4 => some false
  | 5 => some false
  | 6 => some false
  | 7 => some false
  | 8 => some false
  | 9 => some false
  | _ => none
def ki_BadNumber : Nat → Option Bool
  | 1 => some false
  | 2 => some false
  | 3 => some true
  | 4 => some false
  | 5 => some false
  | 6 => some false
  | 7 => some false
  | 8 => some false
  | 9 => some false
  | _ => none
def ki_NotHome : Nat → Option Bool
  | 1 => some false
  | 2 => some false
  | 3 => some false
  | 4 => some true
  | 5 => some false
  | 6 => some false
  | 7 => some false
  | 8 => some false
  | 9 => some false
  | _ => none
def ki_BadText : Nat → Option Bool
  | 1 => some false
  | 2 => some false
  | 3 => some false
  | 4 => some false
  | 5 => some false
  | 6 => some false
  | 7 => some false
  | 8 => some false
  | 9 => some true
  | _ => none
def ki_BadCut : Nat → Option Bool
  | 1 => some false
  | 2 => some false
  | 3 => some false
  | 4 => some false
  | 5 => some true
  | 6 => some false
  | 7 => some false
  | 8 => some false
  | 9 => some false
  | _ => none
def ki_Full : Nat → Option Bool
  | 1 => some false
  | 2 => some false
  | 3 => some false
  | 4 => some false
  | 5 => some false
  | 6 => some true
  | 7 => some false
  | 8 => some false
  | 9 => some false
  | _ => none
def ki_BadTables : Nat → Option Bool
  | 1 => some false
  | 2 => some false
  | 3 => some false
  | 4 => some false
  | 5 => some false
  | 6 => some false
  | 7 => some true
  | 8 => some false
  | 9 => some false
  | _ => none
def ki_BadLog : Nat → Option Bool
  | 1 => some false
  | 2 => some false
  | 3 => some false
  | 4 => some false
  | 5 => some false
  | 6 => some false
  | 7 => some false
  | 8 => some true
  | 9 => some false
  | _ => none
def ki_ValueError : Nat → Option Bool
  | 1 => some true
  | 2 => some true
  | 3 => some true
  | 4 => some true
  | 5 => some true
  | 6 => some true
  | 7 => some true
  | 8 => some true
  | 9 => some true
  | _ => none
def okx_number : Nat → Bool
  | 7 => true
  | 8 => true
  | _ => false
def okx_row : Nat → Bool
  | 9 => true
  | _ => false
def emB : EM
  | 1 => some true
  | 2 => some true
  | 3 => some true
  | 4 => some true
  | 5 => some true
  | 6 => some true
  | 7 => some true
  | 8 => some true
  | 9 => some true
  | _ => none
def N_is_between : List Str := ["part", "low", "high"]
theorem sc_is_between : FnScope ["part", "low", "high"] ["part", "low", "high"] (defScope s_is_between) := ⟨rfl, rfl, rfl, by decide +kernel, rfl, by decide +kernel, by decide +kernel⟩
def N_is_label : List Str := ["label", "sign"]
theorem sc_is_label : FnScope ["label", "sign"] ["label"] (defScope s_is_label) := ⟨rfl, rfl, rfl, by decide +kernel, rfl, by decide +kernel, by decide +kernel⟩
def N_is_name : List Str := ["name", "label"]
theorem sc_is_name : FnScope ["name", "label"] ["name"] (defScope s_is_name) := ⟨rfl, rfl, rfl, by decide +kernel, rfl, by decide +kernel, by decide +kernel⟩
def N_word_of : List Str := ["name"]
theorem sc_word_of : FnScope ["name"] ["name"] (defScope s_word_of) := ⟨rfl, rfl, rfl, by decide +kernel, rfl, by decide +kernel, by decide +kernel⟩
def N_written : List Str := ["entries", "rows", "name", "number"]
theorem sc_written : FnScope ["entries", "rows", "name", "number"] ["entries"] (defScope s_written) := ⟨rfl, rfl, rfl, by decide +kernel, rfl, by decide +kernel, by decide +kernel⟩
def N_name_of : List Str := ["word", "found"]
theorem sc_name_of : FnScope ["word", "found"] ["word"] (defScope s_name_of) := ⟨rfl, rfl, rfl, by decide +kernel, rfl, by decide +kernel, by decide +kernel⟩
def N_number_of : List Str := ["word", "sign"]
theorem sc_number_of : FnScope ["word", "sign"] ["word"] (defScope s_number_of) := ⟨rfl, rfl, rfl, by decide +kernel, rfl, by decide +kernel, by decide +kernel⟩
def N_read : List Str := ["text", "found", "row", "line", "words"]
theorem sc_read : FnScope ["text", "found", "row", "line", "words"] ["text"] (defScope s_read) := ⟨rfl, rfl, rfl, by decide +kernel, rfl, by decide +kernel, by decide +kernel⟩
def N__law_dice : List Str := ["_law_script", "_law_mixed", "_law_cell"]
theorem sc__law_dice : FnScope ["_law_script", "_law_mixed", "_law_cell"] ["_law_script"] (defScope s__law_dice) := ⟨rfl, rfl, rfl, by decide +kernel, rfl, by decide +kernel, by decide +kernel⟩
def N__law_next : List Str := ["_law_dice_here", "_law_many", "_law_found", "_law_cell"]
theorem sc__law_next : FnScope ["_law_dice_here", "_law_many", "_law_found", "_law_cell"] ["_law_dice_here", "_law_many"] (defScope s__law_next) := ⟨rfl, rfl, rfl, by decide +kernel, rfl, by decide +kernel, by decide +kernel⟩
def N__law_like : List Str := ["_law_found", "_law_due", "_law_k"]
theorem sc__law_like : FnScope ["_law_found", "_law_due", "_law_k"] ["_law_found", "_law_due"] (defScope s__law_like) := ⟨rfl, rfl, rfl, by decide +kernel, rfl, by decide +kernel, by decide +kernel⟩
def N__law_name : List Str := ["_law_d", "_law_labels_here", "_law_k"]
theorem sc__law_name : FnScope ["_law_d", "_law_labels_here", "_law_k"] ["_law_d", "_law_labels_here"] (defScope s__law_name) := ⟨rfl, rfl, rfl, by decide +kernel, rfl, by decide +kernel, by decide +kernel⟩
def N__law_labels : List Str := ["_law_d", "_law_every", "_law_found", "_law_k", "_law_j"]
theorem sc__law_labels : FnScope ["_law_d", "_law_every", "_law_found", "_law_k", "_law_j"] ["_law_d"] (defScope s__law_labels) := ⟨rfl, rfl, rfl, by decide +kernel, rfl, by decide +kernel, by decide +kernel⟩
def N__law_row : List Str := ["_law_line", "_law_words", "_law_k", "_law_labels_here", "_law_label", "_law_sign"]
theorem sc__law_row : FnScope ["_law_line", "_law_words", "_law_k", "_law_labels_here", "_law_label", "_law_sign"] ["_law_line"] (defScope s__law_row) := ⟨rfl, rfl, rfl, by decide +kernel, rfl, by decide +kernel, by decide +kernel⟩
def N__law_changed : List Str := ["_law_d", "_law_text", "_law_rows", "_law_k", "_law_words", "_law_j", "_law_odd", "_law_way", "_law_new", "_law_line", "_law_place", "_law_every"]
theorem sc__law_changed : FnScope ["_law_d", "_law_text", "_law_rows", "_law_k", "_law_words", "_law_j", "_law_odd", "_law_way", "_law_new", "_law_line", "_law_place", "_law_every"] ["_law_d", "_law_text"] (defScope s__law_changed) := ⟨rfl, rfl, rfl, by decide +kernel, rfl, by decide +kernel, by decide +kernel⟩
def N_law : List Str := ["_law_script", "_law_d", "_law_turn", "_law_labels_here", "_law_entries", "_law_k", "_law_words", "_law_text", "_law_handed", "_law_change", "_law_some", "_law_due", "_law_at", "_law_odd", "_law_bad", "_law_word", "_law_worse", "_law_name_here", "_law_number", "_law_line"]
theorem sc_law : FnScope ["_law_script", "_law_d", "_law_turn", "_law_labels_here", "_law_entries", "_law_k", "_law_words", "_law_text", "_law_handed", "_law_change", "_law_some", "_law_due", "_law_at", "_law_odd", "_law_bad", "_law_word", "_law_worse", "_law_name_here", "_law_number", "_law_line"] ["_law_script"] (defScope s_law) := ⟨rfl, rfl, rfl, by decide +kernel, rfl, by decide +kernel, by decide +kernel⟩
def N__law_told : List Str := ["_law_work", "e", "_law_kinds", "_law_word"]
theorem sc__law_told : FnScope ["_law_work", "e", "_law_kinds", "_law_word"] ["_law_work"] (defScope s__law_told) := ⟨rfl, rfl, rfl, by decide +kernel, rfl, by decide +kernel, by decide +kernel⟩
/-- what the top has made -/
structure Fx (P : Program) (w : World) (K : PySem.W.Frag) (mg : Str → Option Value) (base : Heap) (g : G) : Prop where
  hK : g.K = K
  hP : g.P = P
  hw : g.w = w
  b_ValueError : mg "ValueError" = none
  b_bool : mg "bool" = none
  b_enumerate : mg "enumerate" = none
  b_int : mg "int" = none
  b_isinstance : mg "isinstance" = none
  b_len : mg "len" = none
  b_list : mg "list" = none
  b_range : mg "range" = none
  b_set : mg "set" = none
  b_sorted : mg "sorted" = none
  b_str : mg "str" = none
  b_tuple : mg "tuple" = none
  c_MOST_LABELS : ∃ t, mg "MOST_LABELS" = some (.int 5 t)
  c_MOST_SIGNS : ∃ t, mg "MOST_SIGNS" = some (.int 3 t)
  c_MOST_NUMBER : ∃ t, mg "MOST_NUMBER" = some (.int 999 t)
  c_LETTERS : ∃ t, mg "LETTERS" = some (.str "abcdefghijklmnopqrstuvwxyz" t)
  c_FIGURES : ∃ t, mg "FIGURES" = some (.str "0123456789" t)
  c_ROOT : ∃ t, mg "ROOT" = some (.str "." t)
  c_MOST_FIGURES : ∃ t, mg "MOST_FIGURES" = some (.int 3 t)
  e_BadHouse : ExcOk K mg g 1 "BadHouse"
  e_BadName : ExcOk K mg g 2 "BadName"
  e_BadNumber : ExcOk K mg g 3 "BadNumber"
  e_NotHome : ExcOk K mg g 4 "NotHome"
  e_BadCut : ExcOk K mg g 5 "BadCut"
  e_Full : ExcOk K mg g 6 "Full"
  x_BadTables : ∀ X : Cx, X.prog = P → X.w = w → X.K = K → X.mg = mg → X.base = base → XcOk X g 7 "BadTables" "number"
  x_BadLog : ∀ X : Cx, X.prog = P → X.w = w → X.K = K → X.mg = mg → X.base = base → XcOk X g 8 "BadLog" "number"
  x_BadText : ∀ X : Cx, X.prog = P → X.w = w → X.K = K → X.mg = mg → X.base = base → XcOk X g 9 "BadText" "row"
  kk_BadHouse : ∀ X : Cx, X.prog = P → X.w = w → X.K = K → X.mg = mg → X.base = base → Gl X "BadHouse" → KiOk X g "BadHouse" ki_BadHouse
  kk_BadName : ∀ X : Cx, X.prog = P → X.w = w → X.K = K → X.mg = mg → X.base = base → Gl X "BadName" → KiOk X g "BadName" ki_BadName
  kk_BadNumber : ∀ X : Cx, X.prog = P → X.w = w → X.K = K → X.mg = mg → X.base = base → Gl X "BadNumber" → KiOk X g "BadNumber" ki_BadNumber
  kk_NotHome : ∀ X : Cx, X.prog = P → X.w = w → X.K = K → X.mg = mg → X.base = base → Gl X "NotHome" → KiOk X g "NotHome" ki_NotHome
  kk_BadText : ∀ X : Cx, X.prog = P → X.w = w → X.K = K → X.mg = mg → X.base = base → Gl X "BadText" → KiOk X g "BadText" ki_BadText
  kk_BadCut : ∀ X : Cx, X.prog = P → X.w = w → X.K = K → X.mg = mg → X.base = base → Gl X "BadCut" → KiOk X g "BadCut" ki_BadCut
  kk_Full : ∀ X : Cx, X.prog = P → X.w = w → X.K = K → X.mg = mg → X.base = base → Gl X "Full" → KiOk X g "Full" ki_Full
  kk_BadTables : ∀ X : Cx, X.prog = P → X.w = w → X.K = K → X.mg = mg → X.base = base → Gl X "BadTables" → KiOk X g "BadTables" ki_BadTables
  kk_BadLog : ∀ X : Cx, X.prog = P → X.w = w → X.K = K → X.mg = mg → X.base = base → Gl X "BadLog" → KiOk X g "BadLog" ki_BadLog
  kk_ValueError : ∀ X : Cx, X.prog = P → X.w = w → X.K = K → X.mg = mg → X.base = base → Gl X "ValueError" → KiOk X g "ValueError" ki_ValueError
  xf_number : ∀ n, okx_number n = true → XfC K (g.ct n) ∧ PySem.W.findIn K (.ref (g.ct n)) "number" = some none
  xf_row : ∀ n, okx_row n = true → XfC K (g.ct n) ∧ PySem.W.findIn K (.ref (g.ct n)) "row" = some none
  em : ∃ B, mg "BookError" = some (.ref B) ∧ ∀ m b, emB m = some b → PySem.W.exmOne K (.ref (g.ct m)) (.ref B) = some b
  u_is_between : ∃ f fd, FunD K "is_between" "is_between" (defArgs s_is_between) (defBody s_is_between) (defScope s_is_between) [] [] f fd ∧ mg "is_between" = some (.ref f)
  u_is_label : ∃ f fd, FunD K "is_label" "is_label" (defArgs s_is_label) (defBody s_is_label) (defScope s_is_label) [] [] f fd ∧ mg "is_label" = some (.ref f)
  u_is_name : ∃ f fd, FunD K "is_name" "is_name" (defArgs s_is_name) (defBody s_is_name) (defScope s_is_name) [] [] f fd ∧ mg "is_name" = some (.ref f)
  u_word_of : ∃ f fd, FunD K "word_of" "word_of" (defArgs s_word_of) (defBody s_word_of) (defScope s_word_of) [] [] f fd ∧ mg "word_of" = some (.ref f)
  u_written : ∃ f fd, FunD K "written" "written" (defArgs s_written) (defBody s_written) (defScope s_written) [] [] f fd ∧ mg "written" = some (.ref f)
  u_name_of : ∃ f fd, FunD K "name_of" "name_of" (defArgs s_name_of) (defBody s_name_of) (defScope s_name_of) [] [] f fd ∧ mg "name_of" = some (.ref f)
  u_number_of : ∃ f fd, FunD K "number_of" "number_of" (defArgs s_number_of) (defBody s_number_of) (defScope s_number_of) [] [] f fd ∧ mg "number_of" = some (.ref f)
  u_read : ∃ f fd, FunD K "read" "read" (defArgs s_read) (defBody s_read) (defScope s_read) [] [] f fd ∧ mg "read" = some (.ref f)
  u__law_dice : ∃ f fd, FunD K "_law_dice" "_law_dice" (defArgs s__law_dice) (defBody s__law_dice) (defScope s__law_dice) [] [] f fd ∧ mg "_law_dice" = some (.ref f)
  u__law_next : ∃ f fd, FunD K "_law_next" "_law_next" (defArgs s__law_next) (defBody s__law_next) (defScope s__law_next) [] [] f fd ∧ mg "_law_next" = some (.ref f)
  u__law_like : ∃ f fd, FunD K "_law_like" "_law_like" (defArgs s__law_like) (defBody s__law_like) (defScope s__law_like) [] [] f fd ∧ mg "_law_like" = some (.ref f)
  u__law_name : ∃ f fd, FunD K "_law_name" "_law_name" (defArgs s__law_name) (defBody s__law_name) (defScope s__law_name) [] [] f fd ∧ mg "_law_name" = some (.ref f)
  u__law_labels : ∃ f fd, FunD K "_law_labels" "_law_labels" (defArgs s__law_labels) (defBody s__law_labels) (defScope s__law_labels) [] [] f fd ∧ mg "_law_labels" = some (.ref f)
  u__law_row : ∃ f fd, FunD K "_law_row" "_law_row" (defArgs s__law_row) (defBody s__law_row) (defScope s__law_row) [] [] f fd ∧ mg "_law_row" = some (.ref f)
  u__law_changed : ∃ f fd, FunD K "_law_changed" "_law_changed" (defArgs s__law_changed) (defBody s__law_changed) (defScope s__law_changed) [] [] f fd ∧ mg "_law_changed" = some (.ref f)
  u__law_told : ∃ f fd, FunD K "_law_told" "_law_told" (defArgs s__law_told) (defBody s__law_told) (defScope s__law_told) [] [] f fd ∧ mg "_law_told" = some (.ref f)
section
variable {P : Program} {w : World} {K : PySem.W.Frag} {mg : Str → Option Value} {base : Heap} {g : G}
def sem_is_between : CM Fl :=
  (sRet (eAnd (e1 (opIsi "int") (rdVar 0)) (eAnd (eNot (e1 (opIsi "bool") (rdVar 0))) (eLeLe (rdVar 1) (rdVar 0) (rdVar 2)))))
def fn_is_between : FSem := runDef 3 sem_is_between
theorem ok_is_between (F : Fx P w K mg base g) : DefOk P w K mg base g 1 "is_between" 3 fn_is_between := by
  obtain ⟨f, fd, U, hm⟩ := F.u_is_between
  exact mkDef U hm sc_is_between rfl rfl (U.bindsN fun _ _ _ _ _ _ us hl => match us, hl with | [_, _, _], _ => rfl) fun cdv A outer s H E hr =>
  (ss_one (ss_ret (se_and (se_isi F.hK F.b_isinstance F.b_int (se_var 0) (by decide +kernel)) (se_and (se_not (se_isi F.hK F.b_isinstance F.b_bool (se_var 0) (by decide +kernel))) (se_one (se_lele (se_var 1) (se_var 0) (se_var 2)))))))
def sem_is_label : CM Fl :=
  (sSeq (sIf (bOr (bNot (tst (e1 (opIsi "str") (rdVar 0)))) (bNot (tst (eLeLe (kst (.int 1)) (e1 opLen (rdVar 0)) (kst (.int 3)))))) (sRet (kst (.bl false))) sNil)
  (sRet (e2 (opEmp false) (eComp [1] (iSeq (ePv (rdVar 0))) (gNm 1) (tst (e2 (opIn true) (rdVar 1) (kst (.str "abcdefghijklmnopqrstuvwxyz")))) (ePv (rdVar 1))) (eLst aNil))))
def fn_is_label : FSem := runDef 2 sem_is_label
theorem ok_is_label (F : Fx P w K mg base g) : DefOk P w K mg base g 1 "is_label" 1 fn_is_label := by
  obtain ⟨f, fd, U, hm⟩ := F.u_is_label
  exact mkDef U hm sc_is_label rfl rfl (U.bindsN fun _ _ _ _ _ _ us hl => match us, hl with | [_], _ => rfl) fun cdv A outer s H E hr =>
  (ss_cons (ss_if (sb_w (sb_or (sb_not (sb_val (se_isi F.hK F.b_isinstance F.b_str (se_var 0) (by decide +kernel)))) (sb_or1 (sb_not (sb_lele se_int (se_len F.hK F.b_len (se_var 0)) (se_gint F.c_MOST_SIGNS)))))) (ss_one (ss_ret se_bl)) ss_nil)
  (ss_one (ss_ret (se_eqE (rm64 hr) (se_comp (own := [("sign", 1)]) rfl sc_is_label.nd (si_seq F.hK (sp_esc (se_var 0))) (blkOk_by (N := N_is_label) (sc := defScope s_is_label) (by decide +kernel)) (fun _ _ _ _ _ => (sg_name (i := 1) sc_is_label.nd)) (fun _ _ _ _ _ => (st_one (sb_notIn F.hK (rm65 hr) (se_var 1) (se_gstr F.c_LETTERS)))) (fun _ _ _ _ _ => (sp_esc (se_var 1)))) (se_lst sa_nil)))))
def sem_is_name : CM Fl :=
  (sSeq (sIf (bOr (bNot (tst (e1 (opIsi "tuple") (rdVar 0)))) (tst (e2 opGt (e1 opLen (rdVar 0)) (kst (.int 5))))) (sRet (kst (.bl false))) sNil)
  (sRet (e2 (opEmp false) (eComp [1] (iSeq (ePv (rdVar 0))) (gNm 1) (bNot (tst (eCall fn_is_label (aCons (ePv (rdVar 1)) aNil)))) (ePv (rdVar 1))) (eLst aNil))))
def fn_is_name : FSem := runDef 2 sem_is_name
theorem ok_is_name (F : Fx P w K mg base g) : DefOk P w K mg base g 2 "is_name" 1 fn_is_name := by
  obtain ⟨f, fd, U, hm⟩ := F.u_is_name
  exact mkDef U hm sc_is_name rfl rfl (U.bindsN fun _ _ _ _ _ _ us hl => match us, hl with | [_], _ => rfl) fun cdv A outer s H E hr =>
  (ss_cons (ss_if (sb_w (sb_or (sb_not (sb_val (se_isi F.hK F.b_isinstance F.b_tuple (se_var 0) (by decide +kernel)))) (sb_or1 (sb_gt (se_len F.hK F.b_len (se_var 0)) (se_gint F.c_MOST_LABELS))))) (ss_one (ss_ret se_bl)) ss_nil)
  (ss_one (ss_ret (se_eqE (rm64 hr) (se_comp (own := [("label", 1)]) rfl sc_is_name.nd (si_seq F.hK (sp_esc (se_var 0))) (blkOk_by (N := N_is_name) (sc := defScope s_is_name) (by decide +kernel)) (fun _ _ _ _ _ => (sg_name (i := 1) sc_is_name.nd)) (fun _ _ _ _ _ => (st_one (sb_not (sb_val (se_call (ok_is_label F) takes0 (hr.mono (by decide)) (sa_cons (sp_esc (se_var 1)) sa_nil) (hl := (aCons_len aNil_len))))))) (fun _ _ _ _ _ => (sp_esc (se_var 1)))) (se_lst sa_nil)))))
def sem_word_of : CM Fl :=
  (sRet (eIf (tst (e2 opNe (rdVar 0) (eTup aNil))) (eBm isStr strJoin (kst (.str ".")) (aCons (ePv (rdVar 0)) aNil)) (kst (.str "."))))
def fn_word_of : FSem := runDef 1 sem_word_of
theorem ok_word_of (F : Fx P w K mg base g) : DefOk P w K mg base g 1 "word_of" 1 fn_word_of := by
  obtain ⟨f, fd, U, hm⟩ := F.u_word_of
  exact mkDef U hm sc_word_of rfl rfl (U.bindsN fun _ _ _ _ _ _ us hl => match us, hl with | [_], _ => rfl) fun cdv A outer s H E hr =>
  (ss_one (ss_ret (se_if (sb_ne F.hK (rm64 hr) (se_var 0) (se_tup sa_nil)) (se_bm PySem.F.plainAttrs_str PySem.F.slot_str_join PySem.F.type_str_join mt_joinC ty_str (F.hK ▸ pr_join) (se_gstr F.c_ROOT) (sa_cons (sp_esc (se_var 0)) sa_nil)) (se_gstr F.c_ROOT))))
def sem_written : CM Fl :=
  (sSeq (sOwn 1 (eLst aNil))
  (sSeq (sFor (iSeq (ePv (rdVar 0))) (gTp 2 (gsCons (gNm 2) (gsCons (gNm 3) gsNil))) (sSeq (sIf (bNot (tst (eCall fn_is_name (aCons (ePv (rdVar 2)) aNil)))) (sRaise 2) sNil)
  (sSeq (sIf (bNot (tst (eCall fn_is_between (aCons (ePv (rdVar 3)) (aCons (ePv (kst (.int 0))) (aCons (ePv (kst (.int 999))) aNil)))))) (sRaise 3) sNil)
  (sExpr (eBm isList lAppend (rdVar 1) (aCons (ePv (e2 opAdd (e2 opAdd (eCall fn_word_of (aCons (ePv (rdVar 2)) aNil)) (kst (.str " "))) (e1 opStr (rdVar 3)))) aNil))))))
  (sRet (eBm isStr strJoin (kst (.str "\n")) (aCons (ePv (rdVar 1)) aNil)))))
def fn_written : FSem := runDef 4 sem_written
theorem ok_written (F : Fx P w K mg base g) : DefOk P w K mg base g 3 "written" 1 fn_written := by
  obtain ⟨f, fd, U, hm⟩ := F.u_written
  exact mkDef U hm sc_written rfl rfl (U.bindsN fun _ _ _ _ _ _ us hl => match us, hl with | [_], _ => rfl) fun cdv A outer s H E hr =>
  (ss_cons (ss_own sc_written.nd (se_lst sa_nil))
  (ss_cons (ss_for (passes_of rfl) rfl (si_seq F.hK (sp_esc (se_var 0))) (sg_tup F.hK rfl (sg_cons (sg_name (i := 2) sc_written.nd) (sg_cons (sg_name (i := 3) sc_written.nd) sg_nil))) (ss_cons (ss_if (sb_not (sb_val (se_call (ok_is_name F) (takes_of rfl rfl rfl rfl) (hr.mono (by decide)) (sa_cons (sp_esc (se_var 2)) sa_nil) (hl := (aCons_len aNil_len))))) (ss_one (ss_raise rfl (takes_of rfl rfl rfl rfl) F.e_BadName)) ss_nil)
  (ss_cons (ss_if (sb_not (sb_val (se_call (ok_is_between F) (takes_of rfl rfl rfl rfl) (hr.mono (by decide)) (sa_cons (sp_esc (se_var 3)) (sa_cons (sp_esc se_int) (sa_cons (sp_esc (se_gint F.c_MOST_NUMBER)) sa_nil))) (hl := (aCons_len (aCons_len (aCons_len aNil_len))))))) (ss_one (ss_raise rfl (takes_of rfl rfl rfl rfl) F.e_BadNumber)) ss_nil)
  (ss_one (ss_expr (se_bm PySem.F.plainAttrs_list PySem.F.slot_list_append PySem.F.type_list_append mt_append ty_list pr_append (se_var 1) (sa_cons (sp_esc (se_add F.hK (se_add F.hK (se_call (ok_word_of F) (takes_of rfl rfl rfl rfl) (hr.mono (by decide)) (sa_cons (sp_esc (se_var 2)) sa_nil) (hl := (aCons_len aNil_len))) se_str) (se_strI F.b_str (se_var 3)))) sa_nil)))))))
  (ss_one (ss_ret (se_bm PySem.F.plainAttrs_str PySem.F.slot_str_join PySem.F.type_str_join mt_joinC ty_str (F.hK ▸ pr_join) se_str (sa_cons (sp_esc (se_var 1)) sa_nil))))))
def sem_name_of : CM Fl :=
  (sSeq (sIf (tst (e2 opEq (rdVar 0) (kst (.str ".")))) (sRet (eTup aNil)) sNil)
  (sSeq (sAsg (ePv (e1 opTuple (eBm isStr strSplit (rdVar 0) (aCons (ePv (kst (.str "."))) aNil)))) (gNm 1))
  (sRet (eIf (tst (eCall fn_is_name (aCons (ePv (rdVar 1)) aNil))) (rdVar 1) (kst .non)))))
def fn_name_of : FSem := runDef 2 sem_name_of
theorem ok_name_of (F : Fx P w K mg base g) : DefOk P w K mg base g 3 "name_of" 1 fn_name_of := by
  obtain ⟨f, fd, U, hm⟩ := F.u_name_of
  exact mkDef U hm sc_name_of rfl rfl (U.bindsN fun _ _ _ _ _ _ us hl => match us, hl with | [_], _ => rfl) fun cdv A outer s H E hr =>
  (ss_cons (ss_if (sb_eq F.hK (rm64 hr) (se_var 0) (se_gstr F.c_ROOT)) (ss_one (ss_ret (se_tup sa_nil))) ss_nil)
  (ss_cons (ss_asg (sp_esc (se_tuple F.hK F.b_tuple (se_bm PySem.F.plainAttrs_str PySem.F.slot_str_split PySem.F.type_str_split mt_split ty_str pr_split (se_var 0) (sa_cons (sp_esc (se_gstr F.c_ROOT)) sa_nil)))) (sg_name (i := 1) sc_name_of.nd))
  (ss_one (ss_ret (se_if (sb_val (se_call (ok_is_name F) (takes_of rfl rfl rfl rfl) (hr.mono (by decide)) (sa_cons (sp_esc (se_var 1)) sa_nil) (hl := (aCons_len aNil_len)))) (se_var 1) se_non)))))
def sem_number_of : CM Fl :=
  (sSeq (sIf (bOr (bNot (tst (eLeLe (kst (.int 1)) (e1 opLen (rdVar 0)) (kst (.int 3))))) (tst (e2 (opEmp true) (eComp [1] (iSeq (ePv (rdVar 0))) (gNm 1) (tst (e2 (opIn true) (rdVar 1) (kst (.str "0123456789")))) (ePv (rdVar 1))) (eLst aNil)))) (sRet (kst .non)) sNil)
  (sRet (eIf (bAnd (tst (e2 opEq (e2 opIx (rdVar 0) (kst (.int 0))) (kst (.str "0")))) (tst (e2 opNe (rdVar 0) (kst (.str "0"))))) (kst .non) (e1 opIntS (rdVar 0)))))
def fn_number_of : FSem := runDef 2 sem_number_of
theorem ok_number_of (F : Fx P w K mg base g) : DefOk P w K mg base g 1 "number_of" 1 fn_number_of := by
  obtain ⟨f, fd, U, hm⟩ := F.u_number_of
  exact mkDef U hm sc_number_of rfl rfl (U.bindsN fun _ _ _ _ _ _ us hl => match us, hl with | [_], _ => rfl) fun cdv A outer s H E hr =>
  (ss_cons (ss_if (sb_w (sb_or (sb_not (sb_lele se_int (se_len F.hK F.b_len (se_var 0)) (se_gint F.c_MOST_FIGURES))) (sb_or1 (sb_neE (rm64 hr) (se_comp (own := [("sign", 1)]) rfl sc_number_of.nd (si_seq F.hK (sp_esc (se_var 0))) (blkOk_by (N := N_number_of) (sc := defScope s_number_of) (by decide +kernel)) (fun _ _ _ _ _ => (sg_name (i := 1) sc_number_of.nd)) (fun _ _ _ _ _ => (st_one (sb_notIn F.hK (rm65 hr) (se_var 1) (se_gstr F.c_FIGURES)))) (fun _ _ _ _ _ => (sp_esc (se_var 1)))) (se_lst sa_nil))))) (ss_one (ss_ret se_non)) ss_nil)
  (ss_one (ss_ret (se_if (sb_w (sb_and (sb_eq F.hK (rm64 hr) (se_sub1 F.hK (se_var 0) se_int) se_str) (sb_and1 (sb_ne F.hK (rm64 hr) (se_var 0) se_str)))) se_non (se_intS F.hK F.b_int (se_var 0))))))
def sem_read : CM Fl :=
  (sSeq (sOwn 1 (eLst aNil))
  (sSeq (sFor (iEnu (aCons (ePv (eIf (tst (e2 opNe (rdVar 0) (kst (.str "")))) (eBm isStr strSplit (rdVar 0) (aCons (ePv (kst (.str "\n"))) aNil)) (eLst aNil))) aNil)) (gTp 2 (gsCons (gNm 2) (gsCons (gNm 3) gsNil))) (sSeq (sAsg (ePv (eBm isStr strSplit (rdVar 3) (aCons (ePv (kst (.str " "))) aNil))) (gNm 4))
  (sSeq (sIf (bOr (tst (e2 opNe (e1 opLen (rdVar 4)) (kst (.int 2)))) (bOr (tst (e1 (opIsN false) (eCall fn_name_of (aCons (ePv (e2 opIx (rdVar 4) (kst (.int 0)))) aNil)))) (tst (e1 (opIsN false) (eCall fn_number_of (aCons (ePv (e2 opIx (rdVar 4) (kst (.int 1)))) aNil)))))) (sRaiseA 9 "row" (aCons (ePv (rdVar 2)) aNil)) sNil)
  (sExpr (eBm isList lAppend (rdVar 1) (aCons (ePv (eTup (aCons (ePv (eCall fn_name_of (aCons (ePv (e2 opIx (rdVar 4) (kst (.int 0)))) aNil))) (aCons (ePv (eCall fn_number_of (aCons (ePv (e2 opIx (rdVar 4) (kst (.int 1)))) aNil))) aNil)))) aNil))))))
  (sRet (rdVar 1))))
def fn_read : FSem := runDef 5 sem_read
theorem ok_read (F : Fx P w K mg base g) : DefOk P w K mg base g 4 "read" 1 fn_read := by
  obtain ⟨f, fd, U, hm⟩ := F.u_read
  exact mkDef U hm sc_read rfl rfl (U.bindsN fun _ _ _ _ _ _ us hl => match us, hl with | [_], _ => rfl) fun cdv A outer s H E hr =>
  (ss_cons (ss_own sc_read.nd (se_lst sa_nil))
  (ss_cons (ss_for (passes_of rfl) rfl (si_enum F.hK F.b_enumerate (sa_cons (sp_esc (se_if (sb_ne F.hK (rm64 hr) (se_var 0) se_str) (se_bm PySem.F.plainAttrs_str PySem.F.slot_str_split PySem.F.type_str_split mt_split ty_str pr_split (se_var 0) (sa_cons (sp_esc se_str) sa_nil)) (se_lst sa_nil))) sa_nil)) (sg_tup F.hK rfl (sg_cons (sg_name (i := 2) sc_read.nd) (sg_cons (sg_name (i := 3) sc_read.nd) sg_nil))) (ss_cons (ss_asg (sp_esc (se_bm PySem.F.plainAttrs_str PySem.F.slot_str_split PySem.F.type_str_split mt_split ty_str pr_split (se_var 3) (sa_cons (sp_esc se_str) sa_nil))) (sg_name (i := 4) sc_read.nd))
  (ss_cons (ss_if (sb_w (sb_or (sb_ne F.hK (rm64 hr) (se_len F.hK F.b_len (se_var 4)) se_int) (sb_or (sb_isN (se_call (ok_name_of F) (takes_of rfl rfl rfl rfl) (hr.mono (by decide)) (sa_cons (sp_esc (se_sub1 F.hK (se_var 4) se_int)) sa_nil) (hl := (aCons_len aNil_len)))) (sb_or1 (sb_isN (se_call (ok_number_of F) (takes_of rfl rfl rfl rfl) (hr.mono (by decide)) (sa_cons (sp_esc (se_sub1 F.hK (se_var 4) se_int)) sa_nil) (hl := (aCons_len aNil_len)))))))) (ss_one (ss_raiseA rfl (takes_of rfl rfl rfl rfl) (F.x_BadText _ rfl rfl rfl rfl rfl) (hr.mono (by decide)) (sa_cons (sp_esc (se_var 2)) sa_nil))) ss_nil)
  (ss_one (ss_expr (se_bm PySem.F.plainAttrs_list PySem.F.slot_list_append PySem.F.type_list_append mt_append ty_list pr_append (se_var 1) (sa_cons (sp_esc (se_tup (sa_cons (sp_esc (se_call (ok_name_of F) (takes_of rfl rfl rfl rfl) (hr.mono (by decide)) (sa_cons (sp_esc (se_sub1 F.hK (se_var 4) se_int)) sa_nil) (hl := (aCons_len aNil_len)))) (sa_cons (sp_esc (se_call (ok_number_of F) (takes_of rfl rfl rfl rfl) (hr.mono (by decide)) (sa_cons (sp_esc (se_sub1 F.hK (se_var 4) se_int)) sa_nil) (hl := (aCons_len aNil_len)))) sa_nil)))) sa_nil)))))))
  (ss_one (ss_ret (se_var 1)))))
def sem__law_dice : CM Fl :=
  (sSeq (sAsg (ePv (kst (.int 0))) (gNm 1))
  (sSeq (sFor (iSeq (ePv (rdVar 0))) (gNm 2) (sAsg (ePv (e2 opMod (e2 opAdd (e2 opAdd (e2 opMulI (rdVar 1) (kst (.int 48271))) (e2 opMulI (e2 opMod (rdVar 2) (kst (.int 2147483647))) (kst (.int 69621)))) (kst (.int 11))) (kst (.int 2147483647)))) (gNm 1)))
  (sRet (eLst (aCons (ePv (rdVar 0)) (aCons (ePv (kst (.int 0))) (aCons (ePv (e2 opMulI (rdVar 1) (e1 opInt (e2 opGt (e1 opLen (rdVar 0)) (kst (.int 2)))))) (aCons (ePv (kst (.int 0))) aNil))))))))
def fn__law_dice : FSem := runDef 3 sem__law_dice
theorem ok__law_dice (F : Fx P w K mg base g) : DefOk P w K mg base g 1 "_law_dice" 1 fn__law_dice := by
  obtain ⟨f, fd, U, hm⟩ := F.u__law_dice
  exact mkDef U hm sc__law_dice rfl rfl (U.bindsN fun _ _ _ _ _ _ us hl => match us, hl with | [_], _ => rfl) fun cdv A outer s H E hr =>
  (ss_cons (ss_asg (sp_esc se_int) (sg_name (i := 1) sc__law_dice.nd))
  (ss_cons (ss_for (passes_of rfl) rfl (si_seq F.hK (sp_esc (se_var 0))) (sg_name (i := 2) sc__law_dice.nd) (ss_one (ss_asg (sp_esc (se_mod (se_add F.hK (se_add F.hK (se_mul (se_var 1) se_int) (se_mul (se_mod (se_var 2) se_int) se_int)) se_int) se_int)) (sg_name (i := 1) sc__law_dice.nd))))
  (ss_one (ss_ret (se_lst (sa_cons (sp_esc (se_var 0)) (sa_cons (sp_esc se_int) (sa_cons (sp_esc (se_mul (se_var 1) (se_intB F.b_int (se_gt (se_len F.hK F.b_len (se_var 0)) se_int)))) (sa_cons (sp_esc se_int) sa_nil)))))))))
def sem__law_next : CM Fl :=
  (sSeq (sIf (tst (e2 opGt (e2 opIx (rdVar 0) (kst (.int 3))) (kst (.int 0)))) (sSeq (sAsg (ePv (e2 opMod (e2 opIx (rdVar 0) (kst (.int 3))) (rdVar 1))) (gNm 2))
  (sSeq (sAsg (ePv (e2 opDiv (e2 opIx (rdVar 0) (kst (.int 3))) (rdVar 1))) (gLSet (rdVar 0) (kst (.int 3))))
  (sRet (rdVar 2)))) sNil)
  (sSeq (sAsg (ePv (e2 opAdd (e2 opIx (rdVar 0) (kst (.int 1))) (kst (.int 1)))) (gLSet (rdVar 0) (kst (.int 1))))
  (sSeq (sIf (tst (e2 opLe (e2 opIx (rdVar 0) (kst (.int 1))) (e1 opLen (e2 opIx (rdVar 0) (kst (.int 0)))))) (sSeq (sAsg (ePv (e2 opIx (e2 opIx (rdVar 0) (kst (.int 0))) (e2 opSub (e2 opIx (rdVar 0) (kst (.int 1))) (kst (.int 1))))) (gNm 3))
  (sSeq (sAsg (ePv (eIf (tst (e2 opGe (rdVar 3) (e2 opPow (kst (.int 10)) (kst (.int 18))))) (e2 opDiv (rdVar 3) (rdVar 1)) (kst (.int 0)))) (gLSet (rdVar 0) (kst (.int 3))))
  (sRet (e2 opMod (rdVar 3) (rdVar 1))))) sNil)
  (sSeq (sAsg (ePv (e2 opMod (e2 opMulI (e2 opIx (rdVar 0) (kst (.int 2))) (kst (.int 48271))) (kst (.int 2147483647)))) (gLSet (rdVar 0) (kst (.int 2))))
  (sRet (e2 opMod (e2 opDiv (e2 opIx (rdVar 0) (kst (.int 2))) (kst (.int 7))) (rdVar 1)))))))
def fn__law_next : FSem := runDef 4 sem__law_next
theorem ok__law_next (F : Fx P w K mg base g) : DefOk P w K mg base g 1 "_law_next" 2 fn__law_next := by
  obtain ⟨f, fd, U, hm⟩ := F.u__law_next
  exact mkDef U hm sc__law_next rfl rfl (U.bindsN fun _ _ _ _ _ _ us hl => match us, hl with | [_, _], _ => rfl) fun cdv A outer s H E hr =>
  (ss_cons (ss_if (sb_gt (se_sub1 F.hK (se_var 0) se_int) se_int) (ss_cons (ss_asg (sp_esc (se_mod (se_sub1 F.hK (se_var 0) se_int) (se_var 1))) (sg_name (i := 2) sc__law_next.nd))
  (ss_cons (ss_asg (sp_esc (se_div (se_sub1 F.hK (se_var 0) se_int) (se_var 1))) (sg_lset (se_var 0) se_int))
  (ss_one (ss_ret (se_var 2))))) ss_nil)
  (ss_cons (ss_asg (sp_esc (se_add F.hK (se_sub1 F.hK (se_var 0) se_int) se_int)) (sg_lset (se_var 0) se_int))
  (ss_cons (ss_if (sb_le (se_sub1 F.hK (se_var 0) se_int) (se_len F.hK F.b_len (se_sub1 F.hK (se_var 0) se_int))) (ss_cons (ss_asg (sp_esc (se_sub1 F.hK (se_sub1 F.hK (se_var 0) se_int) (se_sub (se_sub1 F.hK (se_var 0) se_int) se_int))) (sg_name (i := 3) sc__law_next.nd))
  (ss_cons (ss_asg (sp_esc (se_if (sb_ge (se_var 3) (se_pow se_int se_int)) (se_div (se_var 3) (se_var 1)) se_int)) (sg_lset (se_var 0) se_int))
  (ss_one (ss_ret (se_mod (se_var 3) (se_var 1)))))) ss_nil)
  (ss_cons (ss_asg (sp_esc (se_mod (se_mul (se_sub1 F.hK (se_var 0) se_int) se_int) se_int)) (sg_lset (se_var 0) se_int))
  (ss_one (ss_ret (se_mod (se_div (se_sub1 F.hK (se_var 0) se_int) se_int) (se_var 1))))))))
def sem__law_like (f0 : FSem) : CM Fl :=
  (sSeq (sIf (tst (e1 (opIsi "bool") (rdVar 1))) (sRet (eAnd (e1 (opIsi "bool") (rdVar 0)) (e2 opEq (rdVar 0) (rdVar 1)))) sNil)
  (sSeq (sIf (tst (e1 (opIsi "str") (rdVar 1))) (sRet (eAnd (e1 (opIsi "str") (rdVar 0)) (e2 opEq (rdVar 0) (rdVar 1)))) sNil)
  (sSeq (sIf (tst (e1 (opIsi "int") (rdVar 1))) (sRet (eAnd (e1 (opIsi "int") (rdVar 0)) (eAnd (eNot (e1 (opIsi "bool") (rdVar 0))) (e2 opEq (rdVar 0) (rdVar 1))))) sNil)
  (sSeq (sIf (tst (e1 (opIsN false) (rdVar 1))) (sRet (e1 (opIsN false) (rdVar 0))) sNil)
  (sSeq (sIf (bOr (tst (e2 opNe (e1 (opIsi "tuple") (rdVar 1)) (e1 (opIsi "tuple") (rdVar 0)))) (tst (e2 opNe (e1 (opIsi "list") (rdVar 1)) (e1 (opIsi "list") (rdVar 0))))) (sRet (kst (.bl false))) sNil)
  (sSeq (sIf (tst (e2 opNe (e1 opLen (rdVar 0)) (e1 opLen (rdVar 1)))) (sRet (kst (.bl false))) sNil)
  (sSeq (sFor (iRange1 (aCons (ePv (e1 opLen (rdVar 1))) aNil)) (gNm 2) (sIf (bNot (tst (eCall f0 (aCons (ePv (e2 opIx (rdVar 0) (rdVar 2))) (aCons (ePv (e2 opIx (rdVar 1) (rdVar 2))) aNil))))) (sRet (kst (.bl false))) sNil))
  (sRet (kst (.bl true))))))))))
def fa__law_like : Nat → FSem
  | 0 => fun _ _ => .stuck
  | j + 1 => runDef 3 (sem__law_like (fa__law_like j))
def fn__law_like : FSem := fa__law_like 12
theorem at__law_like (F : Fx P w K mg base g) : ∀ j, DefOk P w K mg base g (j + 1) "_law_like" 2 (fa__law_like j)
  | 0 => by
    obtain ⟨f, fd, U, hm⟩ := F.u__law_like
    exact mkStuck U hm sc__law_like rfl (U.bindsN fun _ _ _ _ _ _ us hl => match us, hl with | [_, _], _ => rfl)
  | j + 1 => by
    obtain ⟨f, fd, U, hm⟩ := F.u__law_like
    have D0 := at__law_like F j
    exact mkDef U hm sc__law_like rfl rfl (U.bindsN fun _ _ _ _ _ _ us hl => match us, hl with | [_, _], _ => rfl) fun cdv A outer s H E hr =>
  (ss_cons (ss_if (sb_val (se_isi F.hK F.b_isinstance F.b_bool (se_var 1) (by decide +kernel))) (ss_one (ss_ret (se_and (se_isi F.hK F.b_isinstance F.b_bool (se_var 0) (by decide +kernel)) (se_one (se_eq F.hK (rm64 hr) (se_var 0) (se_var 1)))))) ss_nil)
  (ss_cons (ss_if (sb_val (se_isi F.hK F.b_isinstance F.b_str (se_var 1) (by decide +kernel))) (ss_one (ss_ret (se_and (se_isi F.hK F.b_isinstance F.b_str (se_var 0) (by decide +kernel)) (se_one (se_eq F.hK (rm64 hr) (se_var 0) (se_var 1)))))) ss_nil)
  (ss_cons (ss_if (sb_val (se_isi F.hK F.b_isinstance F.b_int (se_var 1) (by decide +kernel))) (ss_one (ss_ret (se_and (se_isi F.hK F.b_isinstance F.b_int (se_var 0) (by decide +kernel)) (se_and (se_not (se_isi F.hK F.b_isinstance F.b_bool (se_var 0) (by decide +kernel))) (se_one (se_eq F.hK (rm64 hr) (se_var 0) (se_var 1))))))) ss_nil)
  (ss_cons (ss_if (sb_isN (se_var 1)) (ss_one (ss_ret (se_isN (se_var 0)))) ss_nil)
  (ss_cons (ss_if (sb_w (sb_or (sb_ne F.hK (rm64 hr) (se_isi F.hK F.b_isinstance F.b_tuple (se_var 1) (by decide +kernel)) (se_isi F.hK F.b_isinstance F.b_tuple (se_var 0) (by decide +kernel))) (sb_or1 (sb_ne F.hK (rm64 hr) (se_isi F.hK F.b_isinstance F.b_list (se_var 1) (by decide +kernel)) (se_isi F.hK F.b_isinstance F.b_list (se_var 0) (by decide +kernel)))))) (ss_one (ss_ret se_bl)) ss_nil)
  (ss_cons (ss_if (sb_ne F.hK (rm64 hr) (se_len F.hK F.b_len (se_var 0)) (se_len F.hK F.b_len (se_var 1))) (ss_one (ss_ret se_bl)) ss_nil)
  (ss_cons (ss_for (passes_of rfl) rfl (si_range1 F.b_range (sa_cons (sp_esc (se_len F.hK F.b_len (se_var 1))) sa_nil)) (sg_name (i := 2) sc__law_like.nd) (ss_one (ss_if (sb_not (sb_val (se_call D0 (takes_of rfl rfl rfl rfl) hr (sa_cons (sp_esc (se_sub1 F.hK (se_var 0) (se_var 2))) (sa_cons (sp_esc (se_sub1 F.hK (se_var 1) (se_var 2))) sa_nil)) (hl := (aCons_len (aCons_len aNil_len)))))) (ss_one (ss_ret se_bl)) ss_nil)))
  (ss_one (ss_ret se_bl)))))))))
theorem ok__law_like (F : Fx P w K mg base g) : DefOk P w K mg base g 13 "_law_like" 2 fn__law_like := at__law_like F 12
def sem__law_name : CM Fl :=
  (sRet (e1 opTuple (eComp [2] (iRange1 (aCons (ePv (eCall fn__law_next (aCons (ePv (rdVar 0)) (aCons (ePv (e2 opIx (eLst (aCons (ePv (kst (.int 2))) (aCons (ePv (kst (.int 4))) (aCons (ePv (kst (.int 6))) aNil)))) (eCall fn__law_next (aCons (ePv (rdVar 0)) (aCons (ePv (kst (.int 3))) aNil))))) aNil)))) aNil)) (gNm 2) bTrue (ePv (e2 opIx (rdVar 1) (eCall fn__law_next (aCons (ePv (rdVar 0)) (aCons (ePv (e1 opLen (rdVar 1))) aNil))))))))
def fn__law_name : FSem := runDef 3 sem__law_name
theorem ok__law_name (F : Fx P w K mg base g) : DefOk P w K mg base g 2 "_law_name" 2 fn__law_name := by
  obtain ⟨f, fd, U, hm⟩ := F.u__law_name
  exact mkDef U hm sc__law_name rfl rfl (U.bindsN fun _ _ _ _ _ _ us hl => match us, hl with | [_, _], _ => rfl) fun cdv A outer s H E hr =>
  (ss_one (ss_ret (se_tuple F.hK F.b_tuple (se_comp (own := [("_law_k", 2)]) rfl sc__law_name.nd (si_range1 F.b_range (sa_cons (sp_esc (se_call (ok__law_next F) (takes_of rfl rfl rfl rfl) (hr.mono (by decide)) (sa_cons (sp_esc (se_var 0)) (sa_cons (sp_esc (se_sub1 F.hK (se_lst (sa_cons (sp_esc se_int) (sa_cons (sp_esc se_int) (sa_cons (sp_esc se_int) sa_nil)))) (se_call (ok__law_next F) (takes_of rfl rfl rfl rfl) (hr.mono (by decide)) (sa_cons (sp_esc (se_var 0)) (sa_cons (sp_esc se_int) sa_nil)) (hl := (aCons_len (aCons_len aNil_len)))))) sa_nil)) (hl := (aCons_len (aCons_len aNil_len))))) sa_nil)) (blkOk_by (N := N__law_name) (sc := defScope s__law_name) (by decide +kernel)) (fun _ _ _ _ _ => (sg_name (i := 2) sc__law_name.nd)) (fun _ _ _ _ _ => st_nil) (fun _ _ _ _ _ => (sp_esc (se_sub1 F.hK (se_var 1) (se_call (ok__law_next F) takes0 (hr.mono (by decide)) (sa_cons (sp_esc (se_var 0)) (sa_cons (sp_esc (se_len F.hK F.b_len (se_var 1))) sa_nil)) (hl := (aCons_len (aCons_len aNil_len)))))))))))
def sem__law_labels : CM Fl :=
  (sSeq (sAsg (ePv (kst (.str "abcdefghijklmnopqrstuvwxyz"))) (gNm 1))
  (sSeq (sOwn 2 (eLst aNil))
  (sSeq (sFor (iRange1 (aCons (ePv (e2 opAdd (kst (.int 2)) (eCall fn__law_next (aCons (ePv (rdVar 0)) (aCons (ePv (kst (.int 3))) aNil))))) aNil)) (gNm 3) (sExpr (eBm isList lAppend (rdVar 2) (aCons (ePv (eBm isStr strJoin (kst (.str "")) (aCons (ePv (eComp [4] (iRange1 (aCons (ePv (e2 opAdd (kst (.int 1)) (eCall fn__law_next (aCons (ePv (rdVar 0)) (aCons (ePv (kst (.int 3))) aNil))))) aNil)) (gNm 4) bTrue (ePv (e2 opIx (rdVar 1) (eCall fn__law_next (aCons (ePv (rdVar 0)) (aCons (ePv (kst (.int 26))) aNil))))))) aNil))) aNil))))
  (sRet (e1 opSortSet (e2 opAdd (rdVar 2) (eLst (aCons (ePv (kst (.str "q"))) aNil))))))))
def fn__law_labels : FSem := runDef 5 sem__law_labels
theorem ok__law_labels (F : Fx P w K mg base g) : DefOk P w K mg base g 2 "_law_labels" 1 fn__law_labels := by
  obtain ⟨f, fd, U, hm⟩ := F.u__law_labels
  exact mkDef U hm sc__law_labels rfl rfl (U.bindsN fun _ _ _ _ _ _ us hl => match us, hl with | [_], _ => rfl) fun cdv A outer s H E hr =>
  (ss_cons (ss_asg (sp_esc se_str) (sg_name (i := 1) sc__law_labels.nd))
  (ss_cons (ss_own sc__law_labels.nd (se_lst sa_nil))
  (ss_cons (ss_for (passes_of rfl) rfl (si_range1 F.b_range (sa_cons (sp_esc (se_add F.hK se_int (se_call (ok__law_next F) (takes_of rfl rfl rfl rfl) (hr.mono (by decide)) (sa_cons (sp_esc (se_var 0)) (sa_cons (sp_esc se_int) sa_nil)) (hl := (aCons_len (aCons_len aNil_len)))))) sa_nil)) (sg_name (i := 3) sc__law_labels.nd) (ss_one (ss_expr (se_bm PySem.F.plainAttrs_list PySem.F.slot_list_append PySem.F.type_list_append mt_append ty_list pr_append (se_var 2) (sa_cons (sp_esc (se_bm PySem.F.plainAttrs_str PySem.F.slot_str_join PySem.F.type_str_join mt_joinC ty_str (F.hK ▸ pr_join) se_str (sa_cons (sp_esc (se_comp (own := [("_law_j", 4)]) rfl sc__law_labels.nd (si_range1 F.b_range (sa_cons (sp_esc (se_add F.hK se_int (se_call (ok__law_next F) (takes_of rfl rfl rfl rfl) (hr.mono (by decide)) (sa_cons (sp_esc (se_var 0)) (sa_cons (sp_esc se_int) sa_nil)) (hl := (aCons_len (aCons_len aNil_len)))))) sa_nil)) (blkOk_by (N := N__law_labels) (sc := defScope s__law_labels) (by decide +kernel)) (fun _ _ _ _ _ => (sg_name (i := 4) sc__law_labels.nd)) (fun _ _ _ _ _ => st_nil) (fun _ _ _ _ _ => (sp_esc (se_sub1 F.hK (se_var 1) (se_call (ok__law_next F) takes0 (hr.mono (by decide)) (sa_cons (sp_esc (se_var 0)) (sa_cons (sp_esc se_int) sa_nil)) (hl := (aCons_len (aCons_len aNil_len))))))))) sa_nil))) sa_nil)))))
  (ss_one (ss_ret (se_sortSet F.hK rfl (rm64 hr) F.b_sorted F.b_set (se_add F.hK (se_var 2) (se_lst (sa_cons (sp_esc se_str) sa_nil)))))))))
def sem__law_row : CM Fl :=
  (sSeq (sAsg (ePv (eBm isStr strSplit (rdVar 0) (aCons (ePv (kst (.str " "))) aNil))) (gNm 1))
  (sSeq (sIf (bOr (tst (e2 opNe (e1 opLen (rdVar 1)) (kst (.int 2)))) (tst (e2 (opIn true) (e2 opIx (rdVar 1) (kst (.int 1))) (eComp [2] (iRange1 (aCons (ePv (kst (.int 1000))) aNil)) (gNm 2) bTrue (ePv (e1 opStr (rdVar 2))))))) (sRet (kst .non)) sNil)
  (sSeq (sAsg (ePv (eIf (tst (e2 opNe (e2 opIx (rdVar 1) (kst (.int 0))) (kst (.str ".")))) (eBm isStr strSplit (e2 opIx (rdVar 1) (kst (.int 0))) (aCons (ePv (kst (.str "."))) aNil)) (eLst aNil))) (gNm 3))
  (sSeq (sFor (iSeq (ePv (rdVar 3))) (gNm 4) (sIf (bOr (bNot (tst (eLeLe (kst (.int 1)) (e1 opLen (rdVar 4)) (kst (.int 3))))) (tst (e2 (opEmp true) (eComp [5] (iSeq (ePv (rdVar 4))) (gNm 5) (bNot (tst (eLeLe (kst (.str "a")) (rdVar 5) (kst (.str "z"))))) (ePv (rdVar 5))) (eLst aNil)))) (sRet (kst .non)) sNil))
  (sRet (eIf (tst (e2 opLt (e1 opLen (rdVar 3)) (kst (.int 6)))) (eTup (aCons (ePv (e1 opTuple (rdVar 3))) (aCons (ePv (e1 opIntS (e2 opIx (rdVar 1) (kst (.int 1))))) aNil))) (kst .non)))))))
def fn__law_row : FSem := runDef 6 sem__law_row
theorem ok__law_row (F : Fx P w K mg base g) : DefOk P w K mg base g 1 "_law_row" 1 fn__law_row := by
  obtain ⟨f, fd, U, hm⟩ := F.u__law_row
  exact mkDef U hm sc__law_row rfl rfl (U.bindsN fun _ _ _ _ _ _ us hl => match us, hl with | [_], _ => rfl) fun cdv A outer s H E hr =>
  (ss_cons (ss_asg (sp_esc (se_bm PySem.F.plainAttrs_str PySem.F.slot_str_split PySem.F.type_str_split mt_split ty_str pr_split (se_var 0) (sa_cons (sp_esc se_str) sa_nil))) (sg_name (i := 1) sc__law_row.nd))
  (ss_cons (ss_if (sb_w (sb_or (sb_ne F.hK (rm64 hr) (se_len F.hK F.b_len (se_var 1)) se_int) (sb_or1 (sb_notIn F.hK (rm65 hr) (se_sub1 F.hK (se_var 1) se_int) (se_comp (own := [("_law_k", 2)]) rfl sc__law_row.nd (si_range1 F.b_range (sa_cons (sp_esc se_int) sa_nil)) (blkOk_by (N := N__law_row) (sc := defScope s__law_row) (by decide +kernel)) (fun _ _ _ _ _ => (sg_name (i := 2) sc__law_row.nd)) (fun _ _ _ _ _ => st_nil) (fun _ _ _ _ _ => (sp_esc (se_strI F.b_str (se_var 2))))))))) (ss_one (ss_ret se_non)) ss_nil)
  (ss_cons (ss_asg (sp_esc (se_if (sb_ne F.hK (rm64 hr) (se_sub1 F.hK (se_var 1) se_int) se_str) (se_bm PySem.F.plainAttrs_str PySem.F.slot_str_split PySem.F.type_str_split mt_split ty_str pr_split (se_sub1 F.hK (se_var 1) se_int) (sa_cons (sp_esc se_str) sa_nil)) (se_lst sa_nil))) (sg_name (i := 3) sc__law_row.nd))
  (ss_cons (ss_for (passes_of rfl) rfl (si_seq F.hK (sp_esc (se_var 3))) (sg_name (i := 4) sc__law_row.nd) (ss_one (ss_if (sb_w (sb_or (sb_not (sb_lele se_int (se_len F.hK F.b_len (se_var 4)) se_int)) (sb_or1 (sb_neE (rm64 hr) (se_comp (own := [("_law_sign", 5)]) rfl sc__law_row.nd (si_seq F.hK (sp_esc (se_var 4))) (blkOk_by (N := N__law_row) (sc := defScope s__law_row) (by decide +kernel)) (fun _ _ _ _ _ => (sg_name (i := 5) sc__law_row.nd)) (fun _ _ _ _ _ => (st_one (sb_not (sb_lele se_str (se_var 5) se_str)))) (fun _ _ _ _ _ => (sp_esc (se_var 5)))) (se_lst sa_nil))))) (ss_one (ss_ret se_non)) ss_nil)))
  (ss_one (ss_ret (se_if (sb_lt (se_len F.hK F.b_len (se_var 3)) se_int) (se_tup (sa_cons (sp_esc (se_tuple F.hK F.b_tuple (se_var 3))) (sa_cons (sp_esc (se_intS F.hK F.b_int (se_sub1 F.hK (se_var 1) se_int))) sa_nil))) se_non)))))))
def sem__law_changed : CM Fl :=
  (sSeq (sAsg (ePv (eBm isStr strSplit (rdVar 1) (aCons (ePv (kst (.str "\n"))) aNil))) (gNm 2))
  (sSeq (sAsg (ePv (eCall fn__law_next (aCons (ePv (rdVar 0)) (aCons (ePv (e1 opLen (rdVar 2))) aNil)))) (gNm 3))
  (sSeq (sAsg (ePv (eBm isStr strSplit (e2 opIx (rdVar 2) (rdVar 3)) (aCons (ePv (kst (.str " "))) aNil))) (gNm 4))
  (sSeq (sAsg (ePv (eCall fn__law_next (aCons (ePv (rdVar 0)) (aCons (ePv (e1 opLen (rdVar 4))) aNil)))) (gNm 5))
  (sSeq (sAsg (ePv (eLst (aCons (ePv (kst (.str ""))) (aCons (ePv (kst (.str "0"))) (aCons (ePv (kst (.str "00"))) (aCons (ePv (kst (.str "999"))) (aCons (ePv (kst (.str "1000"))) (aCons (ePv (kst (.str "-1"))) (aCons (ePv (kst (.str "."))) (aCons (ePv (kst (.str ".."))) (aCons (ePv (kst (.str "a."))) (aCons (ePv (kst (.str ".a"))) (aCons (ePv (kst (.str "a.b.c.d.e"))) (aCons (ePv (kst (.str "a.b.c.d.e.f"))) (aCons (ePv (kst (.str "abcd"))) (aCons (ePv (kst (.str "A"))) (aCons (ePv (kst (.str "a-b"))) aNil))))))))))))))))) (gNm 6))
  (sSeq (sAsg (ePv (eCall fn__law_next (aCons (ePv (rdVar 0)) (aCons (ePv (kst (.int 7))) aNil)))) (gNm 7))
  (sSeq (sIf (tst (e2 opLt (rdVar 7) (kst (.int 3)))) (sSeq (sAsg (ePv (e2 opIx (eLst (aCons (ePv (eLst aNil)) (aCons (ePv (e2 opMulL (eSl (rdVar 4) (oSome (rdVar 5)) (oSome (e2 opAdd (rdVar 5) (kst (.int 1))))) (kst (.int 2)))) (aCons (ePv (eLst (aCons (ePv (e2 opIx (rdVar 6) (eCall fn__law_next (aCons (ePv (rdVar 0)) (aCons (ePv (kst (.int 15))) aNil))))) aNil))) aNil)))) (rdVar 7))) (gNm 8))
  (sSeq (sAsg (ePv (eBm isStr strJoin (kst (.str " ")) (aCons (ePv (e2 opAdd (e2 opAdd (eSl (rdVar 4) oNone (oSome (rdVar 5))) (rdVar 8)) (eSl (rdVar 4) (oSome (e2 opAdd (rdVar 5) (kst (.int 1)))) oNone))) aNil))) (gNm 9))
  (sRet (eBm isStr strJoin (kst (.str "\n")) (aCons (ePv (e2 opAdd (e2 opAdd (eSl (rdVar 2) oNone (oSome (rdVar 3))) (eLst (aCons (ePv (rdVar 9)) aNil))) (eSl (rdVar 2) (oSome (e2 opAdd (rdVar 3) (kst (.int 1)))) oNone))) aNil))))) sNil)
  (sSeq (sIf (tst (e2 opLt (rdVar 7) (kst (.int 5)))) (sRet (eBm isStr strJoin (kst (.str "\n")) (aCons (ePv (e2 opAdd (e2 opAdd (eSl (rdVar 2) oNone (oSome (rdVar 3))) (e2 opMulL (eSl (rdVar 2) (oSome (rdVar 3)) (oSome (e2 opAdd (rdVar 3) (kst (.int 1))))) (e2 opIx (eLst (aCons (ePv (kst (.int 0))) (aCons (ePv (kst (.int 2))) aNil))) (e2 opSub (rdVar 7) (kst (.int 3)))))) (eSl (rdVar 2) (oSome (e2 opAdd (rdVar 3) (kst (.int 1)))) oNone))) aNil))) sNil)
  (sSeq (sAsg (ePv (eCall fn__law_next (aCons (ePv (rdVar 0)) (aCons (ePv (e2 opAdd (e1 opLen (rdVar 1)) (kst (.int 1)))) aNil)))) (gNm 10))
  (sSeq (sAsg (ePv (kst (.str " !#$&'()*+,-./0123456789:;<=>?@ABCDEFGHIJKLMNOPQRSTUVWXYZ[]^_`abcdefghijklmnopqrstuvwxyz{|}~\n"))) (gNm 11))
  (sRet (e2 opAdd (e2 opAdd (eSl (rdVar 1) oNone (oSome (rdVar 10))) (e2 opMulS (e2 opIx (rdVar 11) (eCall fn__law_next (aCons (ePv (rdVar 0)) (aCons (ePv (kst (.int 93))) aNil)))) (eCall fn__law_next (aCons (ePv (rdVar 0)) (aCons (ePv (kst (.int 2))) aNil))))) (eSl (rdVar 1) (oSome (e2 opAdd (rdVar 10) (eCall fn__law_next (aCons (ePv (rdVar 0)) (aCons (ePv (kst (.int 2))) aNil))))) oNone)))))))))))))
def fn__law_changed : FSem := runDef 12 sem__law_changed
theorem ok__law_changed (F : Fx P w K mg base g) : DefOk P w K mg base g 2 "_law_changed" 2 fn__law_changed := by
  obtain ⟨f, fd, U, hm⟩ := F.u__law_changed
  exact mkDef U hm sc__law_changed rfl rfl (U.bindsN fun _ _ _ _ _ _ us hl => match us, hl with | [_, _], _ => rfl) fun cdv A outer s H E hr =>
  (ss_cons (ss_asg (sp_esc (se_bm PySem.F.plainAttrs_str PySem.F.slot_str_split PySem.F.type_str_split mt_split ty_str pr_split (se_var 1) (sa_cons (sp_esc se_str) sa_nil))) (sg_name (i := 2) sc__law_changed.nd))
  (ss_cons (ss_asg (sp_esc (se_call (ok__law_next F) (takes_of rfl rfl rfl rfl) (hr.mono (by decide)) (sa_cons (sp_esc (se_var 0)) (sa_cons (sp_esc (se_len F.hK F.b_len (se_var 2))) sa_nil)) (hl := (aCons_len (aCons_len aNil_len))))) (sg_name (i := 3) sc__law_changed.nd))
  (ss_cons (ss_asg (sp_esc (se_bm PySem.F.plainAttrs_str PySem.F.slot_str_split PySem.F.type_str_split mt_split ty_str pr_split (se_sub1 F.hK (se_var 2) (se_var 3)) (sa_cons (sp_esc se_str) sa_nil))) (sg_name (i := 4) sc__law_changed.nd))
  (ss_cons (ss_asg (sp_esc (se_call (ok__law_next F) (takes_of rfl rfl rfl rfl) (hr.mono (by decide)) (sa_cons (sp_esc (se_var 0)) (sa_cons (sp_esc (se_len F.hK F.b_len (se_var 4))) sa_nil)) (hl := (aCons_len (aCons_len aNil_len))))) (sg_name (i := 5) sc__law_changed.nd))
  (ss_cons (ss_asg (sp_esc (se_lst (sa_cons (sp_esc se_str) (sa_cons (sp_esc se_str) (sa_cons (sp_esc se_str) (sa_cons (sp_esc se_str) (sa_cons (sp_esc se_str) (sa_cons (sp_esc se_str) (sa_cons (sp_esc se_str) (sa_cons (sp_esc se_str) (sa_cons (sp_esc se_str) (sa_cons (sp_esc se_str) (sa_cons (sp_esc se_str) (sa_cons (sp_esc se_str) (sa_cons (sp_esc se_str) (sa_cons (sp_esc se_str) (sa_cons (sp_esc se_str) sa_nil))))))))))))))))) (sg_name (i := 6) sc__law_changed.nd))
  (ss_cons (ss_asg (sp_esc (se_call (ok__law_next F) (takes_of rfl rfl rfl rfl) (hr.mono (by decide)) (sa_cons (sp_esc (se_var 0)) (sa_cons (sp_esc se_int) sa_nil)) (hl := (aCons_len (aCons_len aNil_len))))) (sg_name (i := 7) sc__law_changed.nd))
  (ss_cons (ss_if (sb_lt (se_var 7) se_int) (ss_cons (ss_asg (sp_esc (se_sub1 F.hK (se_lst (sa_cons (sp_esc (se_lst sa_nil)) (sa_cons (sp_esc (se_mulL (se_sl F.hK (se_var 4) (so_some (se_var 5)) (so_some (se_add F.hK (se_var 5) se_int))) se_int)) (sa_cons (sp_esc (se_lst (sa_cons (sp_esc (se_sub1 F.hK (se_var 6) (se_call (ok__law_next F) (takes_of rfl rfl rfl rfl) (hr.mono (by decide)) (sa_cons (sp_esc (se_var 0)) (sa_cons (sp_esc se_int) sa_nil)) (hl := (aCons_len (aCons_len aNil_len)))))) sa_nil))) sa_nil)))) (se_var 7))) (sg_name (i := 8) sc__law_changed.nd))
  (ss_cons (ss_asg (sp_esc (se_bm PySem.F.plainAttrs_str PySem.F.slot_str_join PySem.F.type_str_join mt_joinC ty_str (F.hK ▸ pr_join) se_str (sa_cons (sp_esc (se_add F.hK (se_add F.hK (se_sl F.hK (se_var 4) so_none (so_some (se_var 5))) (se_var 8)) (se_sl F.hK (se_var 4) (so_some (se_add F.hK (se_var 5) se_int)) so_none))) sa_nil))) (sg_name (i := 9) sc__law_changed.nd))
  (ss_one (ss_ret (se_bm PySem.F.plainAttrs_str PySem.F.slot_str_join PySem.F.type_str_join mt_joinC ty_str (F.hK ▸ pr_join) se_str (sa_cons (sp_esc (se_add F.hK (se_add F.hK (se_sl F.hK (se_var 2) so_none (so_some (se_var 3))) (se_lst (sa_cons (sp_esc (se_var 9)) sa_nil))) (se_sl F.hK (se_var 2) (so_some (se_add F.hK (se_var 3) se_int)) so_none))) sa_nil)))))) ss_nil)
  (ss_cons (ss_if (sb_lt (se_var 7) se_int) (ss_one (ss_ret (se_bm PySem.F.plainAttrs_str PySem.F.slot_str_join PySem.F.type_str_join mt_joinC ty_str (F.hK ▸ pr_join) se_str (sa_cons (sp_esc (se_add F.hK (se_add F.hK (se_sl F.hK (se_var 2) so_none (so_some (se_var 3))) (se_mulL (se_sl F.hK (se_var 2) (so_some (se_var 3)) (so_some (se_add F.hK (se_var 3) se_int))) (se_sub1 F.hK (se_lst (sa_cons (sp_esc se_int) (sa_cons (sp_esc se_int) sa_nil))) (se_sub (se_var 7) se_int)))) (se_sl F.hK (se_var 2) (so_some (se_add F.hK (se_var 3) se_int)) so_none))) sa_nil)))) ss_nil)
  (ss_cons (ss_asg (sp_esc (se_call (ok__law_next F) (takes_of rfl rfl rfl rfl) (hr.mono (by decide)) (sa_cons (sp_esc (se_var 0)) (sa_cons (sp_esc (se_add F.hK (se_len F.hK F.b_len (se_var 1)) se_int)) sa_nil)) (hl := (aCons_len (aCons_len aNil_len))))) (sg_name (i := 10) sc__law_changed.nd))
  (ss_cons (ss_asg (sp_esc se_str) (sg_name (i := 11) sc__law_changed.nd))
  (ss_one (ss_ret (se_add F.hK (se_add F.hK (se_sl F.hK (se_var 1) so_none (so_some (se_var 10))) (se_mulS (se_sub1 F.hK (se_var 11) (se_call (ok__law_next F) (takes_of rfl rfl rfl rfl) (hr.mono (by decide)) (sa_cons (sp_esc (se_var 0)) (sa_cons (sp_esc se_int) sa_nil)) (hl := (aCons_len (aCons_len aNil_len))))) (se_call (ok__law_next F) (takes_of rfl rfl rfl rfl) (hr.mono (by decide)) (sa_cons (sp_esc (se_var 0)) (sa_cons (sp_esc se_int) sa_nil)) (hl := (aCons_len (aCons_len aNil_len)))))) (se_sl F.hK (se_var 1) (so_some (se_add F.hK (se_var 10) (se_call (ok__law_next F) (takes_of rfl rfl rfl rfl) (hr.mono (by decide)) (sa_cons (sp_esc (se_var 0)) (sa_cons (sp_esc se_int) sa_nil)) (hl := (aCons_len (aCons_len aNil_len)))))) so_none))))))))))))))
abbrev tN : Nat := 4
abbrev tE : Nat := 1
def sem_told_suite : CM Fl :=
  (sSeq (sOwn 2 (eLst (aCons (ePv (eIsE 1 ki_BadHouse)) (aCons (ePv (eIsE 1 ki_BadName)) (aCons (ePv (eIsE 1 ki_BadNumber)) (aCons (ePv (eIsE 1 ki_NotHome)) aNil))))))
  (sSeq (sOwn 2 (e2 opAdd (rdVar 2) (eLst (aCons (ePv (eIsE 1 ki_BadCut)) (aCons (ePv (eIsE 1 ki_Full)) (aCons (ePv (eIsE 1 ki_BadTables)) (aCons (ePv (eIsE 1 ki_BadLog)) aNil)))))))
  (sSeq (sExpr (eBm isList lAppend (rdVar 2) (aCons (ePv (eIsE 1 ki_BadText)) aNil)))
  (sSeq (sIf (bOr (tst (e2 opNe (eBm isList lCount (rdVar 2) (aCons (ePv (kst (.bl true))) aNil)) (kst (.int 1)))) (bNot (tst (eIsE 1 ki_ValueError)))) (sRet (eTup (aCons (ePv (kst (.str "refused"))) (aCons (ePv (kst (.str "other"))) aNil)))) sNil)
  (sSeq (sAsg (ePv (e2 opIx (eLst (aCons (ePv (kst (.str "house"))) (aCons (ePv (kst (.str "name"))) (aCons (ePv (kst (.str "number"))) (aCons (ePv (kst (.str "home"))) (aCons (ePv (kst (.str "cut"))) (aCons (ePv (kst (.str "full"))) (aCons (ePv (kst (.str "tables"))) (aCons (ePv (kst (.str "log"))) (aCons (ePv (kst (.str "text"))) aNil)))))))))) (eBm isList lIndex (rdVar 2) (aCons (ePv (kst (.bl true))) aNil)))) (gNm 3))
  (sSeq (sIf (tst (e2 (opIn false) (rdVar 3) (eTup (aCons (ePv (kst (.str "tables"))) (aCons (ePv (kst (.str "log"))) aNil))))) (sRet (eTup (aCons (ePv (kst (.str "refused"))) (aCons (ePv (rdVar 3)) (aCons (ePv (eXf 1 "number" okx_number)) aNil))))) sNil)
  (sRet (eIf (tst (e2 opEq (rdVar 3) (kst (.str "text")))) (eTup (aCons (ePv (kst (.str "refused"))) (aCons (ePv (rdVar 3)) (aCons (ePv (eXf 1 "row" okx_row)) aNil)))) (eTup (aCons (ePv (kst (.str "refused"))) (aCons (ePv (rdVar 3)) aNil)))))))))))
def L0 : LD := ldOf (some "_law_a") (plArg 0 (plCmp (plIfT (plS 16 (plFor (plS 1 (defBody s_law)))))))
theorem lamW_0 : LamW L0 := ⟨rfl, (fun h => nomatch h), (fun n h => ⟨_, _, rfl⟩)⟩
theorem lamB_0 : LamB L0 := ⟨(fun h => nomatch h), fun n h _ _ _ _ _ _ _ => by cases h; exact ⟨_, rfl, fun t => rfl⟩⟩
def L1 : LD := ldOf none (plArg 0 (plArg 0 (plNot (plBool 1 (plIfT (plS 11 (plFor (plS 1 (defBody s_law)))))))))
theorem lamW_1 : LamW L1 := ⟨rfl, fun _ => rfl, fun n h => nomatch h⟩
theorem lamB_1 : LamB L1 := ⟨fun _ _ _ _ _ _ _ => rfl, fun n h => nomatch h⟩
def Ds : Nat → Option LD
  | 0 => some L0
  | 1 => some L1
  | _ => none
def lam_0 : CM RV := (eCall fn_written (aCons (ePv (rdVar 16)) aNil))
def lam_1 : CM RV := (eCall fn_read (aCons (ePv (rdVar 7)) aNil))
def bodies : Nat → Option (CM RV)
  | 0 => some lam_0
  | 1 => some lam_1
  | _ => none
def sem_law : CM Fl :=
  (sSeq (sAsg (eSh (eCall fn__law_dice (aCons (ePv (rdVar 0)) aNil))) (gNm 1))
  (sSeq (sFor (iRange1 (aCons (ePv (kst (.int 5))) aNil)) (gNm 2) (sSeq (sAsg (ePv (eCall fn__law_labels (aCons (ePv (rdVar 1)) aNil))) (gNm 3))
  (sSeq (sOwn 4 (eLst aNil))
  (sSeq (sFor (iRange1 (aCons (ePv (eCall fn__law_next (aCons (ePv (rdVar 1)) (aCons (ePv (kst (.int 12))) aNil)))) aNil)) (gNm 5) (sExpr (eBm isList lAppend (rdVar 4) (aCons (ePv (eTup (aCons (ePv (eCall fn__law_name (aCons (ePv (rdVar 1)) (aCons (ePv (rdVar 3)) aNil)))) (aCons (ePv (e2 opIx (eLst (aCons (ePv (kst (.int 0))) (aCons (ePv (kst (.int 999))) (aCons (ePv (eCall fn__law_next (aCons (ePv (rdVar 1)) (aCons (ePv (kst (.int 1000))) aNil)))) aNil)))) (eCall fn__law_next (aCons (ePv (rdVar 1)) (aCons (ePv (kst (.int 3))) aNil))))) aNil)))) aNil))))
  (sSeq (sAsg (ePv (eComp [17, 18] (iSeq (ePv (rdVar 4))) (gTp 2 (gsCons (gNm 17) (gsCons (gNm 18) gsNil))) bTrue (ePv (eIf (tst (e2 opNe (rdVar 17) (eTup aNil))) (eBm isStr strJoin (kst (.str ".")) (aCons (ePv (rdVar 17)) aNil)) (kst (.str ".")))))) (gNm 6))
  (sSeq (sAsg (ePv (eBm isStr strJoin (kst (.str "\n")) (aCons (ePv (eComp [5] (iRange1 (aCons (ePv (e1 opLen (rdVar 4))) aNil)) (gNm 5) bTrue (ePv (e2 opAdd (e2 opAdd (e2 opIx (rdVar 6) (rdVar 5)) (kst (.str " "))) (e1 opStr (e2 opIx (e2 opIx (rdVar 4) (rdVar 5)) (kst (.int 1)))))))) aNil))) (gNm 7))
  (sSeq (sAsg (ePv (e1 opList (rdVar 4))) (gNm 8))
  (sSeq (sIf (bOr (bNot (tst (eCall fn__law_like (aCons (ePv (eCall fn_written (aCons (ePv (rdVar 8)) aNil))) (aCons (ePv (rdVar 7)) aNil))))) (bOr (bNot (tst (eCall fn__law_like (aCons (ePv (eCall fn_read (aCons (ePv (rdVar 7)) aNil))) (aCons (ePv (rdVar 4)) aNil))))) (tst (e2 opNe (rdVar 8) (rdVar 4))))) (sRet (kst (.bl false))) sNil)
  (sSeq (sExpr (eBm isList lAppend (eCall fn_read (aCons (ePv (rdVar 7)) aNil)) (aCons (ePv (kst (.int 0))) aNil)))
  (sSeq (sFor (iRange1 (aCons (ePv (eCall fn__law_next (aCons (ePv (rdVar 1)) (aCons (ePv (kst (.int 4))) aNil)))) aNil)) (gNm 9) (sAsg (ePv (eCall fn__law_changed (aCons (ePv (rdVar 1)) (aCons (ePv (rdVar 7)) aNil)))) (gNm 7)))
  (sSeq (sAsg (ePv (eIf (tst (e2 opNe (rdVar 7) (kst (.str "")))) (eComp [19] (iSeq (ePv (eBm isStr strSplit (rdVar 7) (aCons (ePv (kst (.str "\n"))) aNil)))) (gNm 19) bTrue (ePv (eCall fn__law_row (aCons (ePv (rdVar 19)) aNil)))) (eLst aNil))) (gNm 10))
  (sSeq (sAsg (ePv (eIf (tst (e2 (opIn false) (kst .non) (rdVar 10))) (eTup (aCons (ePv (kst (.str "refused"))) (aCons (ePv (kst (.str "text"))) (aCons (ePv (eBm isList lIndex (rdVar 10) (aCons (ePv (kst .non)) aNil))) aNil)))) (rdVar 10))) (gNm 11))
  (sSeq (sIf (bAnd (tst (e2 opLe (e1 opLen (rdVar 7)) (kst (.int 600)))) (bNot (tst (eCall fn__law_like (aCons (ePv (eTold bodies tN tE emB sem_told_suite (ePv (eLam 0 1)))) (aCons (ePv (rdVar 11)) aNil)))))) (sRet (kst (.bl false))) sNil)
  (sSeq (sAsg (ePv (eCall fn__law_next (aCons (ePv (rdVar 1)) (aCons (ePv (e2 opAdd (e1 opLen (rdVar 4)) (kst (.int 1)))) aNil)))) (gNm 12))
  (sSeq (sAsg (ePv (eLst (aCons (ePv (eTup (aCons (ePv (eTup (aCons (ePv (eTup (aCons (ePv (kst (.str "A"))) aNil))) (aCons (ePv (kst (.int 1))) aNil)))) (aCons (ePv (kst (.str "name"))) aNil)))) (aCons (ePv (eTup (aCons (ePv (eTup (aCons (ePv (eTup (aCons (ePv (kst (.str "a"))) aNil))) (aCons (ePv (kst (.int 1000))) aNil)))) (aCons (ePv (kst (.str "number"))) aNil)))) (aCons (ePv (eTup (aCons (ePv (eTup (aCons (ePv (e2 opMulT (eTup (aCons (ePv (kst (.str "a"))) aNil)) (kst (.int 6)))) (aCons (ePv (e1 opNeg (kst (.int 1)))) aNil)))) (aCons (ePv (kst (.str "name"))) aNil)))) (aCons (ePv (eTup (aCons (ePv (eTup (aCons (ePv (eTup (aCons (ePv (kst (.str "a"))) aNil))) (aCons (ePv (e1 opNeg (kst (.int 1)))) aNil)))) (aCons (ePv (kst (.str "number"))) aNil)))) aNil)))))) (gNm 13))
  (sSeq (sAsg (ePv (e2 opIx (e2 opAdd (rdVar 13) (eLst (aCons (ePv (eTup (aCons (ePv (eTup (aCons (ePv (eTup (aCons (ePv (kst (.str ""))) aNil))) (aCons (ePv (kst (.int 1000))) aNil)))) (aCons (ePv (kst (.str "name"))) aNil)))) (aCons (ePv (eTup (aCons (ePv (eTup (aCons (ePv (eTup (aCons (ePv (kst (.str "a"))) aNil))) (aCons (ePv (kst .non)) aNil)))) (aCons (ePv (kst (.str "number"))) aNil)))) (aCons (ePv (eTup (aCons (ePv (eTup (aCons (ePv (kst (.int 5))) (aCons (ePv (kst (.int 5))) aNil)))) (aCons (ePv (kst (.str "name"))) aNil)))) aNil))))) (eCall fn__law_next (aCons (ePv (rdVar 1)) (aCons (ePv (kst (.int 7))) aNil))))) (gTp 2 (gsCons (gNm 14) (gsCons (gNm 15) gsNil))))
  (sSeq (sAsg (ePv (e2 opAdd (e2 opAdd (e2 opAdd (eSl (rdVar 4) oNone (oSome (rdVar 12))) (eLst (aCons (ePv (rdVar 14)) aNil))) (eSl (rdVar 4) (oSome (rdVar 12)) oNone)) (eLst (aCons (ePv (eTup (aCons (ePv (eTup (aCons (ePv (kst (.str "A"))) aNil))) (aCons (ePv (e1 opNeg (kst (.int 1)))) aNil)))) aNil)))) (gNm 16))
  (sIf (tst (e2 opNe (eTold bodies tN tE emB sem_told_suite (ePv (eLam 0 0))) (eTup (aCons (ePv (kst (.str "refused"))) (aCons (ePv (rdVar 15)) aNil))))) (sRet (kst (.bl false))) sNil))))))))))))))))))
  (sRet (kst (.bl true)))))
def fn_law : FSem := runDef 20 sem_law
theorem teller (F : ∀ x, Fx P w K mg base (g.withX x)) (X : Cx) (h1 : X.prog = P) (h2 : X.w = w) (h3 : X.K = K) (h4 : X.mg = mg) (h5 : X.base = base) : Teller X g 5 "_law_told" tN tE emB sem_told_suite := by
  subst h1 h2 h3 h4 h5
  obtain ⟨gA, fd, U, hm⟩ := (F none).u__law_told
  obtain ⟨B, hB, hem⟩ := (F none).em
  refine ⟨⟨"_law_work", "BookError", "e", N__law_told, defScope s__law_told, _, gA, B, fd, _, _, _, _, _, _, _, _, hm, U, (U.bindsN fun _ _ _ _ _ _ us hl => match us, hl with | [_], _ => rfl), sc__law_told, rfl, rfl, Or.inl rfl, by decide, by decide, rfl, rfl, rfl, by decide, hB, hem, ?_⟩⟩
  intro cdv A outer s H a0 oe cls d pn hr hz hf
  have F := F (some (a0, cls, d))
  have hu4 := rm64 hr
  have hu5 := rm65 hr
  exact (ss_cons (ss_own sc__law_told.nd (se_lst (sa_cons (sp_esc (se_isE hz hf rfl (F.kk_BadHouse _ rfl rfl rfl rfl rfl rfl) F.b_isinstance)) (sa_cons (sp_esc (se_isE hz hf rfl (F.kk_BadName _ rfl rfl rfl rfl rfl rfl) F.b_isinstance)) (sa_cons (sp_esc (se_isE hz hf rfl (F.kk_BadNumber _ rfl rfl rfl rfl rfl rfl) F.b_isinstance)) (sa_cons (sp_esc (se_isE hz hf rfl (F.kk_NotHome _ rfl rfl rfl rfl rfl rfl) F.b_isinstance)) sa_nil))))))
  (ss_cons (ss_own sc__law_told.nd (se_add F.hK (se_var 2) (se_lst (sa_cons (sp_esc (se_isE hz hf rfl (F.kk_BadCut _ rfl rfl rfl rfl rfl rfl) F.b_isinstance)) (sa_cons (sp_esc (se_isE hz hf rfl (F.kk_Full _ rfl rfl rfl rfl rfl rfl) F.b_isinstance)) (sa_cons (sp_esc (se_isE hz hf rfl (F.kk_BadTables _ rfl rfl rfl rfl rfl rfl) F.b_isinstance)) (sa_cons (sp_esc (se_isE hz hf rfl (F.kk_BadLog _ rfl rfl rfl rfl rfl rfl) F.b_isinstance)) sa_nil)))))))
  (ss_cons (ss_expr (se_bm PySem.F.plainAttrs_list PySem.F.slot_list_append PySem.F.type_list_append mt_append ty_list pr_append (se_var 2) (sa_cons (sp_esc (se_isE hz hf rfl (F.kk_BadText _ rfl rfl rfl rfl rfl rfl) F.b_isinstance)) sa_nil)))
  (ss_cons (ss_if (sb_w (sb_or (sb_ne F.hK hu4 (se_bm PySem.F.plainAttrs_list PySem.F.slot_list_count PySem.F.type_list_count (mt_countD hu5) ty_list (F.hK ▸ pr_count) (se_var 2) (sa_cons (sp_esc se_bl) sa_nil)) se_int) (sb_or1 (sb_not (sb_val (se_isE hz hf rfl (F.kk_ValueError _ rfl rfl rfl rfl rfl rfl) F.b_isinstance)))))) (ss_one (ss_ret (se_tup (sa_cons (sp_esc se_str) (sa_cons (sp_esc se_str) sa_nil))))) ss_nil)
  (ss_cons (ss_asg (sp_esc (se_sub1 F.hK (se_lst (sa_cons (sp_esc se_str) (sa_cons (sp_esc se_str) (sa_cons (sp_esc se_str) (sa_cons (sp_esc se_str) (sa_cons (sp_esc se_str) (sa_cons (sp_esc se_str) (sa_cons (sp_esc se_str) (sa_cons (sp_esc se_str) (sa_cons (sp_esc se_str) sa_nil)))))))))) (se_bm PySem.F.plainAttrs_list PySem.F.slot_list_index PySem.F.type_list_index (mt_indexD hu5) ty_list (F.hK ▸ pr_index) (se_var 2) (sa_cons (sp_esc se_bl) sa_nil)))) (sg_name (i := 3) sc__law_told.nd))
  (ss_cons (ss_if (sb_in F.hK hu5 (se_var 3) (se_tup (sa_cons (sp_esc se_str) (sa_cons (sp_esc se_str) sa_nil)))) (ss_one (ss_ret (se_tup (sa_cons (sp_esc se_str) (sa_cons (sp_esc (se_var 3)) (sa_cons (sp_esc (se_xf hz hf rfl F.xf_number)) sa_nil)))))) ss_nil)
  (ss_one (ss_ret (se_if (sb_eq F.hK hu4 (se_var 3) se_str) (se_tup (sa_cons (sp_esc se_str) (sa_cons (sp_esc (se_var 3)) (sa_cons (sp_esc (se_xf hz hf rfl F.xf_row)) sa_nil)))) (se_tup (sa_cons (sp_esc se_str) (sa_cons (sp_esc (se_var 3)) sa_nil))))))))))))
def mkG (P : Program) (w : World) (K : PySem.W.Frag) (ct : Nat → Addr) (X : Cx) (tP : Addr) : G := { P := P, w := w, K := K, ct := ct, Phi := fun j o c oc => ∃ D, Ds j = some D ∧ LamObj X D o c oc, xa := none, tP := tP, lq := X.env.qual ++ "<lambda>" }
/-- the law's body -/
theorem law_body {ct : Nat → Addr} (F0 : ∀ g : G, g.K = K → g.P = P → g.w = w → g.ct = ct → Fx P w K mg base g) {fa tP : Addr} {c : Addr} (TB0 : LamX.TabB base mg c tP) (A : Around) (outer : List Env) (s : Shared) (H : Hp) (E : XK) (hr : Room 13 (A.deeper (envOfC "law" (defScope s_law) s.heap.objs.size fa (.ref c)))) :
    SSs (cxOf (L2.CX P w) P w K mg base N_law "law" (defScope s_law) fa (.ref c) A outer s H E) (mkG P w K ct (cxOf (L2.CX P w) P w K mg base N_law "law" (defScope s_law) fa (.ref c) A outer s H E) tP) (fun cls d _ H => E cls d H) (defBody s_law) sem_law := by
  have F : Fx P w K mg base (mkG P w K ct (cxOf (L2.CX P w) P w K mg base N_law "law" (defScope s_law) fa (.ref c) A outer s H E) tP) := F0 _ rfl rfl rfl rfl
  have hcode : (cxOf (L2.CX P w) P w K mg base N_law "law" (defScope s_law) fa (.ref c) A outer s H E).env.code = .ref c := rfl
  have TB : LamX.TabB (cxOf (L2.CX P w) P w K mg base N_law "law" (defScope s_law) fa (.ref c) A outer s H E).base (cxOf (L2.CX P w) P w K mg base N_law "law" (defScope s_law) fa (.ref c) A outer s H E).mg c tP := TB0
  have TL := teller (g := mkG P w K ct (cxOf (L2.CX P w) P w K mg base N_law "law" (defScope s_law) fa (.ref c) A outer s H E) tP) (fun x => F0 _ rfl rfl rfl rfl) (cxOf (L2.CX P w) P w K mg base N_law "law" (defScope s_law) fa (.ref c) A outer s H E) rfl rfl rfl rfl rfl
  have hq : (mkG P w K ct (cxOf (L2.CX P w) P w K mg base N_law "law" (defScope s_law) fa (.ref c) A outer s H E) tP).lq = (cxOf (L2.CX P w) P w K mg base N_law "law" (defScope s_law) fa (.ref c) A outer s H E).env.qual ++ "<lambda>" := rfl
  have hPhi2 : ∀ j o c2 oc, (mkG P w K ct (cxOf (L2.CX P w) P w K mg base N_law "law" (defScope s_law) fa (.ref c) A outer s H E) tP).Phi j o c2 oc → ∃ D, Ds j = some D ∧ LamObj (cxOf (L2.CX P w) P w K mg base N_law "law" (defScope s_law) fa (.ref c) A outer s H E) D o c2 oc := fun j o c2 oc h => h
  have hlam : ∀ j D, Ds j = some D → LamS3 N_law (defScope s_law) D ∧ LamB D := by
    intro j D h
    match j, h with
    | 0, h => cases h; exact ⟨lamS3_by (by decide +kernel), lamB_0⟩
    | 1, h => cases h; exact ⟨lamS3_by (by decide +kernel), lamB_1⟩
  have hbod : ∀ j D, Ds j = some D → ∃ mj, bodies j = some mj ∧ ∀ (A' : Around) (outer' : List Env) (s' : Shared) (H' : Hp) (E' : XK) (f c' : Addr), Room 4 (A'.deeper (lamEnv3 (cxOf (L2.CX P w) P w K mg base N_law "law" (defScope s_law) fa (.ref c) A outer s H E) D s'.heap.objs.size f c')) → SE (lamCx3 (cxOf (L2.CX P w) P w K mg base N_law "law" (defScope s_law) fa (.ref c) A outer s H E) D A' outer' s' H' E' f c') (mkG P w K ct (cxOf (L2.CX P w) P w K mg base N_law "law" (defScope s_law) fa (.ref c) A outer s H E) tP) (fun cls d _ H => E' cls d H) D.body mj := by
    intro j D h
    match j, h with
    | 0, h => cases h; exact ⟨lam_0, rfl, fun A' outer' s' H' E' f c' hr => (se_call (ok_written F) (takes_of rfl rfl rfl rfl) (hr.mono (by decide)) (sa_cons (sp_esc (se_var 16)) sa_nil) (hl := (aCons_len aNil_len)))⟩
    | 1, h => cases h; exact ⟨lam_1, rfl, fun A' outer' s' H' E' f c' hr => (se_call (ok_read F) (takes_of rfl rfl rfl rfl) (hr.mono (by decide)) (sa_cons (sp_esc (se_var 7)) sa_nil) (hl := (aCons_len aNil_len)))⟩
  exact (ss_cons (ss_asg (sp_shr (se_call (ok__law_dice F) (takes_of rfl rfl rfl rfl) (hr.mono (by decide)) (sa_cons (sp_esc (se_var 0)) sa_nil) (hl := (aCons_len aNil_len)))) (sg_name (i := 1) sc_law.nd))
  (ss_cons (ss_for (passes_of rfl) rfl (si_range1 F.b_range (sa_cons (sp_esc se_int) sa_nil)) (sg_name (i := 2) sc_law.nd) (ss_cons (ss_asg (sp_esc (se_call (ok__law_labels F) (takes_of rfl rfl rfl rfl) (hr.mono (by decide)) (sa_cons (sp_esc (se_var 1)) sa_nil) (hl := (aCons_len aNil_len)))) (sg_name (i := 3) sc_law.nd))
  (ss_cons (ss_own sc_law.nd (se_lst sa_nil))
  (ss_cons (ss_for (passes_of rfl) rfl (si_range1 F.b_range (sa_cons (sp_esc (se_call (ok__law_next F) (takes_of rfl rfl rfl rfl) (hr.mono (by decide)) (sa_cons (sp_esc (se_var 1)) (sa_cons (sp_esc se_int) sa_nil)) (hl := (aCons_len (aCons_len aNil_len))))) sa_nil)) (sg_name (i := 5) sc_law.nd) (ss_one (ss_expr (se_bm PySem.F.plainAttrs_list PySem.F.slot_list_append PySem.F.type_list_append mt_append ty_list pr_append (se_var 4) (sa_cons (sp_esc (se_tup (sa_cons (sp_esc (se_call (ok__law_name F) (takes_of rfl rfl rfl rfl) (hr.mono (by decide)) (sa_cons (sp_esc (se_var 1)) (sa_cons (sp_esc (se_var 3)) sa_nil)) (hl := (aCons_len (aCons_len aNil_len))))) (sa_cons (sp_esc (se_sub1 F.hK (se_lst (sa_cons (sp_esc se_int) (sa_cons (sp_esc se_int) (sa_cons (sp_esc (se_call (ok__law_next F) (takes_of rfl rfl rfl rfl) (hr.mono (by decide)) (sa_cons (sp_esc (se_var 1)) (sa_cons (sp_esc se_int) sa_nil)) (hl := (aCons_len (aCons_len aNil_len))))) sa_nil)))) (se_call (ok__law_next F) (takes_of rfl rfl rfl rfl) (hr.mono (by decide)) (sa_cons (sp_esc (se_var 1)) (sa_cons (sp_esc se_int) sa_nil)) (hl := (aCons_len (aCons_len aNil_len)))))) sa_nil)))) sa_nil)))))
  (ss_cons (ss_asg (sp_esc (se_comp (own := [("_law_name_here", 17), ("_law_number", 18)]) rfl sc_law.nd (si_seq F.hK (sp_esc (se_var 4))) (blkOk_by (N := N_law) (sc := defScope s_law) (by decide +kernel)) (fun _ _ _ _ _ => (sg_tup F.hK rfl (sg_cons (sg_name (i := 17) sc_law.nd) (sg_cons (sg_name (i := 18) sc_law.nd) sg_nil)))) (fun _ _ _ _ _ => st_nil) (fun _ _ _ _ _ => (sp_esc (se_if (sb_ne F.hK (rm64 hr) (se_var 17) (se_tup sa_nil)) (se_bm PySem.F.plainAttrs_str PySem.F.slot_str_join PySem.F.type_str_join mt_joinC ty_str (F.hK ▸ pr_join) se_str (sa_cons (sp_esc (se_var 17)) sa_nil)) se_str))))) (sg_name (i := 6) sc_law.nd))
  (ss_cons (ss_asg (sp_esc (se_bm PySem.F.plainAttrs_str PySem.F.slot_str_join PySem.F.type_str_join mt_joinC ty_str (F.hK ▸ pr_join) se_str (sa_cons (sp_esc (se_comp (own := [("_law_k", 5)]) rfl sc_law.nd (si_range1 F.b_range (sa_cons (sp_esc (se_len F.hK F.b_len (se_var 4))) sa_nil)) (blkOk_by (N := N_law) (sc := defScope s_law) (by decide +kernel)) (fun _ _ _ _ _ => (sg_name (i := 5) sc_law.nd)) (fun _ _ _ _ _ => st_nil) (fun _ _ _ _ _ => (sp_esc (se_add F.hK (se_add F.hK (se_sub1 F.hK (se_var 6) (se_var 5)) se_str) (se_strI F.b_str (se_sub1 F.hK (se_sub1 F.hK (se_var 4) (se_var 5)) se_int))))))) sa_nil))) (sg_name (i := 7) sc_law.nd))
  (ss_cons (ss_asg (sp_esc (se_list F.hK F.b_list (se_var 4))) (sg_name (i := 8) sc_law.nd))
  (ss_cons (ss_if (sb_w (sb_or (sb_not (sb_val (se_call (ok__law_like F) (takes_of rfl rfl rfl rfl) (hr.mono (by decide)) (sa_cons (sp_esc (se_call (ok_written F) (takes_of rfl rfl rfl rfl) (hr.mono (by decide)) (sa_cons (sp_esc (se_var 8)) sa_nil) (hl := (aCons_len aNil_len)))) (sa_cons (sp_esc (se_var 7)) sa_nil)) (hl := (aCons_len (aCons_len aNil_len)))))) (sb_or (sb_not (sb_val (se_call (ok__law_like F) (takes_of rfl rfl rfl rfl) (hr.mono (by decide)) (sa_cons (sp_esc (se_call (ok_read F) (takes_of rfl rfl rfl rfl) (hr.mono (by decide)) (sa_cons (sp_esc (se_var 7)) sa_nil) (hl := (aCons_len aNil_len)))) (sa_cons (sp_esc (se_var 4)) sa_nil)) (hl := (aCons_len (aCons_len aNil_len)))))) (sb_or1 (sb_ne F.hK (rm64 hr) (se_var 8) (se_var 4)))))) (ss_one (ss_ret se_bl)) ss_nil)
  (ss_cons (ss_expr (se_bm PySem.F.plainAttrs_list PySem.F.slot_list_append PySem.F.type_list_append mt_append ty_list pr_append (se_call (ok_read F) (takes_of rfl rfl rfl rfl) (hr.mono (by decide)) (sa_cons (sp_esc (se_var 7)) sa_nil) (hl := (aCons_len aNil_len))) (sa_cons (sp_esc se_int) sa_nil)))
  (ss_cons (ss_for (passes_of rfl) rfl (si_range1 F.b_range (sa_cons (sp_esc (se_call (ok__law_next F) (takes_of rfl rfl rfl rfl) (hr.mono (by decide)) (sa_cons (sp_esc (se_var 1)) (sa_cons (sp_esc se_int) sa_nil)) (hl := (aCons_len (aCons_len aNil_len))))) sa_nil)) (sg_name (i := 9) sc_law.nd) (ss_one (ss_asg (sp_esc (se_call (ok__law_changed F) (takes_of rfl rfl rfl rfl) (hr.mono (by decide)) (sa_cons (sp_esc (se_var 1)) (sa_cons (sp_esc (se_var 7)) sa_nil)) (hl := (aCons_len (aCons_len aNil_len))))) (sg_name (i := 7) sc_law.nd))))
  (ss_cons (ss_asg (sp_esc (se_if (sb_ne F.hK (rm64 hr) (se_var 7) se_str) (se_comp (own := [("_law_line", 19)]) rfl sc_law.nd (si_seq F.hK (sp_esc (se_bm PySem.F.plainAttrs_str PySem.F.slot_str_split PySem.F.type_str_split mt_split ty_str pr_split (se_var 7) (sa_cons (sp_esc se_str) sa_nil)))) (blkOk_by (N := N_law) (sc := defScope s_law) (by decide +kernel)) (fun _ _ _ _ _ => (sg_name (i := 19) sc_law.nd)) (fun _ _ _ _ _ => st_nil) (fun _ _ _ _ _ => (sp_esc (se_call (ok__law_row F) takes0 (hr.mono (by decide)) (sa_cons (sp_esc (se_var 19)) sa_nil) (hl := (aCons_len aNil_len)))))) (se_lst sa_nil))) (sg_name (i := 10) sc_law.nd))
  (ss_cons (ss_asg (sp_esc (se_if (sb_in F.hK (rm65 hr) se_non (se_var 10)) (se_tup (sa_cons (sp_esc se_str) (sa_cons (sp_esc se_str) (sa_cons (sp_esc (se_bm PySem.F.plainAttrs_list PySem.F.slot_list_index PySem.F.type_list_index (mt_indexD (rm65 hr)) ty_list (F.hK ▸ pr_index) (se_var 10) (sa_cons (sp_esc se_non) sa_nil))) sa_nil)))) (se_var 10))) (sg_name (i := 11) sc_law.nd))
  (ss_cons (ss_if (sb_w (sb_and (sb_le (se_len F.hK F.b_len (se_var 7)) se_int) (sb_and1 (sb_not (sb_val (se_call (ok__law_like F) (takes_of rfl rfl rfl rfl) (hr.mono (by decide)) (sa_cons (sp_esc (se_told TL (hr.mono (by decide)) hlam hbod hPhi2 (sp_esc (se_lam TB hcode (lamS3_by (N := N_law) (sc := defScope s_law) (D := L1) (by decide +kernel)) lamW_1 hq (fun o c oc h => ⟨L1, rfl, h⟩))))) (sa_cons (sp_esc (se_var 11)) sa_nil)) (hl := (aCons_len (aCons_len aNil_len))))))))) (ss_one (ss_ret se_bl)) ss_nil)
  (ss_cons (ss_asg (sp_esc (se_call (ok__law_next F) (takes_of rfl rfl rfl rfl) (hr.mono (by decide)) (sa_cons (sp_esc (se_var 1)) (sa_cons (sp_esc (se_add F.hK (se_len F.hK F.b_len (se_var 4)) se_int)) sa_nil)) (hl := (aCons_len (aCons_len aNil_len))))) (sg_name (i := 12) sc_law.nd))
  (ss_cons (ss_asg (sp_esc (se_lst (sa_cons (sp_esc (se_tup (sa_cons (sp_esc (se_tup (sa_cons (sp_esc (se_tup (sa_cons (sp_esc se_str) sa_nil))) (sa_cons (sp_esc se_int) sa_nil)))) (sa_cons (sp_esc se_str) sa_nil)))) (sa_cons (sp_esc (se_tup (sa_cons (sp_esc (se_tup (sa_cons (sp_esc (se_tup (sa_cons (sp_esc se_str) sa_nil))) (sa_cons (sp_esc se_int) sa_nil)))) (sa_cons (sp_esc se_str) sa_nil)))) (sa_cons (sp_esc (se_tup (sa_cons (sp_esc (se_tup (sa_cons (sp_esc (se_mulT F.hK (se_tup (sa_cons (sp_esc se_str) sa_nil)) se_int)) (sa_cons (sp_esc (se_neg se_int)) sa_nil)))) (sa_cons (sp_esc se_str) sa_nil)))) (sa_cons (sp_esc (se_tup (sa_cons (sp_esc (se_tup (sa_cons (sp_esc (se_tup (sa_cons (sp_esc se_str) sa_nil))) (sa_cons (sp_esc (se_neg se_int)) sa_nil)))) (sa_cons (sp_esc se_str) sa_nil)))) sa_nil)))))) (sg_name (i := 13) sc_law.nd))
  (ss_cons (ss_asg (sp_esc (se_sub1 F.hK (se_add F.hK (se_var 13) (se_lst (sa_cons (sp_esc (se_tup (sa_cons (sp_esc (se_tup (sa_cons (sp_esc (se_tup (sa_cons (sp_esc se_str) sa_nil))) (sa_cons (sp_esc se_int) sa_nil)))) (sa_cons (sp_esc se_str) sa_nil)))) (sa_cons (sp_esc (se_tup (sa_cons (sp_esc (se_tup (sa_cons (sp_esc (se_tup (sa_cons (sp_esc se_str) sa_nil))) (sa_cons (sp_esc se_non) sa_nil)))) (sa_cons (sp_esc se_str) sa_nil)))) (sa_cons (sp_esc (se_tup (sa_cons (sp_esc (se_tup (sa_cons (sp_esc se_int) (sa_cons (sp_esc se_int) sa_nil)))) (sa_cons (sp_esc se_str) sa_nil)))) sa_nil))))) (se_call (ok__law_next F) (takes_of rfl rfl rfl rfl) (hr.mono (by decide)) (sa_cons (sp_esc (se_var 1)) (sa_cons (sp_esc se_int) sa_nil)) (hl := (aCons_len (aCons_len aNil_len)))))) (sg_tup F.hK rfl (sg_cons (sg_name (i := 14) sc_law.nd) (sg_cons (sg_name (i := 15) sc_law.nd) sg_nil))))
  (ss_cons (ss_asg (sp_esc (se_add F.hK (se_add F.hK (se_add F.hK (se_sl F.hK (se_var 4) so_none (so_some (se_var 12))) (se_lst (sa_cons (sp_esc (se_var 14)) sa_nil))) (se_sl F.hK (se_var 4) (so_some (se_var 12)) so_none)) (se_lst (sa_cons (sp_esc (se_tup (sa_cons (sp_esc (se_tup (sa_cons (sp_esc se_str) sa_nil))) (sa_cons (sp_esc (se_neg se_int)) sa_nil)))) sa_nil)))) (sg_name (i := 16) sc_law.nd))
  (ss_one (ss_if (sb_ne F.hK (rm64 hr) (se_told TL (hr.mono (by decide)) hlam hbod hPhi2 (sp_esc (se_lam TB hcode (lamS3_by (N := N_law) (sc := defScope s_law) (D := L0) (by decide +kernel)) lamW_0 hq (fun o c oc h => ⟨L0, rfl, h⟩)))) (se_tup (sa_cons (sp_esc se_str) (sa_cons (sp_esc (se_var 15)) sa_nil)))) (ss_one (ss_ret se_bl)) ss_nil)))))))))))))))))))
  (ss_one (ss_ret se_bl))))
theorem ok_law {ct : Nat → Addr} (F0 : ∀ g : G, g.K = K → g.P = P → g.w = w → g.ct = ct → Fx P w K mg base g) {fa tP c : Addr} {oc : Value} {od : Option Addr} {kV doc pm cto : Value} {an : Option Addr} {osl : Array (Option Value)}
    (lk : K.lookup fa = some ⟨oc, od, .func (PySem.W.fnOf "law" "law" (defArgs s_law) (defBody s_law) (defScope s_law) .none kV doc pm an (.ref c) cto), osl⟩) (hcd : PySem.W.codeIn K (.ref c) "law" = true) (TB : LamX.TabB base mg c tP) (nolist : ∀ a o, K.lookup a = some o → o.cls ≠ .type "list")
    (math : ∀ ns : List Int, ns.length ≤ 63 → ∃ h, fn_law [.lst (ns.map PV.int)] [.tbl] = .ok (.pv (.bl true)) h) :
    FnOk P w K mg base (L2.CX P w) 14 fa (PySem.W.fnOf "law" "law" (defArgs s_law) (defBody s_law) (defScope s_law) .none kV doc pm an (.ref c) cto) ["_law_script"] (spLaw K tP) := by
  refine fn_of lk hcd sc_law (fun vs H Q E h => ?_) fun A outer s H vs Q E hr h => ?_
  · obtain ⟨a, ns, rfl, _⟩ := h
    rfl
  · obtain ⟨a, ns, rfl, hS, hl, hT, hQ⟩ := h
    exact ⟨_, pss_lock (law_body F0 TB A outer s H E hr), law_read rfl rfl nolist hS hT hQ (math ns hl)⟩
theorem sc_BadTables___init__ : FnScope ["self", "number"] ["self", "number"] (defScope s_BadTables___init__) := ⟨rfl, rfl, rfl, by decide +kernel, rfl, by decide +kernel, by decide +kernel⟩
theorem xi_BadTables {C B f : Addr} {fd : FuncData} (U : FunD K "__init__" "BadTables.__init__" (defArgs s_BadTables___init__) (defBody s_BadTables___init__) (defScope s_BadTables___init__) [] [] f fd) (T : OexC K C) (b : BInit K B) (hno : PySem.W.findIn K (.ref C) "number" = some none) (hm : mg "BookError" = some (.ref B)) : FnOk P w K mg base C8.CX0 1 f fd ["self", "number"] (spXI C "number") :=
  U.ok sc_BadTables___init__ (xi_len (n := "number")) fun cdv A outer s H vs Q E hr h => ⟨t_xi K "no table" "number", pss_cons (ps_expr (pe_beinit rfl hm b (pa_cons (pe_var (i := 0) rfl (Or.inl rfl)) (pa_cons pe_str pa_nil)))) (pss_one (ps_ost (pe_var (i := 0) rfl (Or.inl rfl)) (pe_var (i := 1) rfl (Or.inl rfl)))), pure_xi T hno vs H Q E h⟩
theorem sc_BadLog___init__ : FnScope ["self", "number"] ["self", "number"] (defScope s_BadLog___init__) := ⟨rfl, rfl, rfl, by decide +kernel, rfl, by decide +kernel, by decide +kernel⟩
theorem xi_BadLog {C B f : Addr} {fd : FuncData} (U : FunD K "__init__" "BadLog.__init__" (defArgs s_BadLog___init__) (defBody s_BadLog___init__) (defScope s_BadLog___init__) [] [] f fd) (T : OexC K C) (b : BInit K B) (hno : PySem.W.findIn K (.ref C) "number" = some none) (hm : mg "BookError" = some (.ref B)) : FnOk P w K mg base C8.CX0 1 f fd ["self", "number"] (spXI C "number") :=
  U.ok sc_BadLog___init__ (xi_len (n := "number")) fun cdv A outer s H vs Q E hr h => ⟨t_xi K "no row" "number", pss_cons (ps_expr (pe_beinit rfl hm b (pa_cons (pe_var (i := 0) rfl (Or.inl rfl)) (pa_cons pe_str pa_nil)))) (pss_one (ps_ost (pe_var (i := 0) rfl (Or.inl rfl)) (pe_var (i := 1) rfl (Or.inl rfl)))), pure_xi T hno vs H Q E h⟩
theorem sc_BadText___init__ : FnScope ["self", "row"] ["self", "row"] (defScope s_BadText___init__) := ⟨rfl, rfl, rfl, by decide +kernel, rfl, by decide +kernel, by decide +kernel⟩
theorem xi_BadText {C B f : Addr} {fd : FuncData} (U : FunD K "__init__" "BadText.__init__" (defArgs s_BadText___init__) (defBody s_BadText___init__) (defScope s_BadText___init__) [] [] f fd) (T : OexC K C) (b : BInit K B) (hno : PySem.W.findIn K (.ref C) "row" = some none) (hm : mg "BookError" = some (.ref B)) : FnOk P w K mg base C8.CX0 1 f fd ["self", "row"] (spXI C "row") :=
  U.ok sc_BadText___init__ (xi_len (n := "row")) fun cdv A outer s H vs Q E hr h => ⟨t_xi K "a bad row" "row", pss_cons (ps_expr (pe_beinit rfl hm b (pa_cons (pe_var (i := 0) rfl (Or.inl rfl)) (pa_cons pe_str pa_nil)))) (pss_one (ps_ost (pe_var (i := 0) rfl (Or.inl rfl)) (pe_var (i := 1) rfl (Or.inl rfl)))), pure_xi T hno vs H Q E h⟩
end
end K10

/-! K10A: rows of texts, plainly. -/
namespace K10
open PySem CL

/-! ### cut and joined -/
theorem pre1 {c x : Nat} {r : List Nat} : TL.pre [c] (x :: r) = decide (x = c) := by
  unfold TL.pre; simp; rfl
theorem spl_acc (c : Nat) : ∀ (l acc : List Nat), TL.spl [c] 0 acc l = match TL.spl [c] 0 [] l with | [] => [acc] | p :: ps => (acc ++ p) :: ps
  | [], acc => by simp [TL.spl_nil]
  | x :: l, acc => by
    by_cases h : x = c
    · have e : TL.pre [c] (x :: l) = true := by rw [pre1]; simpa using h
      rw [TL.spl_hit e, TL.spl_hit e]; simp
    · have e : TL.pre [c] (x :: l) = false := by rw [pre1]; simpa using h
      have e2 : ∀ a, TL.spl [c] 0 a (x :: l) = TL.spl [c] 0 (a ++ [x]) l := fun a => by
        show (if TL.pre [c] (x :: l) = true then _ else TL.spl [c] 0 (a ++ [x]) l) = _
        rw [e]; rfl
      rw [e2, e2, spl_acc c l (acc ++ [x]), spl_acc c l ([] ++ [x])]
      cases TL.spl [c] 0 [] l with
      | nil => rfl
      | cons p ps => simp
theorem spl1_nil (c : Nat) : spl1 c [] = [[]] := TL.spl_nil _ _ _
theorem spl1_ne (c : Nat) : ∀ l, spl1 c l ≠ []
  | [] => by rw [spl1_nil]; simp
  | x :: l => by
    by_cases h : x = c
    · have e : TL.pre [c] (x :: l) = true := by rw [pre1]; simpa using h
      unfold spl1; rw [TL.spl_hit e]; simp
    · have e : TL.pre [c] (x :: l) = false := by rw [pre1]; simpa using h
      have e2 : TL.spl [c] 0 [] (x :: l) = TL.spl [c] 0 [x] l := by
        show (if TL.pre [c] (x :: l) = true then _ else TL.spl [c] 0 ([] ++ [x]) l) = _
        rw [e]; rfl
      unfold spl1; rw [e2, spl_acc]
      split <;> simp
theorem spl1_hit {c : Nat} {l : List Nat} : spl1 c (c :: l) = [] :: spl1 c l := by
  have e : TL.pre [c] (c :: l) = true := by rw [pre1]; simp
  unfold spl1; rw [TL.spl_hit e]; rfl
theorem spl1_miss {c x : Nat} {l : List Nat} (h : x ≠ c) : ∃ p ps, spl1 c l = p :: ps ∧ spl1 c (x :: l) = (x :: p) :: ps := by
  have e : TL.pre [c] (x :: l) = false := by rw [pre1]; simpa using h
  have e2 : TL.spl [c] 0 [] (x :: l) = TL.spl [c] 0 [x] l := by
    show (if TL.pre [c] (x :: l) = true then _ else TL.spl [c] 0 ([] ++ [x]) l) = _
    rw [e]; rfl
  have n := spl1_ne c l
  unfold spl1 at n ⊢
  rw [e2, spl_acc c l [x]]
  cases hh : TL.spl [c] 0 [] l with
  | nil => exact absurd hh n
  | cons p ps => exact ⟨p, ps, rfl, rfl⟩
/-- lengths and ends -/
def wt (ps : List (List Nat)) : Nat := (ps.map List.length).sum + ps.length
theorem wt_cons (p : List Nat) (ps : List (List Nat)) : wt (p :: ps) = p.length + 1 + wt ps := by simp [wt]; omega
@[simp] theorem wt_nil : wt [] = 0 := rfl
theorem wt_append (ps qs : List (List Nat)) : wt (ps ++ qs) = wt ps + wt qs := by simp [wt]; omega
theorem wt_split (c : Nat) : ∀ l, wt (spl1 c l) = l.length + 1
  | [] => by rw [spl1_nil]; rfl
  | x :: l => by
    have ih := wt_split c l
    by_cases h : x = c
    · subst h; rw [spl1_hit, wt_cons, ih]; simp; omega
    · obtain ⟨p, ps, e1, e2⟩ := spl1_miss (l := l) h
      rw [e1, wt_cons] at ih
      rw [e2, wt_cons]; simp; omega
theorem wt_take (n : Nat) (ps : List (List Nat)) : wt (ps.take n) + wt (ps.drop n) = wt ps := by rw [← wt_append, List.take_append_drop]
theorem len_wt (ps : List (List Nat)) : ps.length ≤ wt ps := by unfold wt; omega
theorem mem_wt {ps : List (List Nat)} {p : List Nat} (h : p ∈ ps) : p.length + 1 ≤ wt ps := by
  induction ps with
  | nil => cases h
  | cons q ps ih =>
    rw [wt_cons]
    rcases List.mem_cons.mp h with rfl | h
    · omega
    · have := ih h; omega
theorem join_len (c : Nat) : ∀ ps, (joinC c ps).length ≤ wt ps
  | [] => by simp [joinC, TL.joinL]
  | [p] => by rw [wt_cons]; simp [joinC, TL.joinL]
  | p :: q :: r => by
    have := join_len c (q :: r)
    rw [wt_cons]
    simp only [joinC, TL.joinL, List.length_append, List.length_cons, List.length_nil] at this ⊢
    omega
theorem joinC_cons {c : Nat} {p : List Nat} {ps : List (List Nat)} (h : ps ≠ []) : joinC c (p :: ps) = p ++ c :: joinC c ps := by
  cases ps with
  | nil => exact absurd rfl h
  | cons q r => rfl
theorem joinC_one {c : Nat} {p : List Nat} : joinC c [p] = p := rfl
/-- signs that can be -/
def asc (l : List Nat) : Prop := ∀ c ∈ l, c < 128
theorem asc_split {c : Nat} : ∀ {l : List Nat}, asc l → ∀ p ∈ spl1 c l, asc p
  | [], _, p, hp => by rw [spl1_nil] at hp; rw [List.mem_singleton.mp hp]; exact fun _ h => by cases h
  | x :: l, h, p, hp => by
    have ih := asc_split (c := c) (l := l) fun y hy => h y (List.mem_cons_of_mem _ hy)
    by_cases e : x = c
    · subst e
      rw [spl1_hit] at hp
      rcases List.mem_cons.mp hp with rfl | hp
      · exact fun _ h => by cases h
      · exact ih p hp
    · obtain ⟨q, qs, e1, e2⟩ := spl1_miss (l := l) e
      rw [e2] at hp
      rw [e1] at ih
      rcases List.mem_cons.mp hp with rfl | hp
      · intro y hy
        rcases List.mem_cons.mp hy with rfl | hy
        · exact h _ (List.mem_cons_self ..)
        · exact ih q (List.mem_cons_self ..) y hy
      · exact ih p (List.mem_cons_of_mem _ hp)
theorem asc_join {c : Nat} (hc : c < 128) : ∀ {ps : List (List Nat)}, (∀ p ∈ ps, asc p) → asc (joinC c ps)
  | [], _ => fun _ h => by cases h
  | [p], h => h p (List.mem_cons_self ..)
  | p :: q :: r, h => by
    have ih := asc_join hc (ps := q :: r) fun x hx => h x (List.mem_cons_of_mem _ hx)
    rw [joinC_cons (by simp)]
    intro y hy
    rcases List.mem_append.mp hy with z | z
    · exact h p (List.mem_cons_self ..) y z
    · rcases List.mem_cons.mp z with rfl | z
      · exact hc
      · exact ih y z
/-! ### words -/
def isLow (c : Nat) : Bool := decide (97 ≤ c) && decide (c ≤ 122)
def labL (l : List Nat) : Bool := decide (1 ≤ l.length) && decide (l.length ≤ 3) && l.all isLow
def nameL (w : List Nat) : Option (List (List Nat)) := if w = [46] then some [] else if (decide ((spl1 46 w).length ≤ 5) && (spl1 46 w).all labL) = true then some (spl1 46 w) else none
def isFig (c : Nat) : Bool := decide (48 ≤ c) && decide (c ≤ 57)
def numOf (w : List Nat) : Option Nat := if (decide (1 ≤ w.length) && decide (w.length ≤ 3) && w.all isFig && !(decide (w.head? = some 48) && decide (w ≠ [48]))) = true then some (NumText.digitsVal w) else none
def rowOf (l : List Nat) : Option (List (List Nat) × Nat) := match spl1 32 l with
  | [a, b] => match nameL a, numOf b with
    | some n, some k => some (n, k)
    | _, _ => none
  | _ => none
def wordL (n : List (List Nat)) : List Nat := if n = [] then [46] else joinC 46 n
def okName (n : List (List Nat)) : Bool := decide (n.length ≤ 5) && n.all labL
theorem lab_free {l : List Nat} (h : labL l = true) {c : Nat} (hc : c < 97) : c ∉ l := fun hm => by
  unfold labL isLow at h
  simp only [Bool.and_eq_true, List.all_eq_true, decide_eq_true_eq] at h
  have := (h.2 c hm).1; omega
theorem okName_free {n : List (List Nat)} (h : okName n = true) {c : Nat} (hc : c < 97) : ∀ p ∈ n, c ∉ p := fun p hp => by
  unfold okName at h
  simp only [Bool.and_eq_true, List.all_eq_true] at h
  exact lab_free (h.2 p hp) hc
theorem join_mem {c x : Nat} : ∀ {ps : List (List Nat)}, x ∈ joinC c ps → x = c ∨ ∃ p ∈ ps, x ∈ p
  | [], h => by cases h
  | [p], h => .inr ⟨p, List.mem_cons_self .., h⟩
  | p :: q :: r, h => by
    rw [joinC_cons (by simp)] at h
    rcases List.mem_append.mp h with z | z
    · exact .inr ⟨p, List.mem_cons_self .., z⟩
    · rcases List.mem_cons.mp z with z | z
      · exact .inl z
      · rcases join_mem z with z | ⟨p, hp, z⟩
        · exact .inl z
        · exact .inr ⟨p, List.mem_cons_of_mem _ hp, z⟩
theorem nameL_word {n : List (List Nat)} (h : okName n = true) : nameL (wordL n) = some n := by
  unfold wordL nameL
  by_cases e : n = []
  · subst e; rfl
  · rw [if_neg e]
    have sp : spl1 46 (joinC 46 n) = n := spl1_join e (okName_free h (by decide))
    have ne : joinC 46 n ≠ [46] := fun z => by
      rw [z] at sp
      have : spl1 46 [46] = [[], []] := by rw [spl1_hit, spl1_nil]
      rw [this] at sp
      unfold okName at h
      simp only [Bool.and_eq_true, List.all_eq_true] at h
      have := h.2 [] (by rw [← sp]; simp)
      simp [labL] at this
    rw [if_neg ne, sp]
    unfold okName at h
    rw [if_pos h]
theorem num_tab : ∀ n < 1000, numOf (TL.numL n) = some n := by decide +kernel
theorem dig3 : ∀ a < 10, ∀ b < 10, ∀ c < 10, (numOf [48 + a, 48 + b, 48 + c] = if a = 0 then none else some (100 * a + 10 * b + c)) ∧ (a ≠ 0 → TL.numL (100 * a + 10 * b + c) = [48 + a, 48 + b, 48 + c]) := by decide +kernel
theorem dig2 : ∀ a < 10, ∀ b < 10, (numOf [48 + a, 48 + b] = if a = 0 then none else some (10 * a + b)) ∧ (a ≠ 0 → TL.numL (10 * a + b) = [48 + a, 48 + b]) := by decide +kernel
theorem dig1 : ∀ a < 10, numOf [48 + a] = some a ∧ TL.numL a = [48 + a] := by decide +kernel
theorem fig_of {c : Nat} (h : isFig c = true) : ∃ a, a < 10 ∧ c = 48 + a := by
  unfold isFig at h; simp at h; exact ⟨c - 48, by omega, by omega⟩
theorem num_inv {w : List Nat} {n : Nat} (h : numOf w = some n) : n < 1000 ∧ TL.numL n = w := by
  have h0 := h
  unfold numOf at h
  split at h
  · rename_i c
    simp only [Bool.and_eq_true, decide_eq_true_eq, List.all_eq_true] at c
    obtain ⟨⟨⟨c1, c2⟩, c3⟩, _⟩ := c
    match w, c1, c2, c3, h0 with
    | [x], _, _, c3, h0 =>
      obtain ⟨a, ha, rfl⟩ := fig_of (c3 x (by simp))
      rw [(dig1 a ha).1] at h0
      rw [← Option.some.inj h0]
      exact ⟨by omega, (dig1 a ha).2⟩
    | [x, y], _, _, c3, h0 =>
      obtain ⟨a, ha, rfl⟩ := fig_of (c3 x (by simp))
      obtain ⟨b, hb, rfl⟩ := fig_of (c3 y (by simp))
      rw [(dig2 a ha b hb).1] at h0
      split at h0
      · cases h0
      · rename_i na; cases h0; exact ⟨by omega, (dig2 a ha b hb).2 na⟩
    | [x, y, z], _, _, c3, h0 =>
      obtain ⟨a, ha, rfl⟩ := fig_of (c3 x (by simp))
      obtain ⟨b, hb, rfl⟩ := fig_of (c3 y (by simp))
      obtain ⟨d, hd, rfl⟩ := fig_of (c3 z (by simp))
      rw [(dig3 a ha b hb d hd).1] at h0
      split at h0
      · cases h0
      · rename_i na; cases h0; exact ⟨by omega, (dig3 a ha b hb d hd).2 na⟩
    | _ :: _ :: _ :: _ :: _, _, c2, _, _ => simp at c2
  · cases h
def entL (e : List (List Nat) × Nat) : List Nat := wordL e.1 ++ 32 :: TL.numL e.2
def okEnt (e : List (List Nat) × Nat) : Bool := okName e.1 && decide (e.2 < 1000)
theorem word_free {n : List (List Nat)} (h : okName n = true) {c : Nat} (hc : c < 97) (h46 : c ≠ 46) : c ∉ wordL n := fun hm => by
  unfold wordL at hm
  split at hm
  · simp at hm; exact h46 hm
  · rcases join_mem hm with z | ⟨p, hp, z⟩
    · exact h46 z
    · exact okName_free h hc p hp z
theorem spl1_none {c : Nat} {l : List Nat} (h : c ∉ l) : spl1 c l = [l] := by
  have := spl1_join (c := c) (ps := [l]) (by simp) (fun p hp => by rw [List.mem_singleton.mp hp]; exact h)
  exact this
theorem row_ent {e : List (List Nat) × Nat} (h : okEnt e = true) : rowOf (entL e) = some e := by
  unfold okEnt at h
  simp only [Bool.and_eq_true, decide_eq_true_eq] at h
  have sp : spl1 32 (entL e) = [wordL e.1, TL.numL e.2] := by
    have := spl1_join (c := 32) (ps := [wordL e.1, TL.numL e.2]) (by simp) (fun p hp => by
      rcases List.mem_cons.mp hp with rfl | hp
      · exact word_free h.1 (by decide) (by decide)
      · rw [List.mem_singleton.mp hp]; exact TL.numL_free (by decide))
    exact this
  unfold rowOf
  rw [sp]
  simp only [nameL_word h.1, num_tab _ h.2]
def textL (es : List (List (List Nat) × Nat)) : List Nat := joinC 10 (es.map entL)
def rowsL (t : List Nat) : List (List Nat) := if t = [] then [] else spl1 10 t
theorem ent_ne (e : List (List Nat) × Nat) : entL e ≠ [] := by unfold entL; simp
theorem ent_free {e : List (List Nat) × Nat} (h : okEnt e = true) : 10 ∉ entL e := fun hm => by
  unfold okEnt at h
  simp only [Bool.and_eq_true, decide_eq_true_eq] at h
  unfold entL at hm
  rcases List.mem_append.mp hm with z | z
  · exact word_free h.1 (by decide) (by decide) z
  · rcases List.mem_cons.mp z with z | z
    · cases z
    · exact TL.numL_free (by decide) z
theorem rows_text {es : List (List (List Nat) × Nat)} (h : ∀ e ∈ es, okEnt e = true) : rowsL (textL es) = es.map entL := by
  unfold rowsL textL
  cases es with
  | nil => rfl
  | cons e r =>
    have ne : joinC 10 ((e :: r).map entL) ≠ [] := by
      rw [List.map_cons]
      cases r with
      | nil => exact ent_ne e
      | cons x r => rw [joinC_cons (by simp)]; simp
    rw [if_neg ne]
    exact spl1_join (by simp) fun p hp => by
      obtain ⟨x, hx, rfl⟩ := List.mem_map.mp hp
      exact ent_free (h x hx)
theorem asc_num (n : Nat) : asc (TL.numL n) := fun c hc => by
  have h := TL.numL_digits n c hc; omega
theorem asc_lab {l : List Nat} (h : labL l = true) : asc l := fun c hc => by
  unfold labL isLow at h
  simp only [Bool.and_eq_true, List.all_eq_true, decide_eq_true_eq] at h
  have := (h.2 c hc).2; omega
theorem asc_word {n : List (List Nat)} (h : okName n = true) : asc (wordL n) := by
  unfold wordL
  split
  · intro c hc; simp at hc; omega
  · unfold okName at h
    simp only [Bool.and_eq_true, List.all_eq_true] at h
    exact asc_join (by decide) fun p hp => asc_lab (h.2 p hp)
theorem asc_ent {e : List (List Nat) × Nat} (h : okEnt e = true) : asc (entL e) := by
  unfold okEnt at h
  simp only [Bool.and_eq_true, decide_eq_true_eq] at h
  intro c hc
  unfold entL at hc
  rcases List.mem_append.mp hc with z | z
  · exact asc_word h.1 c z
  · rcases List.mem_cons.mp z with z | z
    · omega
    · exact asc_num _ c z
theorem asc_text {es : List (List (List Nat) × Nat)} (h : ∀ e ∈ es, okEnt e = true) : asc (textL es) := asc_join (by decide) fun p hp => by
  obtain ⟨x, hx, rfl⟩ := List.mem_map.mp hp
  exact asc_ent (h x hx)
theorem wt_labs : ∀ {n : List (List Nat)}, (∀ p ∈ n, labL p = true) → wt n ≤ 4 * n.length
  | [], _ => by simp
  | p :: r, h => by
    have := wt_labs (n := r) fun q hq => h q (List.mem_cons_of_mem _ hq)
    have hp := h p (List.mem_cons_self ..)
    unfold labL at hp
    simp only [Bool.and_eq_true, decide_eq_true_eq] at hp
    rw [wt_cons, List.length_cons]; omega
theorem word_len {n : List (List Nat)} (h : okName n = true) : (wordL n).length ≤ 20 := by
  unfold wordL
  split
  · simp
  · unfold okName at h
    simp only [Bool.and_eq_true, List.all_eq_true, decide_eq_true_eq] at h
    have := wt_labs h.2
    have := join_len 46 n
    omega
theorem ent_len {e : List (List Nat) × Nat} (h : okEnt e = true) : (entL e).length ≤ 24 := by
  unfold okEnt at h
  simp only [Bool.and_eq_true, decide_eq_true_eq] at h
  have h1 := word_len h.1
  have h2 := TL.numL_len (n := e.2) (k := 3) (by decide) h.2
  unfold entL; simp; omega
theorem wt_ents : ∀ {es : List (List (List Nat) × Nat)}, (∀ e ∈ es, okEnt e = true) → wt (es.map entL) ≤ 25 * es.length
  | [], _ => by simp
  | e :: r, h => by
    have := wt_ents (es := r) fun q hq => h q (List.mem_cons_of_mem _ hq)
    have := ent_len (h e (List.mem_cons_self ..))
    rw [List.map_cons, wt_cons, List.length_cons]; omega
theorem text_len {es : List (List (List Nat) × Nat)} (h : ∀ e ∈ es, okEnt e = true) : (textL es).length ≤ 25 * es.length := Nat.le_trans (join_len _ _) (wt_ents h)
end K10

/-! K10B: the program's defs. -/
namespace K10
open PySem CL
open PySem.PyData (strOk)

open LC (btw isLabel isName sml sml2 Dice diceO Rd Rds pz enF enumP_enF)
theorem e_between : fn_is_between = LC.fn_is_between := rfl
theorem e_name : fn_is_name = LC.fn_is_name := rfl
theorem e_next : fn__law_next = LC.fn__law_next := rfl
theorem e_dice : fn__law_dice = LC.fn__law_dice := rfl
theorem e_lname : fn__law_name = LC.fn__law_name := rfl
theorem e_like : fn__law_like = LC.fn__law_like := rfl
theorem is_between_eq {p : PV} {lo hi : Int} {h : List CO} (hp : isDat p = true) : fn_is_between [p, .int lo, .int hi] h = .ok (.pv (.bl (btw p lo hi))) h := LC.is_between_eq hp
theorem is_name_eq {p : PV} {h : List CO} (hp : isDat p = true) (hs : sml2 p = true) : fn_is_name [p] h = .ok (.pv (.bl (isName p))) h := LC.is_name_eq hp hs
def nmP (n : List (List Nat)) : PV := .tup (n.map sv)
def entP (e : List (List Nat) × Nat) : PV := .tup [nmP e.1, .int e.2]
theorem dot_S : Str.ofString "." = tx [46] := by decide +kernel
theorem bl_S : Str.ofString " " = tx [32] := by decide +kernel
theorem nl_S : Str.ofString "\n" = tx [10] := by decide +kernel
theorem em_S : Str.ofString "" = tx [] := by decide +kernel
theorem z_S : Str.ofString "0" = tx [48] := by decide +kernel
theorem fig_S : Str.ofString "0123456789" = tx [48, 49, 50, 51, 52, 53, 54, 55, 56, 57] := by decide +kernel
theorem isLabel_lab (l : List Nat) : isLabel (sv l) = labL l := LC.isLabel_tx l
theorem isName_nm (n : List (List Nat)) : isName (nmP n) = okName n := by
  unfold isName nmP okName
  simp only [List.length_map, List.all_map]
  congr 2
  funext l; exact isLabel_lab l
theorem sml2_nm {n : List (List Nat)} (h : wt n ≤ 16777216) : sml2 (nmP n) = true := by
  unfold sml2 nmP
  simp only [List.all_map, List.all_eq_true, Function.comp, Bool.and_eq_true]
  intro l hl
  refine ⟨rfl, ?_⟩
  unfold sml
  simp only [tx_len, decide_eq_true_eq]
  have := mem_wt hl; omega
theorem name_nm {n : List (List Nat)} {h : List CO} (hw : wt n ≤ 16777216) : fn_is_name [nmP n] h = .ok (.pv (.bl (okName n))) h := by
  rw [is_name_eq rfl (sml2_nm hw), isName_nm]
theorem cl_sv {l : List Nat} {n : Nat} (h : asc l) : cl n (sv l) = true := by rw [cl_str]; exact strOk_tx h
def optN : Option (List (List Nat)) → PV
  | none => .non
  | some n => nmP n
def optK : Option Nat → PV
  | none => .non
  | some k => .int k
theorem name_of_eq {w : List Nat} {h : List CO} (hw : w.length ≤ 1000000) (ha : asc w) : fn_name_of [sv w] h = .ok (.pv (optN (nameL w))) h := by
  refine wp_def (R := fun r => r = _) ?_
  simp only [sem_name_of, startC, dot_S]
  have hc : ∀ n, cl n (sv w) = true := fun n => cl_sv ha
  have hc2 : ∀ n, cl n (sv [46]) = true := fun n => cl_sv (by intro c h; simp at h; omega)
  have hwt : wt (spl1 46 w) ≤ 16777216 := by rw [wt_split]; omega
  by_cases e : w = [46]
  · simp -implicitDefEqProofs [hc, hc2, e, nameL, optN, nmP]
  · simp -implicitDefEqProofs [hc, hc2, e, wp_splitC, show w.length + 2 ≤ 16777216 by omega]
    have hn := name_nm (h := h) hwt
    unfold nmP at hn
    rw [hn]
    have e4 : nameL w = if okName (spl1 46 w) = true then some (spl1 46 w) else none := by unfold nameL okName; rw [if_neg e]
    rw [e4]
    cases okName (spl1 46 w) <;> simp -implicitDefEqProofs [optN, nmP]
def badFig (p : PV) : Option PV := match p with
  | .str z => if z.cps.toList.all isFig = true then none else some p
  | _ => none
theorem badFig_c {c : Nat} : badFig (sv [c]) = if isFig c = true then none else some (sv [c]) := by simp [badFig]
theorem badFigs : ∀ {l : List Nat}, (List.filterMap (badFig ∘ fun c => sv [c]) l).isEmpty = l.all isFig
  | [] => rfl
  | c :: l => by
    rw [List.filterMap_cons, Function.comp, badFig_c, List.all_cons, ← badFigs (l := l)]
    cases isFig c <;> simp
theorem fig_mem (c : Nat) : decide (c ∈ (Str.ofString "0123456789").cps) = isFig c := by
  rw [fig_S]
  unfold isFig
  rw [← Bool.decide_and]
  apply decide_eq_decide.mpr
  rw [tx_mem]
  simp only [List.mem_cons, List.not_mem_nil, or_false]
  omega
theorem number_of_eq {w : List Nat} {h : List CO} (hw : w.length ≤ 1000000) (ha : asc w) : fn_number_of [sv w] h = .ok (.pv (optK (numOf w))) h := by
  refine wp_def (R := fun r => r = _) ?_
  simp only [sem_number_of, startC, z_S]
  have hl : w.length ≤ 16777216 := by omega
  simp -implicitDefEqProofs [hl]
  refine kChB_split (fun e1 => ?_) fun e1 => ?_
  · simp at e1
    simp -implicitDefEqProofs
    by_cases e2 : (w.length : Int) ≤ 3
    · simp -implicitDefEqProofs [e2]
      refine kComp_pure badFig ?_ ?_ ?_
      · simp; omega
      · intro p hp
        simp only [tx_signs, List.mem_map] at hp
        obtain ⟨c, hc, rfl⟩ := hp
        rw [badFig_c]
        simp -implicitDefEqProofs [wipeC, wp_in_tx]
        have e3 := fig_mem c
        rw [e3]
        cases isFig c <;> simp
      · simp -implicitDefEqProofs
        rw [badFigs]
        cases e3 : w.all isFig
        · have : numOf w = none := by unfold numOf; rw [e3]; simp
          simp -implicitDefEqProofs [this, optK, e3]
        · simp -implicitDefEqProofs [e3]
          obtain ⟨x, r, rfl⟩ : ∃ x r, w = x :: r := by
            cases w with
            | nil => simp at e1
            | cons x r => exact ⟨x, r, rfl⟩
          have c1 : ∀ n, cl n (sv [x]) = true := fun n => cl_sv fun c hc => by
            simp at hc; subst hc; exact ha _ (List.mem_cons_self ..)
          have c2 : ∀ n, cl n (sv [48]) = true := fun n => cl_sv (by intro c h; simp at h; omega)
          have c3 : ∀ n, cl n (sv (x :: r)) = true := fun n => cl_sv ha
          have hd : NumText.AllDigits (x :: r) := fun c hc => by
            have := List.all_eq_true.mp e3 c hc
            unfold isFig at this; simp at this; omega
          have hi : PySem.intText? (tx (x :: r)) = some (NumText.digitsVal (x :: r) : Int) := SX.int_S (by rw [List.all_eq_true]; intro c hc; have := List.all_eq_true.mp e3 c hc; exact this) (by simp) (by omega)
          have hl2 : (x :: r).length ≤ 16777216 := by omega
          have hl3 : (tx (x :: r)).length ≤ 640 := by rw [tx_len]; have : ((x :: r).length : Int) ≤ 3 := e2; omega
          simp -implicitDefEqProofs [wipeC, wp_ixS hl2, c1, c2, c3]
          have e5 : numOf (x :: r) = if x = 48 ∧ r ≠ [] then none else some (NumText.digitsVal (x :: r)) := by
            unfold numOf
            rw [e3]
            have q1 : decide (1 ≤ (x :: r).length) = true := by simp
            have q2 : decide ((x :: r).length ≤ 3) = true := by simp at e2 ⊢; omega
            rw [q1, q2]
            by_cases y1 : x = 48
            · subst y1
              by_cases y2 : r = [] <;> simp [y2]
            · simp [y1]
          rw [e5]
          by_cases y1 : x = 48
          · subst y1
            by_cases y2 : r = []
            · subst y2
              simp -implicitDefEqProofs [c2, c3, wp_intS hi, optK]
            · simp -implicitDefEqProofs [c2, c3, y2, optK]
          · simp -implicitDefEqProofs [c2, c3, y1, wp_intS hi hl3, optK]
    · have : numOf w = none := by
        unfold numOf; rw [show decide (w.length ≤ 3) = false by simp; omega]; simp
      simp -implicitDefEqProofs [e2, this, optK]
  · have : numOf w = none := by
      unfold numOf; rw [decide_eq_false (show ¬ 1 ≤ w.length by have := of_decide_eq_false e1; omega)]; simp
    simp -implicitDefEqProofs [this, optK]
end K10

/-! K10C: read, written. -/
namespace K10
open PySem CL
open PySem.PyData (strOk)
open LC (btw isLabel isName sml sml2 Dice diceO Rd Rds pz enF enumP_enF)
abbrev Ent := List (List Nat) × Nat
def readR : Nat → List (List Nat) → List Ent → Sum Nat (List Ent)
  | _, [], acc => .inr acc
  | k, r :: rs, acc => match rowOf r with
    | none => .inl k
    | some e => readR (k + 1) rs (acc ++ [e])
def readF (h : List CO) : Sum Nat (List Ent) → FRes
  | .inl k => .exc ⟨9, some ("row", .int k)⟩ h
  | .inr es => .ok (.own (.list (es.map entP))) h
def RInv (t : List Nat) (h : List CO) (ys : List PV) (s : CSt) : Prop := ∃ (k : Nat) (rs : List (List Nat)) (acc : List Ent) (a2 a3 a4 : SV), ys = enF k (rs.map sv) ∧ (∀ l ∈ rs, asc l ∧ l.length ≤ 1000000) ∧ readR 0 (rowsL t) [] = readR k rs acc ∧ acc.length + rs.length ≤ 2000000 ∧
  s = ⟨[.pv (sv t), .own (.list (acc.map entP)), a2, a3, a4], h⟩
theorem rowsL_ok {t : List Nat} (ha : asc t) (hl : t.length ≤ 1000000) : (∀ l ∈ rowsL t, asc l ∧ l.length ≤ 1000000) ∧ (rowsL t).length ≤ 1000001 := by
  unfold rowsL
  split
  · simp
  · refine ⟨fun l h => ⟨asc_split ha l h, ?_⟩, ?_⟩
    · have := mem_wt h; rw [wt_split] at this; omega
    · have := len_wt (spl1 10 t); rw [wt_split] at this; omega
theorem read_eq {t : List Nat} {h : List CO} (ha : asc t) (hl : t.length ≤ 1000000) : fn_read [sv t] h = readF h (readR 0 (rowsL t) []) := by
  refine wp_def (R := fun r => r = _) ?_
  simp only [sem_read, startC, em_S, nl_S, bl_S]
  obtain ⟨ok, hn⟩ := rowsL_ok ha hl
  have c1 : ∀ n, cl n (sv t) = true := fun n => cl_sv ha
  have c2 : ∀ n, cl n (sv []) = true := fun n => cl_sv (by intro c h; cases h)
  have start : ∀ E, kEnu (kFor (gTp 2 (gsCons (gNm 2) (gsCons (gNm 3) gsNil))) (sSeq (sAsg (ePv (eBm isStr strSplit (rdVar 3) (aCons (ePv (kst (.str (tx [32])))) aNil))) (gNm 4))
      (sSeq (sIf (bOr (tst (e2 opNe (e1 opLen (rdVar 4)) (kst (.int 2)))) (bOr (tst (e1 (opIsN false) (eCall fn_name_of (aCons (ePv (e2 opIx (rdVar 4) (kst (.int 0)))) aNil)))) (tst (e1 (opIsN false) (eCall fn_number_of (aCons (ePv (e2 opIx (rdVar 4) (kst (.int 1)))) aNil)))))) (sRaiseA 9 "row" (aCons (ePv (rdVar 2)) aNil)) sNil)
      (sExpr (eBm isList lAppend (rdVar 1) (aCons (ePv (eTup (aCons (ePv (eCall fn_name_of (aCons (ePv (e2 opIx (rdVar 4) (kst (.int 0)))) aNil))) (aCons (ePv (eCall fn_number_of (aCons (ePv (e2 opIx (rdVar 4) (kst (.int 1)))) aNil))) aNil)))) aNil)))))
      (kSeq (sRet (rdVar 1)) (kFin fun r => r = readF h (readR 0 (rowsL t) [])) fun x s' => FRes.exc x s'.h = readF h (readR 0 (rowsL t) [])) fun x s' => FRes.exc x s'.h = readF h (readR 0 (rowsL t) [])) E
      [.lst ((rowsL t).map sv)] ⟨[.pv (sv t), .own (.list []), .emp, .emp, .emp], h⟩ := by
    intro E
    rw [kEnu_ap, enumP_enF]
    refine for_inv (RInv t h) ⟨0, rowsL t, [], _, _, _, rfl, ok, rfl, by simp; omega, rfl⟩ ?_ ?_
    · rintro p ps s ⟨k, rs, acc, a2, a3, a4, e1, e2, e3, e4, rfl⟩
      cases rs with
      | nil => cases e1
      | cons l rs =>
        simp only [List.map_cons, enF, List.cons.injEq] at e1
        obtain ⟨rfl, rfl⟩ := e1
        obtain ⟨la, ll⟩ := e2 l (List.mem_cons_self ..)
        simp -implicitDefEqProofs [wp_splitC, show l.length + 2 ≤ 16777216 by omega]
        simp only [List.length_cons] at e4
        by_cases e5 : (spl1 32 l).length = 2
        · obtain ⟨a, b, hab⟩ : ∃ a b, spl1 32 l = [a, b] := by
            match spl1 32 l, e5 with
            | [a, b], _ => exact ⟨a, b, rfl⟩
          have w1 := wt_split 32 l
          have ra := asc_split (c := 32) la
          rw [hab] at w1 ra ⊢
          rw [wt_cons, wt_cons] at w1
          have r1 : rowOf l = match nameL a, numOf b with | some n, some k => some (n, k) | _, _ => none := by unfold rowOf; rw [hab] <;> rfl
          have n1 := name_of_eq (w := a) (h := h) (by omega) (ra a (by simp))
          have n2 := number_of_eq (w := b) (h := h) (by omega) (ra b (by simp))
          simp -implicitDefEqProofs [n1, n2]
          cases q1 : nameL a with
          | none =>
            have : readR 0 (rowsL t) [] = .inl k := by rw [e3, readR, r1, q1]
            simp -implicitDefEqProofs [n1, n2, optN, this, readF]
          | some n =>
            cases q2 : numOf b with
            | none =>
              have : readR 0 (rowsL t) [] = .inl k := by rw [e3, readR, r1, q1, q2]
              simp -implicitDefEqProofs [n1, n2, q1, q2, optN, nmP, optK, this, readF]
            | some m =>
              have : readR 0 (rowsL t) [] = readR (k + 1) rs (acc ++ [(n, m)]) := by rw [e3, readR, r1, q1, q2]
              simp -implicitDefEqProofs [n1, n2, q1, q2, optN, nmP, optK, wp_append, show acc.length < 16777216 by omega]
              exact ⟨k + 1, rs, acc ++ [(n, m)], _, _, _, rfl, fun x hx => e2 x (List.mem_cons_of_mem _ hx), this, by simp; omega, by rw [List.map_append]; rfl⟩
        · have r1 : rowOf l = none := by
            unfold rowOf
            split
            · rename_i hab; rw [hab] at e5; exact absurd rfl e5
            · rfl
          have : readR 0 (rowsL t) [] = .inl k := by rw [e3, readR, r1]
          have e6 : ¬ ((spl1 32 l).length : Int) = 2 := by omega
          simp -implicitDefEqProofs [e6, this, readF]
    · rintro s ⟨k, rs, acc, a2, a3, a4, e1, e2, e3, e4, rfl⟩
      cases rs with
      | cons l rs => cases e1
      | nil =>
        have : readR 0 (rowsL t) [] = .inr acc := e3
        simp -implicitDefEqProofs [this, readF]
  by_cases e : t = []
  · subst e
    simp -implicitDefEqProofs [c1, c2]
    exact start fun _ _ => False
  · simp -implicitDefEqProofs [c1, c2, e, wp_splitC, show t.length + 2 ≤ 16777216 by omega]
    have := start (fun x s' => FRes.exc x s'.h = readF h (readR 0 (rowsL t) []))
    unfold rowsL at this
    rw [if_neg e] at this
    unfold rowsL
    rw [if_neg e]
    exact this
theorem cl_nmP {n : List (List Nat)} (h : ∀ l ∈ n, asc l) {k : Nat} : cl (k + 1) (nmP n) = true := by
  unfold nmP
  rw [cl_tup, List.all_map, List.all_eq_true]
  exact fun l hl => cl_sv (h l hl)
theorem word_of_eq {n : List (List Nat)} {h : List CO} (hn : ∀ l ∈ n, asc l) (hw : wt n ≤ 1000000) : fn_word_of [nmP n] h = .ok (.pv (sv (wordL n))) h := by
  refine wp_def (R := fun r => r = _) ?_
  simp only [sem_word_of, startC, dot_S]
  have hc : ∀ k, cl (k + 1) (nmP n) = true := fun k => cl_nmP hn
  unfold nmP at hc ⊢
  have hj : (n.map List.length).sum + n.length * [46].length ≤ 16777216 := by unfold wt at hw; simp; omega
  by_cases e : n = []
  · subst e
    simp -implicitDefEqProofs [wordL]
  · simp -implicitDefEqProofs [hc, e]
    rw [wp_joinT hj]
    simp -implicitDefEqProofs [wordL, e, joinC]
def badE (b : PV) (c : Nat) : Prop := ∃ n k, b = .tup [n, k] ∧ isDat n = true ∧ sml2 n = true ∧ isDat k = true ∧ ((c = 2 ∧ isName n = false) ∨ (c = 3 ∧ isName n = true ∧ btw k 0 999 = false))
/-- what writing ends with: the texts of the entries ahead; then a bad one, or the end -/
def wrF (h : List CO) (es : List Ent) : List PV → Nat → FRes
  | [], _ => .ok (.pv (sv (textL es))) h
  | _ :: _, c => .exc ⟨c, none⟩ h
def WInv (ents : List PV) (es : List Ent) (tl : List PV) (h : List CO) (ys : List PV) (s : CSt) : Prop := ∃ (es1 es2 : List Ent) (a2 a3 : SV), es = es1 ++ es2 ∧ ys = es2.map entP ++ tl ∧ s = ⟨[.pv (.lst ents), .own (.list ((es1.map entL).map sv)), a2, a3], h⟩
theorem okEnt_parts {e : Ent} (h : okEnt e = true) : okName e.1 = true ∧ e.2 < 1000 := by
  unfold okEnt at h; simpa using h
theorem okName_asc {n : List (List Nat)} (h : okName n = true) : ∀ l ∈ n, asc l := by
  unfold okName at h
  simp only [Bool.and_eq_true, List.all_eq_true] at h
  exact fun l hl => asc_lab (h.2 l hl)
theorem okName_wt {n : List (List Nat)} (h : okName n = true) : wt n ≤ 20 := by
  unfold okName at h
  simp only [Bool.and_eq_true, List.all_eq_true, decide_eq_true_eq] at h
  have := wt_labs h.2; omega
theorem written_eq {es : List Ent} {tl : List PV} {c : Nat} {h : List CO} (he : ∀ e ∈ es, okEnt e = true) (hl : es.length ≤ 10000) (hb : ∀ b ∈ tl.head?, badE b c) : fn_written [.lst (es.map entP ++ tl)] h = wrF h es tl c := by
  refine wp_def (R := fun r => r = _) ?_
  simp only [sem_written, startC, bl_S, nl_S]
  simp -implicitDefEqProofs
  refine for_inv (WInv (es.map entP ++ tl) es tl h) ⟨[], es, _, _, rfl, rfl, rfl⟩ ?_ ?_
  · rintro p ps s ⟨es1, es2, a2, a3, e1, e2, rfl⟩
    cases es2 with
    | nil =>
      cases tl with
      | nil => cases e2
      | cons b tl =>
        simp only [List.map_nil, List.nil_append, List.cons.injEq] at e2
        obtain ⟨rfl, rfl⟩ := e2
        obtain ⟨n, k, rfl, d1, d2, d3, q⟩ := hb p rfl
        simp -implicitDefEqProofs [is_name_eq d1 d2]
        rcases q with ⟨rfl, q⟩ | ⟨rfl, q, q2⟩
        · simp -implicitDefEqProofs [q, wrF]
        · simp -implicitDefEqProofs [q, is_between_eq d3, q2, wrF]
    | cons e es2 =>
      simp only [List.map_cons, List.cons_append, List.cons.injEq] at e2
      obtain ⟨rfl, rfl⟩ := e2
      have he1 := he e (by rw [e1]; simp)
      obtain ⟨o1, o2⟩ := okEnt_parts he1
      have n1 := name_nm (h := h) (n := e.1) (by have := okName_wt o1; omega)
      rw [o1] at n1
      have n2 : btw (.int (e.2 : Int)) 0 999 = true := by simp [btw]; omega
      have n3 := word_of_eq (h := h) (okName_asc o1) (by have := okName_wt o1; omega)
      have hlen : es1.length < 16777216 := by have := congrArg List.length e1; simp at this; omega
      have w1 := word_len o1
      have w2 := TL.numL_len (n := e.2) (k := 3) (by decide) o2
      simp -implicitDefEqProofs (disch := first | (simp -implicitDefEqProofs; done) | (simp -implicitDefEqProofs; omega) | omega) [entP, n1, is_between_eq, n2, n3, wp_str_n, wp_append]
      exact ⟨es1 ++ [e], es2, .pv (nmP e.1), .pv (.int e.2), by rw [e1]; simp, rfl, by simp [entL]⟩
  · rintro s ⟨es1, es2, a2, a3, e1, e2, rfl⟩
    cases es2 with
    | cons e es2 => cases e2
    | nil =>
      cases tl with
      | cons b tl => cases e2
      | nil =>
        have : es1 = es := by rw [e1]; simp
        subst this
        have hj : ((es1.map entL).map List.length).sum + (es1.map entL).length * [10].length ≤ 16777216 := by
          have := wt_ents he; unfold wt at this; simp at this ⊢; omega
        simp -implicitDefEqProofs
        have hm : es1.map (sv ∘ entL) = (es1.map entL).map sv := by simp
        rw [hm, wp_joinL hj]
        simp -implicitDefEqProofs [wrF, textL, joinC]
end K10

/-! K10D: the law's reader of a row. -/
namespace K10
open PySem CL
open PySem.PyData (strOk)
open LC (btw isLabel isName sml sml2 Dice diceO Rd Rds pz enF enumP_enF)
def optE : Option Ent → PV
  | none => .non
  | some e => entP e
/-- the numbers' words -/
def numsF (p : PV) : Option PV := match p with
  | .int i => some (sv (TL.numL i.toNat))
  | _ => none
theorem nums_list (n : Nat) : (rangeP 0 n).filterMap numsF = (List.range n).map fun i => sv (TL.numL i) := by
  unfold rangeP
  rw [List.filterMap_map]
  have : (numsF ∘ fun i : Nat => PV.int (0 + (i : Int))) = fun i => some (sv (TL.numL i)) := by
    funext i; simp [numsF]
  rw [this]
  simp
theorem nums_mem {b : List Nat} : (sv b ∈ (List.range 1000).map fun i => sv (TL.numL i)) ↔ (numOf b).isSome = true := by
  simp only [List.mem_map, List.mem_range]
  constructor
  · rintro ⟨n, hn, e⟩
    have : TL.numL n = b := by simpa using e
    rw [← this, num_tab n hn]; rfl
  · intro h
    obtain ⟨n, e⟩ := Option.isSome_iff_exists.mp h
    obtain ⟨h1, h2⟩ := num_inv e
    exact ⟨n, h1, by rw [h2]⟩
theorem lt_one {a c : Nat} : strLt (tx [a]) (tx [c]) = decide (a < c) := by
  unfold strLt
  rw [tx_cps, tx_cps]
  apply decide_eq_decide.mpr
  constructor
  · intro h
    cases h with
    | rel h => exact h
    | cons h => cases h
  · exact .rel
def badLow (p : PV) : Option PV := match p with
  | .str z => if z.cps.toList.all isLow = true then none else some p
  | _ => none
theorem badLow_c {c : Nat} : badLow (sv [c]) = if isLow c = true then none else some (sv [c]) := by simp [badLow]
theorem badLows : ∀ {l : List Nat}, (List.filterMap (badLow ∘ fun c => sv [c]) l).isEmpty = l.all isLow
  | [] => rfl
  | c :: l => by
    rw [List.filterMap_cons, Function.comp, badLow_c, List.all_cons, ← badLows (l := l)]
    cases isLow c <;> simp
def LInv (l : List Nat) (wd : List PV) (labs : List (List Nat)) (h : List CO) (ys : List PV) (s : CSt) : Prop := ∃ (rs : List (List Nat)) (a2 a4 a5 : SV), ys = rs.map sv ∧ (∀ x ∈ rs, x ∈ labs) ∧ labs.all labL = rs.all labL ∧ s = ⟨[.pv (sv l), .pv (.lst wd), a2, .pv (.lst (labs.map sv)), a4, a5], h⟩
theorem law_row_eq {l : List Nat} {h : List CO} (ha : asc l) (hl : l.length ≤ 1000000) : fn__law_row [sv l] h = .ok (.pv (optE (rowOf l))) h := by
  refine wp_def (R := fun r => r = _) ?_
  have a_S : Str.ofString "a" = tx [97] := by decide +kernel
  have z_S2 : Str.ofString "z" = tx [122] := by decide +kernel
  simp only [sem__law_row, startC, bl_S, dot_S, a_S, z_S2]
  simp -implicitDefEqProofs [wp_splitC, show l.length + 2 ≤ 16777216 by omega]
  by_cases e5 : (spl1 32 l).length = 2
  · obtain ⟨a, b, hab⟩ : ∃ a b, spl1 32 l = [a, b] := by
      match spl1 32 l, e5 with
      | [a, b], _ => exact ⟨a, b, rfl⟩
    have w1 := wt_split 32 l
    have ra := asc_split (c := 32) ha
    have r1 : rowOf l = match nameL a, numOf b with | some n, some k => some (n, k) | _, _ => none := by unfold rowOf; rw [hab] <;> rfl
    rw [hab] at w1 ra ⊢
    rw [wt_cons, wt_cons, wt_nil] at w1
    have aa : asc a := ra a (by simp)
    have ab : asc b := ra b (by simp)
    have cb : ∀ n, cl n (sv b) = true := fun n => cl_sv ab
    have ca : ∀ n, cl n (sv a) = true := fun n => cl_sv aa
    have cd : ∀ n, cl n (sv [46]) = true := fun n => cl_sv (by intro c h; simp at h; omega)
    simp -implicitDefEqProofs [show inR 1000 = true by decide +kernel]
    have c6 : cl 20 (.lst ((List.range 1000).map fun i => sv (TL.numL i))) = true := by
      rw [cl_lst, List.all_map, List.all_eq_true]
      exact fun i _ => cl_sv (asc_num i)
    have m := nums_mem (b := b)
    have g1 : ∀ p ∈ rangeP 0 1000, ∃ i : Nat, i < 1000 ∧ p = .int (i : Int) := fun p hp => by
      simp only [rangeP, List.mem_map, List.mem_range] at hp
      obtain ⟨i, hi, rfl⟩ := hp
      exact ⟨i, hi, by simp⟩
    have g2 : (rangeP 0 1000).length ≤ 16777216 := by rw [LC.rangeP_len]; decide
    have g3 := nums_list 1000
    generalize (List.range 1000).map (fun i => sv (TL.numL i)) = NL at c6 m g3
    generalize rangeP 0 1000 = RL at g1 g2 g3 ⊢
    refine kComp_pure numsF g2 (fun p hp => ?_) ?_
    · obtain ⟨i, hi, rfl⟩ := g1 p hp
      simp -implicitDefEqProofs [wipeC, wp_str_n (show i < 1000000 by omega), numsF]
    · rw [g3]
      simp only [k1_ap]
      rw [wp_nin_o (cb 20) c6]
      cases q2 : numOf b with
      | none =>
        rw [q2] at m
        have m2 : decide (sv b ∈ NL) = false := decide_eq_false fun z => by have := m.mp z; cases this
        rw [m2]
        have : rowOf l = none := by rw [r1, q2]; cases nameL a <;> rfl
        simp -implicitDefEqProofs [this, optE]
      | some k =>
        rw [q2] at m
        have m2 : decide (sv b ∈ NL) = true := decide_eq_true (m.mpr rfl)
        rw [m2]
        obtain ⟨k1, k2⟩ := num_inv q2
        have hi : PySem.intText? (tx b) = some (k : Int) := by
          have h0 := q2
          unfold numOf at h0
          split at h0
          · rename_i c
            simp only [Bool.and_eq_true, decide_eq_true_eq, List.all_eq_true] at c
            have := SX.int_S (a := b) (by rw [List.all_eq_true]; intro x hx; exact c.1.2 x hx) (by intro z; subst z; simp at c) (by omega)
            rw [Option.some.inj h0] at this
            exact this
          · cases h0
        have hb : (tx b).length ≤ 640 := by
          have := TL.numL_len (n := k) (k := 3) (by decide) k1
          rw [tx_len, ← k2]; omega
        have loop : ∀ labs : List (List Nat), (labs = [] ∧ a = [46] ∨ labs = spl1 46 a ∧ a ≠ [46]) → ∀ a2 a4 a5 : SV, kFor (gNm 4) (sIf (bOr (bNot (tst (eLeLe (kst (.int 1)) (e1 opLen (rdVar 4)) (kst (.int 3))))) (tst (e2 (opEmp true) (eComp [5] (iSeq (ePv (rdVar 4))) (gNm 5) (bNot (tst (eLeLe (kst (.str (tx [97]))) (rdVar 5) (kst (.str (tx [122])))))) (ePv (rdVar 5))) (eLst aNil)))) (sRet (kst .non)) sNil)
            (kSeq (sRet (eIf (tst (e2 opLt (e1 opLen (rdVar 3)) (kst (.int 6)))) (eTup (aCons (ePv (e1 opTuple (rdVar 3))) (aCons (ePv (e1 opIntS (e2 opIx (rdVar 1) (kst (.int 1))))) aNil))) (kst .non))) (kFin fun r => r = FRes.ok (FV.pv (optE (rowOf l))) h) fun x s' => False) (fun x s' => False)
            (labs.map sv, yes) ⟨[.pv (sv l), .pv (.lst [sv a, sv b]), a2, .pv (.lst (labs.map sv)), a4, a5], h⟩ := by
          intro labs hlabs a2 a4 a5
          have wl : ∀ x ∈ labs, x.length ≤ 1000000 := fun x hx => by
            rcases hlabs with ⟨rfl, _⟩ | ⟨rfl, _⟩
            · cases hx
            · have := mem_wt hx; rw [wt_split] at this; omega
          have nl : nameL a = if okName labs = true then some labs else none := by
            unfold nameL okName
            rcases hlabs with ⟨rfl, rfl⟩ | ⟨rfl, z⟩
            · rfl
            · rw [if_neg z]
          refine for_inv (LInv l [sv a, sv b] labs h) ⟨labs, _, _, _, rfl, fun _ h => h, rfl, rfl⟩ ?_ ?_
          · rintro p ps s ⟨rs, b2, b4, b5, y1, y2, y3, rfl⟩
            cases rs with
            | nil => cases y1
            | cons x rs =>
              simp only [List.map_cons, List.cons.injEq] at y1
              obtain ⟨rfl, rfl⟩ := y1
              have hx : x.length ≤ 16777216 := by have := wl x (y2 x (List.mem_cons_self ..)); omega
              have go : ∀ b5, labL x = true → LInv l [sv a, sv b] labs h (rs.map sv) ⟨[.pv (sv l), .pv (.lst [sv a, sv b]), b2, .pv (.lst (labs.map sv)), .pv (sv x), b5], h⟩ := fun b5 hx => ⟨rs, _, _, _, rfl, fun q hq => y2 q (List.mem_cons_of_mem _ hq), by rw [y3, List.all_cons, hx]; rfl, rfl⟩
              have bad : labL x = false → rowOf l = none := fun hx => by
                have z : labs.all labL = false := by rw [y3, List.all_cons, hx]; rfl
                have : nameL a = none := by rw [nl]; unfold okName; rw [z]; simp
                rw [r1, this]
              simp -implicitDefEqProofs [hx]
              refine kChB_split (fun z1 => ?_) fun z1 => ?_
              · have z1 := of_decide_eq_true z1
                simp -implicitDefEqProofs
                by_cases z2 : (x.length : Int) ≤ 3
                · simp -implicitDefEqProofs [z2]
                  refine kComp_pure badLow (by simp; omega) (fun p hp => ?_) ?_
                  · simp only [tx_signs, List.mem_map] at hp
                    obtain ⟨c, hc, rfl⟩ := hp
                    rw [badLow_c]
                    simp -implicitDefEqProofs [wipeC, lt_one]
                    refine kChB_split (fun z3 => ?_) fun z3 => ?_
                    · simp at z3
                      simp -implicitDefEqProofs [lt_one]
                      by_cases z4 : c ≤ 122
                      · have : isLow c = true := by unfold isLow; simp; omega
                        simp -implicitDefEqProofs [this, show ¬ 122 < c by omega]
                      · have : isLow c = false := by unfold isLow; simp; omega
                        simp -implicitDefEqProofs [this, show 122 < c by omega]
                    · simp at z3
                      have : isLow c = false := by unfold isLow; simp; omega
                      simp -implicitDefEqProofs [this]
                  · simp -implicitDefEqProofs [wipeC]
                    rw [badLows]
                    have z5 : labL x = x.all isLow := by
                      unfold labL
                      rw [decide_eq_true (show 1 ≤ x.length by omega), decide_eq_true (show x.length ≤ 3 by omega)]; rfl
                    cases z6 : x.all isLow
                    · have := bad (by rw [z5, z6])
                      simp -implicitDefEqProofs [this, optE]
                    · simp -implicitDefEqProofs
                      exact go _ (by rw [z5, z6])
                · have := bad (by unfold labL; rw [decide_eq_false (show ¬ x.length ≤ 3 by omega)]; simp)
                  simp -implicitDefEqProofs [z2, this, optE]
              · have z1 := of_decide_eq_false z1
                have := bad (by unfold labL; rw [decide_eq_false (show ¬ 1 ≤ x.length by omega)]; simp)
                simp -implicitDefEqProofs [this, optE]
          · rintro s ⟨rs, b2, b4, b5, y1, y2, y3, rfl⟩
            cases rs with
            | cons x rs => cases y1
            | nil =>
              have y4 : labs.all labL = true := y3
              simp -implicitDefEqProofs
              by_cases z : labs.length ≤ 5
              · have : rowOf l = some (labs, k) := by
                  rw [r1, nl, q2]; unfold okName; rw [y4, decide_eq_true z]; rfl
                simp -implicitDefEqProofs [show (labs.length : Int) < 6 by omega, wp_intS hi hb, this, optE, entP, nmP]
              · have : rowOf l = none := by
                  rw [r1, nl]; unfold okName; rw [decide_eq_false z]; rfl
                simp -implicitDefEqProofs [show ¬ (labs.length : Int) < 6 by omega, this, optE]
        by_cases e7 : a = [46]
        · simp -implicitDefEqProofs [wipeC, ca, cd, e7]
          have := loop [] (.inl ⟨rfl, e7⟩) (.emp) .emp .emp
          subst e7
          exact this
        · simp -implicitDefEqProofs [wipeC, ca, cd, e7, wp_splitC, show a.length + 2 ≤ 16777216 by omega]
          exact loop _ (.inr ⟨rfl, e7⟩) _ _ _
  · have r1 : rowOf l = none := by
      unfold rowOf
      split
      · rename_i hab; rw [hab] at e5; exact absurd rfl e5
      · rfl
    have e6 : ¬ ((spl1 32 l).length : Int) = 2 := by omega
    simp -implicitDefEqProofs [e6, r1, optE]
end K10

/-! K10E: a text changed. -/
namespace K10
open PySem CL
open PySem.PyData (strOk)
open LC (Dice diceO next_call pick_k)
theorem cut_t0 {xs : List PV} {n : Nat} : cutP xs none (some (n : Int)) = xs.take n := by rw [cutP_to (by omega)]; rfl
theorem cut_f1 {xs : List PV} {n : Nat} : cutP xs (some ((n : Int) + 1)) none = xs.drop (n + 1) := by rw [cutP_from (by omega)]; congr 1
theorem cut_m1 {xs : List PV} {n : Nat} : cutP xs (some (n : Int)) (some ((n : Int) + 1)) = (xs.drop n).take 1 := by
  rw [cutP_mid (by omega) (by omega)]; congr 1; omega
/-- texts of signs that can be, of that weight -/
structure Wd (N : Nat) (ps : List (List Nat)) : Prop where
  asc : ∀ p ∈ ps, asc p
  wt : wt ps ≤ N
theorem Wd.append {N M : Nat} {ps qs : List (List Nat)} (h : Wd N ps) (h2 : Wd M qs) : Wd (N + M) (ps ++ qs) := ⟨fun p hp => (List.mem_append.mp hp).elim (h.asc p) (h2.asc p), by rw [wt_append]; have := h.wt; have := h2.wt; omega⟩
theorem Wd.join {N : Nat} {ps : List (List Nat)} {c : Nat} (h : Wd N ps) (hc : c < 128) : K10.asc (joinC c ps) ∧ (joinC c ps).length ≤ N := ⟨asc_join hc h.asc, Nat.le_trans (join_len _ _) h.wt⟩
theorem Wd.sum {N : Nat} {ps : List (List Nat)} (h : Wd N ps) (hN : N ≤ 1000000) (c : Nat) : (ps.map List.length).sum + ps.length * [c].length ≤ 16777216 := by
  have := h.wt; unfold K10.wt at this; simp; omega
theorem wd_split {c : Nat} {l : List Nat} (h : asc l) : Wd (l.length + 1) (spl1 c l) := ⟨asc_split h, by rw [wt_split]; exact Nat.le_refl _⟩
theorem wd_one {p : List Nat} (h : asc p) : Wd (p.length + 1) [p] := ⟨fun q hq => by rw [List.mem_singleton.mp hq]; exact h, by simp [wt]⟩
theorem wd_nil : Wd 0 [] := ⟨(fun _ h => by cases h), by simp⟩
/-- cut at n: what stands there left out -/
theorem wd_cut {N n : Nat} {ps : List (List Nat)} (h : Wd N ps) (hn : n < ps.length) : ∃ A B, Wd A (ps.take n) ∧ Wd B (ps.drop (n + 1)) ∧ A + B + (ps[n].length + 1) ≤ N := by
  have e : ps = ps.take n ++ (ps[n] :: ps.drop (n + 1)) := by rw [List.getElem_cons_drop, List.take_append_drop]
  have w := h.wt
  rw [e, wt_append, wt_cons] at w
  exact ⟨wt (ps.take n), wt (ps.drop (n + 1)), ⟨fun p hp => h.asc p (List.mem_of_mem_take hp), Nat.le_refl _⟩, ⟨fun p hp => h.asc p (List.mem_of_mem_drop hp), Nat.le_refl _⟩, by omega⟩
def odds : List (List Nat) := [[], [48], [48, 48], [57, 57, 57], [49, 48, 48, 48], [45, 49], [46], [46, 46], [97, 46], [46, 97], [97, 46, 98, 46, 99, 46, 100, 46, 101], [97, 46, 98, 46, 99, 46, 100, 46, 101, 46, 102], [97, 98, 99, 100], [65], [97, 45, 98]]
theorem odds_S : [PV.str (Str.ofString ""), .str (Str.ofString "0"), .str (Str.ofString "00"), .str (Str.ofString "999"), .str (Str.ofString "1000"), .str (Str.ofString "-1"), .str (Str.ofString "."), .str (Str.ofString ".."), .str (Str.ofString "a."), .str (Str.ofString ".a"), .str (Str.ofString "a.b.c.d.e"), .str (Str.ofString "a.b.c.d.e.f"), .str (Str.ofString "abcd"), .str (Str.ofString "A"), .str (Str.ofString "a-b")] = odds.map sv := by decide +kernel
theorem odds_ok : ∀ o ∈ odds, (∀ c ∈ o, c < 128) ∧ o.length ≤ 11 := by decide +kernel
def evs : List Nat := (Str.ofString " !#$&'()*+,-./0123456789:;<=>?@ABCDEFGHIJKLMNOPQRSTUVWXYZ[]^_`abcdefghijklmnopqrstuvwxyz{|}~\n").cps.toList
theorem evs_S : Str.ofString " !#$&'()*+,-./0123456789:;<=>?@ABCDEFGHIJKLMNOPQRSTUVWXYZ[]^_`abcdefghijklmnopqrstuvwxyz{|}~\n" = tx evs := (SX.S_tl _).symm
theorem evs_len : evs.length = 93 := by decide +kernel
theorem evs_ok : ∀ c ∈ evs, c < 128 := by decide +kernel
theorem changed_k (ns : List Int) (D : Dice) (t : CO) (g : List CO) {l : List Nat} (ha : asc l) (hl : l.length ≤ 100000) (R : FRes → Prop)
    (kk : ∀ (l' : List Nat) (D' : Dice), asc l' → l'.length ≤ 2 * l.length + 40 → R (.ok (.pv (sv l')) (t :: diceO ns D' :: g))) : R (fn__law_changed [.loc 1, sv l] (t :: diceO ns D :: g)) := by
  refine wp_def ?_
  simp only [sem__law_changed, startC, e_next, evs_S, nl_S, bl_S]
  have ne1 := spl1_ne 10 l
  have wd1 := wd_split (c := 10) ha
  simp -implicitDefEqProofs [wp_splitC, show l.length + 2 ≤ 16777216 by omega]
  have ln1 : (spl1 10 l).length ≤ l.length + 1 := Nat.le_trans (len_wt _) wd1.wt
  generalize spl1 10 l = rows at ne1 wd1 ln1 ⊢
  have pos1 : 0 < rows.length := List.length_pos_iff.mpr ne1
  refine next_call (by omega) (by omega) fun v D1 h2 h3 => ?_
  obtain ⟨k, rfl⟩ := Int.eq_ofNat_of_zero_le h2
  have hk : k < rows.length := by omega
  obtain ⟨A, B, wA, wB, hAB⟩ := wd_cut wd1 hk
  have ar : asc rows[k] := wd1.asc _ (List.getElem_mem hk)
  have wd2 := wd_split (c := 32) ar
  have ne2 := spl1_ne 32 rows[k]
  have ln2 : (spl1 32 rows[k]).length ≤ rows[k].length + 1 := Nat.le_trans (len_wt _) wd2.wt
  have lr : rows[k].length ≤ l.length := by omega
  simp -implicitDefEqProofs [hk, wp_splitC, show rows[k].length + 2 ≤ 16777216 by omega]
  generalize spl1 32 rows[k] = words at ne2 wd2 ln2 ⊢
  have pos2 : 0 < words.length := List.length_pos_iff.mpr ne2
  refine next_call (by omega) (by omega) fun v D2 h4 h5 => ?_
  obtain ⟨j, rfl⟩ := Int.eq_ofNat_of_zero_le h4
  have hj : j < words.length := by omega
  obtain ⟨A2, B2, wA2, wB2, hAB2⟩ := wd_cut wd2 hj
  simp -implicitDefEqProofs
  simp only [odds_S]
  refine next_call (by decide) (by decide) fun way D3 h6 h7 => ?_
  simp -implicitDefEqProofs
  have tw : ∀ (p q : List (List Nat)) (i j : Nat), List.take i (List.map sv p) ++ (q.map sv ++ List.drop j (List.map sv p)) = (p.take i ++ (q ++ p.drop j)).map sv := fun p q i j => by simp [List.map_take, List.map_drop]
  have tw1 : ∀ (p : List (List Nat)) (x : List Nat) (i j : Nat), List.take i (List.map sv p) ++ (sv x :: List.drop j (List.map sv p)) = (p.take i ++ ([x] ++ p.drop j)).map sv := fun p q i j => by simp [List.map_take, List.map_drop]
  have one : ∀ (p : List (List Nat)) (i : Nat) (h : i < p.length), List.take 1 (List.drop i (List.map sv p)) = [sv p[i]] := fun p i h => by
    rw [List.drop_eq_getElem_cons (by simpa using h)]; simp
  refine kIf_split (fun c1 => ?_) fun c1 => ?_
  · replace c1 := of_decide_eq_true c1
    simp -implicitDefEqProofs (disch := first | (simp -implicitDefEqProofs; done) | (simp -implicitDefEqProofs; omega) | omega) [wp_mulL, cut_m1, one, hj]
    refine next_call (by decide) (by decide) fun u D4 h8 h9 => ?_
    simp -implicitDefEqProofs
    refine pick_k h8 (by simp [odds]; omega) fun od hod => ?_
    obtain ⟨o, ho, rfl⟩ := List.mem_map.mp hod
    obtain ⟨o1, o2⟩ := odds_ok o ho
    simp -implicitDefEqProofs
    refine pick_k h6 (by simp; omega) fun p hp => ?_
    have key : ∃ q : List (List Nat), p = .lst (q.map sv) ∧ Wd (2 * (words[j].length + 1) + 12) q := by
      simp only [List.mem_cons, List.not_mem_nil, or_false] at hp
      rcases hp with rfl | rfl | rfl
      · exact ⟨[], rfl, ⟨wd_nil.asc, by simp⟩⟩
      · have := wd_one (wd2.asc _ (List.getElem_mem hj))
        exact ⟨[words[j], words[j]], rfl, (this.append this).asc, by have := (this.append this).wt; simp only [List.singleton_append] at this; omega⟩
      · exact ⟨[o], rfl, (wd_one o1).asc, by have := (wd_one o1).wt; omega⟩
    obtain ⟨q, rfl, wq⟩ := key
    have w3 := wA2.append (wq.append wB2)
    obtain ⟨a3, l3⟩ := w3.join (c := 32) (by decide)
    unfold joinC at a3 l3
    have j3 := w3.sum (by omega) 32
    have lq := Nat.le_trans (len_wt q) wq.wt
    simp -implicitDefEqProofs (disch := first | (simp -implicitDefEqProofs; done) | (simp -implicitDefEqProofs; omega) | omega) [cut_t0, cut_f1, wp_addL]
    rw [tw, wp_joinL j3]
    generalize TL.joinL [32] (words.take j ++ (q ++ words.drop (j + 1))) = line at a3 l3 ⊢
    have w4 := wA.append ((wd_one a3).append wB)
    obtain ⟨a4, l4⟩ := w4.join (c := 10) (by decide)
    unfold joinC at a4 l4
    have j4 := w4.sum (by omega) 10
    simp -implicitDefEqProofs (disch := first | (simp -implicitDefEqProofs; done) | (simp -implicitDefEqProofs; omega) | omega) [cut_t0, cut_f1, wp_addL]
    rw [tw1, wp_joinL j4]
    generalize TL.joinL [10] (rows.take k ++ ([line] ++ rows.drop (k + 1))) = l2 at a4 l4 ⊢
    simp -implicitDefEqProofs
    exact kk _ D4 a4 (by omega)
  · replace c1 := of_decide_eq_false c1
    simp -implicitDefEqProofs
    refine kIf_split (fun c2 => ?_) fun c2 => ?_
    · replace c2 := of_decide_eq_true c2
      have hw : way = 3 ∨ way = 4 := by omega
      have fin : ∀ q : List (List Nat), Wd (2 * (rows[k].length + 1)) q → R (.ok (.pv (sv (TL.joinL [10] (rows.take k ++ (q ++ rows.drop (k + 1)))))) (t :: diceO ns D3 :: g)) := fun q wq => by
        have w4 := wA.append (wq.append wB)
        obtain ⟨a4, l4⟩ := w4.join (c := 10) (by decide)
        exact kk _ D3 a4 (by unfold joinC at l4; omega)
      have jn : ∀ q : List (List Nat), Wd (2 * (rows[k].length + 1)) q → ((rows.take k ++ (q ++ rows.drop (k + 1))).map List.length).sum + (rows.take k ++ (q ++ rows.drop (k + 1))).length * [10].length ≤ 16777216 := fun q wq => (wA.append (wq.append wB)).sum (by omega) 10
      have w0 : Wd (2 * (rows[k].length + 1)) [] := ⟨wd_nil.asc, by simp⟩
      have w2 : Wd (2 * (rows[k].length + 1)) [rows[k], rows[k]] := by
        have := (wd_one ar).append (wd_one ar)
        exact ⟨this.asc, by have := this.wt; simp only [List.singleton_append] at this; omega⟩
      have j0 := jn [] w0
      have j2 := jn _ w2
      have f0 := fin [] w0
      have f2 := fin _ w2
      have t0 : List.take k (List.map sv rows) ++ List.drop (k + 1) (List.map sv rows) = (rows.take k ++ ([] ++ rows.drop (k + 1))).map sv := by simp [List.map_take, List.map_drop]
      have t2 : List.take k (List.map sv rows) ++ (sv rows[k] :: sv rows[k] :: List.drop (k + 1) (List.map sv rows)) = (rows.take k ++ ([rows[k], rows[k]] ++ rows.drop (k + 1))).map sv := by rw [List.map_append, List.map_append, List.map_take, List.map_drop]; rfl
      rcases hw with rfl | rfl
      · simp -implicitDefEqProofs (disch := first | (simp -implicitDefEqProofs; done) | (simp -implicitDefEqProofs; omega) | omega) [wp_mulL, cut_m1, one, hk, cut_t0, cut_f1, wp_addL]
        rw [t0, wp_joinL j0]
        generalize TL.joinL [10] (rows.take k ++ ([] ++ rows.drop (k + 1))) = l2 at f0 ⊢
        simp -implicitDefEqProofs
        exact f0
      · simp -implicitDefEqProofs (disch := first | (simp -implicitDefEqProofs; done) | (simp -implicitDefEqProofs; omega) | omega) [wp_mulL, cut_m1, one, hk, cut_t0, cut_f1, wp_addL]
        rw [t2, wp_joinL j2]
        generalize TL.joinL [10] (rows.take k ++ ([rows[k], rows[k]] ++ rows.drop (k + 1))) = l2 at f2 ⊢
        simp -implicitDefEqProofs
        exact f2
    · simp -implicitDefEqProofs [show l.length ≤ 16777216 by omega]
      refine next_call (by omega) (by omega) fun pl D4 h8 h9 => ?_
      obtain ⟨p, rfl⟩ := Int.eq_ofNat_of_zero_le h8
      simp -implicitDefEqProofs [show l.length ≤ 16777216 by omega, cutS_to]
      refine next_call (by decide) (by decide) fun u D5 h10 h11 => ?_
      obtain ⟨n, rfl⟩ := Int.eq_ofNat_of_zero_le h10
      have hn : n < evs.length := by rw [evs_len]; omega
      simp -implicitDefEqProofs [wp_ixS (l := evs) (by rw [evs_len]; decide), hn]
      refine next_call (by decide) (by decide) fun m D6 h12 h13 => ?_
      simp -implicitDefEqProofs [wp_mulS h12 (show m ≤ 1 by omega)]
      have em : ∃ z : List Nat, (if m = 0 then Str.empty else tx [evs[n]]) = tx z ∧ asc z ∧ z.length ≤ 1 := by
        by_cases c : m = 0
        · exact ⟨[], by rw [if_pos c]; rfl, (fun _ h => by cases h), by simp⟩
        · exact ⟨[evs[n]], by rw [if_neg c], fun c hc => by rw [List.mem_singleton.mp hc]; exact evs_ok _ (List.getElem_mem hn), by simp⟩
      obtain ⟨z, ez, az, lz⟩ := em
      rw [ez]
      have lp : (l.take p).length ≤ l.length := by simp; omega
      simp -implicitDefEqProofs (disch := first | (simp -implicitDefEqProofs; done) | (simp -implicitDefEqProofs; omega) | omega)
      refine next_call (by decide) (by decide) fun x D7 h14 h15 => ?_
      obtain ⟨y, rfl⟩ := Int.eq_ofNat_of_zero_le h14
      simp -implicitDefEqProofs (disch := first | (simp -implicitDefEqProofs; done) | (simp -implicitDefEqProofs; omega) | omega) [cutS_from]
      refine kk _ D7 (fun c hc => ?_) ?_
      · rcases List.mem_append.mp hc with h | h
        · exact ha c (List.mem_of_mem_take h)
        · rcases List.mem_append.mp h with h | h
          · exact az c h
          · exact ha c (List.mem_of_mem_drop h)
      · simp; omega
end K10

/-! K10F: what the law's turns need. -/
namespace K10
open PySem CL
open PySem.PyData (strOk)
open LC (btw isLabel isName sml sml2 Dice diceO Rd Rds pz next_call pick_k nm)
theorem e_labels : fn__law_labels = LC.fn__law_labels := rfl
theorem told_name {h : List CO} : toldF tN tE emB sem_told_suite (.exc ⟨2, none⟩ h) = .ok (.pv (.tup [.str "refused", .str "name"])) h := toldF_exc rfl (by
  refine wp_fin (R := fun x => x = _) ?_
  simp only [sem_told_suite, exnS, tN, tE]
  simp -implicitDefEqProofs [ki_BadHouse, ki_BadName, ki_BadNumber, ki_NotHome, ki_BadCut, ki_Full, ki_BadTables, ki_BadLog, ki_BadText, ki_ValueError, wp_addL, wp_append, wp_count, wp_index, List.countP_cons, List.findIdx?_cons, okx_number, okx_row])
theorem told_number {h : List CO} : toldF tN tE emB sem_told_suite (.exc ⟨3, none⟩ h) = .ok (.pv (.tup [.str "refused", .str "number"])) h := toldF_exc rfl (by
  refine wp_fin (R := fun x => x = _) ?_
  simp only [sem_told_suite, exnS, tN, tE]
  simp -implicitDefEqProofs [ki_BadHouse, ki_BadName, ki_BadNumber, ki_NotHome, ki_BadCut, ki_Full, ki_BadTables, ki_BadLog, ki_BadText, ki_ValueError, wp_addL, wp_append, wp_count, wp_index, List.countP_cons, List.findIdx?_cons, okx_number, okx_row])
def refT (k : Int) : PV := .tup [.str "refused", .str "text", .int k]
theorem told_text {k : Int} {h : List CO} : toldF tN tE emB sem_told_suite (.exc ⟨9, some ("row", .int k)⟩ h) = .ok (.pv (refT k)) h := toldF_exc rfl (by
  refine wp_fin (R := fun x => x = _) ?_
  simp only [sem_told_suite, exnS, tN, tE]
  simp -implicitDefEqProofs [ki_BadHouse, ki_BadName, ki_BadNumber, ki_NotHome, ki_BadCut, ki_Full, ki_BadTables, ki_BadLog, ki_BadText, ki_ValueError, wp_addL, wp_append, wp_count, wp_index, List.countP_cons, List.findIdx?_cons, okx_number, okx_row, refT])
/-! ### names drawn -/
theorem name_of_nm {ls : List (List Nat)} {xs : List Str} (h : ∀ x ∈ xs, x ∈ ls.map tx) : ∃ n : List (List Nat), nm xs = nmP n ∧ n.length = xs.length ∧ ∀ y ∈ n, y ∈ ls := by
  induction xs with
  | nil => exact ⟨[], rfl, rfl, fun _ h => by cases h⟩
  | cons x xs ih =>
    obtain ⟨n, e, l, m⟩ := ih fun y hy => h y (List.mem_cons_of_mem _ hy)
    obtain ⟨y, hy, rfl⟩ := List.mem_map.mp (h x (List.mem_cons_self ..))
    refine ⟨y :: n, ?_, by simp [l], fun z hz => (List.mem_cons.mp hz).elim (fun e => e ▸ hy) (m z)⟩
    unfold nm nmP at e ⊢
    have e2 : xs.map PV.str = n.map sv := by injection e
    rw [List.map_cons, List.map_cons, e2]
theorem name_call2 {ns : List Int} {D : Dice} {t : CO} {r : List CO} {ls : List (List Nat)} {s : CSt} {Q : RV → CSt → Prop} {E : EQ} (h0 : ls ≠ []) (h1 : ls.length < 1000) (hl : ∀ l ∈ ls, LC.labC l = true)
    (k : ∀ (n : List (List Nat)) (D' : Dice), okName n = true → Q (.pv (nmP n)) { s with h := t :: diceO ns D' :: r }) : kLift (LC.fn__law_name [.loc 1, .lst (ls.map sv)] (t :: diceO ns D :: r)) s Q E := by
  have e : ls.map sv = (ls.map tx).map .str := by simp
  rw [e]
  refine LC.name_call (by simpa using h0) (by simpa using h1) fun xs D' h2 h3 => ?_
  obtain ⟨n, e1, e2, e3⟩ := name_of_nm h3
  rw [e1]
  refine k n D' ?_
  unfold okName
  simp only [Bool.and_eq_true, decide_eq_true_eq, List.all_eq_true]
  exact ⟨by omega, fun l h => hl l (e3 l h)⟩
/-! ### words of entries -/
def unS : PV → List Nat
  | .str x => x.cps.toList
  | _ => []
def wordF : PV → Option PV
  | .tup [.tup ls, _] => some (sv (wordL (ls.map unS)))
  | _ => none
theorem wordF_ent (e : Ent) : wordF (entP e) = some (sv (wordL e.1)) := by
  have : (e.1.map sv).map unS = e.1 := by
    rw [List.map_map]
    conv => rhs; rw [← List.map_id e.1]
    exact List.map_congr_left fun l _ => rfl
  show some (sv (wordL ((e.1.map sv).map unS))) = _
  rw [this]
theorem words_list (es : List Ent) : (es.map entP).filterMap wordF = es.map fun e => sv (wordL e.1) := by
  rw [List.filterMap_map]
  have : (wordF ∘ entP) = fun e => some (sv (wordL e.1)) := funext wordF_ent
  rw [this]; simp
def entF (es : List Ent) : PV → Option PV
  | .int i => some (sv ((es.map entL).getD i.toNat []))
  | _ => none
theorem ents_list (es : List Ent) : (rangeP 0 es.length).filterMap (entF es) = (es.map entL).map sv := by
  unfold rangeP
  rw [List.filterMap_map]
  have : (entF es ∘ fun i : Nat => PV.int (0 + (i : Int))) = fun i => some (sv ((es.map entL).getD i [])) := by
    funext i; simp [entF]
  rw [this, List.filterMap_eq_map']
  apply List.ext_getElem
  · simp
  · intro i h1 h2
    simp at h1 h2 ⊢
    simp [h1]
def rowF : PV → Option PV
  | .str x => some (optE (rowOf x.cps.toList))
  | _ => none
theorem rowF_list (rs : List (List Nat)) : (rs.map sv).filterMap rowF = rs.map fun r => optE (rowOf r) := by
  rw [List.filterMap_map]
  have : (rowF ∘ sv) = fun r => some (optE (rowOf r)) := rfl
  rw [this]; simp
/-! ### read, and the law's rows -/
theorem readR_find : ∀ (rs : List (List Nat)) (k : Nat) (acc : List Ent), readR k rs acc = match rs.findIdx? (fun r => (rowOf r).isNone) with | some i => .inl (k + i) | none => .inr (acc ++ rs.filterMap rowOf)
  | [], k, acc => by simp [readR]
  | r :: rs, k, acc => by
    rw [readR, List.findIdx?_cons]
    cases h : rowOf r with
    | none => simp
    | some e =>
      simp only [Option.isNone_some, Bool.false_eq_true, if_false, List.filterMap_cons, h]
      rw [readR_find rs (k + 1) (acc ++ [e])]
      cases rs.findIdx? (fun r => (rowOf r).isNone) with
      | none => simp
      | some i => simp; omega
theorem read_text {es : List Ent} (h : ∀ e ∈ es, okEnt e = true) : readR 0 (rowsL (textL es)) [] = .inr es := by
  rw [rows_text h]
  have : ∀ (es : List Ent) (k : Nat) (acc : List Ent), (∀ e ∈ es, okEnt e = true) → readR k (es.map entL) acc = .inr (acc ++ es) := by
    intro es
    induction es with
    | nil => intro k acc _; simp [readR]
    | cons e es ih =>
      intro k acc h
      rw [List.map_cons, readR, row_ent (h e (List.mem_cons_self ..))]
      simp only
      rw [ih _ _ fun x hx => h x (List.mem_cons_of_mem _ hx)]; simp
  exact this es 0 [] h
/-! ### values that can be compared -/
theorem cl_entP {e : Ent} (h : okEnt e = true) {k : Nat} : cl (k + 2) (entP e) = true := by
  unfold entP
  simp [cl_nmP (okName_asc (okEnt_parts h).1)]
theorem cl_ents {es : List Ent} (h : ∀ e ∈ es, okEnt e = true) {k : Nat} : cl (k + 3) (.lst (es.map entP)) = true := by
  rw [cl_lst, List.all_map, List.all_eq_true]
  exact fun e he => cl_entP (h e he)
theorem pz_sv {l : List Nat} {n : Nat} (h : asc l) : pz n (sv l) = true := by rw [LC.pz_str]; exact strOk_tx h
theorem pz_nmP {n : List (List Nat)} (h : okName n = true) {k : Nat} : pz (k + 1) (nmP n) = true := by
  unfold nmP
  rw [LC.pz_tup, Bool.and_eq_true, List.all_map, List.all_eq_true]
  have hl : n.length ≤ 5 := by unfold okName at h; simp at h; exact h.1
  exact ⟨by simp; omega, fun l hl => pz_sv (okName_asc h l hl)⟩
theorem pz_entP {e : Ent} (h : okEnt e = true) {k : Nat} : pz (k + 2) (entP e) = true := by
  unfold entP
  simp [pz_nmP (okEnt_parts h).1]
theorem pz_ents {es : List Ent} (h : ∀ e ∈ es, okEnt e = true) (hl : es.length ≤ 100000) {k : Nat} : pz (k + 3) (.lst (es.map entP)) = true := by
  rw [LC.pz_lst, Bool.and_eq_true, List.all_map, List.all_eq_true]
  exact ⟨by simp; omega, fun e he => pz_entP (h e he)⟩
theorem rowOf_ok {l : List Nat} {e : Ent} (h : rowOf l = some e) : okEnt e = true := by
  unfold rowOf at h
  split at h
  · split at h
    · rename_i n k hn hk
      cases h
      unfold okEnt
      rw [Bool.and_eq_true, decide_eq_true_eq]
      refine ⟨?_, (num_inv hk).1⟩
      unfold nameL at hn
      split at hn
      · cases hn; rfl
      · split at hn
        · rename_i c; cases hn; exact c
        · cases hn
    · cases h
  · cases h
theorem cl_optE {l : List Nat} {k : Nat} : cl (k + 2) (optE (rowOf l)) = true := by
  cases h : rowOf l with
  | none => simp [optE]
  | some e => exact cl_entP (rowOf_ok h)
theorem rows_filter {rs : List (List Nat)} (h : rs.findIdx? (fun r => (rowOf r).isNone) = none) : (rs.map fun r => optE (rowOf r)) = (rs.filterMap rowOf).map entP ∧ ∀ e ∈ rs.filterMap rowOf, okEnt e = true := by
  rw [List.findIdx?_eq_none_iff] at h
  induction rs with
  | nil => exact ⟨rfl, fun _ h => by cases h⟩
  | cons r rs ih =>
    obtain ⟨i1, i2⟩ := ih fun x hx => h x (List.mem_cons_of_mem _ hx)
    have h0 := h r (List.mem_cons_self ..)
    cases hr : rowOf r with
    | none => rw [hr] at h0; cases h0
    | some e =>
      rw [List.map_cons, List.filterMap_cons, hr]
      refine ⟨by rw [i1]; rfl, fun x hx => ?_⟩
      rcases List.mem_cons.mp hx with rfl | hx
      · exact rowOf_ok hr
      · exact i2 x hx
theorem eqP_optE (l : List Nat) : eqP (optE (rowOf l)) .non = (rowOf l).isNone := by
  rw [eqP_cl (n := 2) (m := 2) (cl_optE (k := 0)) (by simp)]
  cases rowOf l with
  | none => rfl
  | some e => simp [optE, entP]
theorem find_optE : ∀ rs : List (List Nat), (rs.map fun r => optE (rowOf r)).findIdx? (fun z => eqP z .non) = rs.findIdx? (fun r => (rowOf r).isNone)
  | [] => rfl
  | r :: rs => by rw [List.map_cons, List.findIdx?_cons, List.findIdx?_cons, eqP_optE, find_optE rs]
theorem mem_optE (rs : List (List Nat)) : (PV.non ∈ rs.map fun r => optE (rowOf r)) ↔ (rs.findIdx? fun r => (rowOf r).isNone).isSome = true := by
  constructor
  · intro h
    cases hf : rs.findIdx? fun r => (rowOf r).isNone with
    | some i => rfl
    | none =>
      rw [List.findIdx?_eq_none_iff] at hf
      obtain ⟨r, hr, e⟩ := List.mem_map.mp h
      have := hf r hr
      cases q : rowOf r with
      | none => rw [q] at this; cases this
      | some x => rw [q] at e; simp [optE, entP] at e
  · intro h
    obtain ⟨i, hi⟩ := Option.isSome_iff_exists.mp h
    obtain ⟨hl, h1, _⟩ := List.findIdx?_eq_some_iff_getElem.mp hi
    refine List.mem_map.mpr ⟨rs[i], List.getElem_mem hl, ?_⟩
    cases q : rowOf rs[i] with
    | none => rfl
    | some x => rw [q] at h1; cases h1
end K10

/-! K10G: the law. -/
namespace K10
open PySem CL
open PySem.PyData (strOk)
open LC (btw isLabel isName sml sml2 Dice diceO Rd Rds pz next_call pick_k nm)
def TInv (ns : List Int) (ys : List PV) (s : CSt) : Prop := ∃ (D : Dice) (g : List CO) (a2 a3 a4 a5 a6 a7 a8 a9 a10 a11 a12 a13 a14 a15 a16 a17 a18 a19 : SV),
  s = ⟨[.pv (.lst (ns.map .int)), .pv (.loc 1), a2, a3, a4, a5, a6, a7, a8, a9, a10, a11, a12, a13, a14, a15, a16, a17, a18, a19], .tbl :: diceO ns D :: g⟩
def okEnd (x : FRes) : Prop := ∃ h, x = .ok (.pv (.bl true)) h
def EInv (ns : List Int) (g : List CO) (ls : List (List Nat)) (ys : List PV) (s : CSt) : Prop := ∃ (D : Dice) (es : List Ent) (a2 a5 a6 a7 a8 a9 a10 a11 a12 a13 a14 a15 a16 a17 a18 a19 : SV), es.length + ys.length ≤ 11 ∧ (∀ e ∈ es, okEnt e = true) ∧
  s = ⟨[.pv (.lst (ns.map .int)), .pv (.loc 1), a2, .pv (.lst (ls.map sv)), .own (.list (es.map entP)), a5, a6, a7, a8, a9, a10, a11, a12, a13, a14, a15, a16, a17, a18, a19], .tbl :: diceO ns D :: g⟩
def rowsV (l : List Nat) : List PV := (rowsL l).map fun r => optE (rowOf r)
theorem rowsV_cl {l : List Nat} {n : Nat} : cl (n + 3) (.lst (rowsV l)) = true := by
  unfold rowsV
  rw [cl_lst, List.all_map, List.all_eq_true]
  exact fun r _ => cl_optE
theorem some_eq {l : List Nat} {h : List CO} {Q : RV → CSt → Prop} {E : EQ} {a0 a1 a2 a3 a4 a5 a6 a8 a9 a10 a11 a12 a13 a14 a15 a16 a17 a18 a19 : SV} (ha : asc l) (hl : l.length ≤ 4000)
    (k : ∀ x, Q (.own (.list (rowsV l))) ⟨[a0, a1, a2, a3, a4, a5, a6, .pv (sv l), a8, a9, a10, a11, a12, a13, a14, a15, a16, a17, a18, x], h⟩) :
    wp (eIf (tst (e2 opNe (rdVar 7) (kst (.str (tx []))))) (eComp [19] (iSeq (ePv (eBm isStr strSplit (rdVar 7) (aCons (ePv (kst (.str (tx [10])))) aNil)))) (gNm 19) bTrue (ePv (eCall fn__law_row (aCons (ePv (rdVar 19)) aNil)))) (eLst aNil))
      ⟨[a0, a1, a2, a3, a4, a5, a6, .pv (sv l), a8, a9, a10, a11, a12, a13, a14, a15, a16, a17, a18, a19], h⟩ Q E := by
  have c1 : ∀ n, cl n (sv l) = true := fun n => cl_sv ha
  have c2 : ∀ n, cl n (sv []) = true := fun n => cl_sv (by intro c h; cases h)
  by_cases e : l = []
  · subst e
    simp -implicitDefEqProofs [c2]
    exact k a19
  · simp -implicitDefEqProofs [c1, c2, e, wp_splitC, show l.length + 2 ≤ 16777216 by omega]
    have e2 : rowsL l = spl1 10 l := by unfold rowsL; rw [if_neg e]
    have ln : (spl1 10 l).length ≤ 16777216 := by have := len_wt (spl1 10 l); rw [wt_split] at this; omega
    refine kComp_pure rowF (by simpa using ln) (fun p hp => ?_) ?_
    · obtain ⟨r, hr, rfl⟩ := List.mem_map.mp hp
      have hr2 := mem_wt hr
      rw [wt_split] at hr2
      simp -implicitDefEqProofs [wipeC, law_row_eq (asc_split ha r hr) (show r.length ≤ 1000000 by omega), rowF]
    · rw [rowF_list]
      have := k .emp
      unfold rowsV at this
      rw [e2] at this
      exact this
def dueP (l : List Nat) : PV := match (rowsL l).findIdx? (fun r => (rowOf r).isNone) with
  | some i => refT i
  | none => .lst (rowsV l)
theorem due_eq {l : List Nat} {s : CSt} {Q : RV → CSt → Prop} {E : EQ} (hs : s.sl[10]? = some (.pv (.lst (rowsV l)))) (k : Q (.pv (dueP l)) s) :
    wp (eIf (tst (e2 (opIn false) (kst .non) (rdVar 10))) (eTup (aCons (ePv (kst (.str "refused"))) (aCons (ePv (kst (.str "text"))) (aCons (ePv (eBm isList lIndex (rdVar 10) (aCons (ePv (kst .non)) aNil))) aNil)))) (rdVar 10)) s Q E := by
  have c3 := rowsV_cl (l := l) (n := 17)
  have p3 : pl 20 (.lst (rowsV l)) = true := pl_of_cl c3
  simp -implicitDefEqProofs [hs]
  rw [wp_in_l (by simp) c3]
  have m := mem_optE (rowsL l)
  have f := find_optE (rowsL l)
  unfold dueP at k
  unfold rowsV at *
  cases hf : (rowsL l).findIdx? (fun r => (rowOf r).isNone) with
  | none =>
    rw [hf] at m k
    rw [decide_eq_false (show ¬ _ from fun z => by have := m.mp z; cases this)]
    simp -implicitDefEqProofs [hs]
    exact k
  | some i =>
    rw [hf] at m k f
    rw [decide_eq_true (m.mpr rfl)]
    simp -implicitDefEqProofs [hs]
    rw [wp_index (by simp) (by simpa using p3) (by simp)]
    simp only [listC_lst, oL_some, f, fiK_s]
    simp -implicitDefEqProofs
    exact k
theorem due_pz {l : List Nat} (hl : l.length ≤ 4000) : pz 10 (dueP l) = true := by
  unfold dueP
  split
  · simp [refT]
  · rename_i hf
    obtain ⟨e1, e2⟩ := rows_filter hf
    unfold rowsV
    rw [e1]
    refine pz_ents e2 ?_
    have := List.length_filterMap_le rowOf (rowsL l)
    have h2 : (rowsL l).length ≤ l.length + 1 := by
      unfold rowsL
      split
      · simp
      · have := len_wt (spl1 10 l); rw [wt_split] at this; exact this
    omega
theorem kBAnd_no {b : CM Bool} {x : Bool} {s : CSt} {QB : Bool → CSt → Prop} {E : EQ} (h1 : x = true → wp b s (fun r s' => r = false ∧ s' = s) fun _ _ => False) (h : QB false s) : kBAnd b QB E x s := by
  cases x
  · exact h
  · refine wp_mono (h1 rfl) (fun r s' e => ?_) fun _ _ e => e.elim
    obtain ⟨rfl, rfl⟩ := e; exact h
def toldP (l : List Nat) : FV := match (rowsL l).findIdx? (fun r => (rowOf r).isNone) with
  | some i => .pv (refT i)
  | none => .own (.list (rowsV l))
theorem told_read {l : List Nat} {h : List CO} : toldF tN tE emB sem_told_suite (readF h (readR 0 (rowsL l) [])) = .ok (toldP l) h := by
  rw [readR_find]
  unfold toldP
  cases hf : (rowsL l).findIdx? (fun r => (rowOf r).isNone) with
  | some i => simp only [readF, Nat.zero_add, told_text]
  | none =>
    obtain ⟨e1, _⟩ := rows_filter hf
    simp only [readF, toldF_ok, List.nil_append]
    unfold rowsV; rw [e1]
theorem like_due {l : List Nat} {h : List CO} (hl : l.length ≤ 4000) : fn__law_like [dueP l, dueP l] h = .ok (.pv (.bl true)) h := by
  have := LC.like_eq (h := h) (due_pz hl) (Rd.of_pz 10 _ (due_pz hl))
  rw [e_like]
  simpa using this
/-- the bad entries -/
def bads : List PV := [.tup [.tup [.tup [.str "A"], .int 1], .str "name"], .tup [.tup [.tup [.str "a"], .int 1000], .str "number"], .tup [.tup [.tup [.str "a", .str "a", .str "a", .str "a", .str "a", .str "a"], .int (-1)], .str "name"],
  .tup [.tup [.tup [.str "a"], .int (-1)], .str "number"], .tup [.tup [.tup [.str (tx [])], .int 1000], .str "name"], .tup [.tup [.tup [.str "a"], .non], .str "number"], .tup [.tup [.int 5, .int 5], .str "name"]]
def refP (w : String) : PV := .tup [.str "refused", .str (Str.ofString w)]
theorem bads_ok {p : PV} (h : p ∈ bads) : ∃ (b : PV) (w : String) (c : Nat), p = .tup [b, .str (Str.ofString w)] ∧ badE b c ∧ ∀ h, toldF tN tE emB sem_told_suite (.exc ⟨c, none⟩ h) = .ok (.pv (refP w)) h := by
  simp only [bads, List.mem_cons, List.not_mem_nil, or_false] at h
  rcases h with rfl | rfl | rfl | rfl | rfl | rfl | rfl
  · exact ⟨_, "name", 2, rfl, ⟨_, _, rfl, rfl, by decide +kernel, rfl, .inl ⟨rfl, by decide +kernel⟩⟩, fun _ => told_name⟩
  · exact ⟨_, "number", 3, rfl, ⟨_, _, rfl, rfl, by decide +kernel, rfl, .inr ⟨rfl, by decide +kernel, by decide +kernel⟩⟩, fun _ => told_number⟩
  · exact ⟨_, "name", 2, rfl, ⟨_, _, rfl, rfl, by decide +kernel, rfl, .inl ⟨rfl, by decide +kernel⟩⟩, fun _ => told_name⟩
  · exact ⟨_, "number", 3, rfl, ⟨_, _, rfl, rfl, by decide +kernel, rfl, .inr ⟨rfl, by decide +kernel, by decide +kernel⟩⟩, fun _ => told_number⟩
  · exact ⟨_, "name", 2, rfl, ⟨_, _, rfl, rfl, by decide +kernel, rfl, .inl ⟨rfl, by decide +kernel⟩⟩, fun _ => told_name⟩
  · exact ⟨_, "number", 3, rfl, ⟨_, _, rfl, rfl, by decide +kernel, rfl, .inr ⟨rfl, by decide +kernel, by decide +kernel⟩⟩, fun _ => told_number⟩
  · exact ⟨_, "name", 2, rfl, ⟨_, _, rfl, rfl, by decide +kernel, rfl, .inl ⟨rfl, by decide +kernel⟩⟩, fun _ => told_name⟩
theorem lam_worse {worse : List PV} {c : Nat} (wr : ∀ h, fn_written [.lst worse] h = .exc ⟨c, none⟩ h) {sl : List SV} {h : List CO} (hs : sl[16]? = some (.pv (.lst worse))) : lamF lam_0 sl h = .exc ⟨c, none⟩ h := by
  refine lamF_def (R := fun x => x = _) ?_
  have hm : (maskC sl)[16]? = some (.pv (.lst worse)) := by unfold maskC; rw [List.getElem?_map, hs]; rfl
  simp -implicitDefEqProofs [lam_0, hm, wr]
def CInv (ns : List Int) (g : List CO) (ls : List (List Nat)) (es : List Ent) (ys : List PV) (s : CSt) : Prop := ∃ (D : Dice) (c : Nat) (l : List Nat) (a2 a5 a6 a8 a9 a10 a11 a12 a13 a14 a15 a16 a17 a18 a19 : SV), c + ys.length ≤ 3 ∧ asc l ∧ l.length + 40 ≤ 2 ^ c * 400 ∧
  s = ⟨[.pv (.lst (ns.map .int)), .pv (.loc 1), a2, .pv (.lst (ls.map sv)), .pv (.lst (es.map entP)), a5, a6, .pv (sv l), a8, a9, a10, a11, a12, a13, a14, a15, a16, a17, a18, a19], .tbl :: diceO ns D :: g⟩
theorem math (ns : List Int) (hns : ns.length ≤ 63) : okEnd (fn_law [.lst (ns.map PV.int)] [.tbl]) := by
  refine wp_def ?_
  obtain ⟨D0, e0⟩ := LC.dice_eq ns [.tbl]
  simp only [sem_law, startC, e_dice, e_next, e_lname, e_labels, em_S, nl_S, bl_S, dot_S]
  simp -implicitDefEqProofs [e0, show inR 5 = true by decide +kernel]
  refine for_inv (TInv ns) ⟨D0, [], _, _, _, _, _, _, _, _, _, _, _, _, _, _, _, _, _, _, rfl⟩ ?_ ?_
  · rintro p ps s ⟨D, g, a2, a3, a4, a5, a6, a7, a8, a9, a10, a11, a12, a13, a14, a15, a16, a17, a18, a19, rfl⟩
    simp -implicitDefEqProofs
    refine LC.labels_k ns D _ g (fun x => kLift x _ _ _) fun ls D1 l1 l2 l3 => ?_
    simp -implicitDefEqProofs
    refine next_call (by decide) (by decide) fun v D2 h2 h3 => ?_
    simp -implicitDefEqProofs [show inR v = true by unfold inR; simp; omega]
    refine for_inv (EInv ns g ls) ⟨D2, [], _, _, _, _, _, _, _, _, _, _, _, _, _, _, _, _, by simp; omega, (fun _ h => by cases h), rfl⟩ ?_ ?_
    · rintro p ps s ⟨D3, es, a2, a5, a6, a7, a8, a9, a10, a11, a12, a13, a14, a15, a16, a17, a18, a19, h4, h5, rfl⟩
      simp only [List.length_cons] at h4
      simp -implicitDefEqProofs
      refine name_call2 l1 (by omega) l3 fun n D4 hn => ?_
      simp -implicitDefEqProofs
      refine next_call (by decide) (by decide) fun u D5 h6 h7 => ?_
      simp -implicitDefEqProofs
      refine next_call (by decide) (by decide) fun w D6 h8 h9 => ?_
      simp -implicitDefEqProofs
      refine pick_k h8 (by simp; omega) fun q hq => ?_
      have key : ∃ k : Nat, q = .int (k : Int) ∧ k < 1000 := by
        obtain ⟨m, rfl⟩ := Int.eq_ofNat_of_zero_le h6
        simp at hq
        rcases hq with rfl | rfl | rfl
        · exact ⟨0, rfl, by decide⟩
        · exact ⟨999, rfl, by decide⟩
        · exact ⟨m, rfl, by omega⟩
      obtain ⟨k, rfl, hk⟩ := key
      simp -implicitDefEqProofs [wp_append, show es.length < 16777216 by omega]
      refine ⟨D6, es ++ [(n, k)], _, _, _, _, _, _, _, _, _, _, _, _, _, _, _, _, by simp; omega, fun e he => ?_, by rw [List.map_append]; rfl⟩
      rcases List.mem_append.mp he with z | z
      · exact h5 e z
      · rw [List.mem_singleton.mp z]; unfold okEnt; simp [hn, hk]
    · rintro s ⟨D3, es, a2, a5, a6, a7, a8, a9, a10, a11, a12, a13, a14, a15, a16, a17, a18, a19, h4, h5, rfl⟩
      simp only [List.length_nil, Nat.add_zero] at h4
      clear v h2 h3
      simp -implicitDefEqProofs
      refine kComp_pure wordF (by simp; omega) (fun p hp => ?_) ?_
      · obtain ⟨e, he, rfl⟩ := List.mem_map.mp hp
        have ok := okEnt_parts (h5 e he)
        have cn : ∀ k, cl (k + 1) (nmP e.1) = true := fun k => cl_nmP (okName_asc ok.1)
        have hj : (e.1.map List.length).sum + e.1.length * [46].length ≤ 16777216 := by have := okName_wt ok.1; unfold wt at this; simp; omega
        rw [wordF_ent]
        unfold entP
        have e46 : nmP e.1 = .tup [] ↔ e.1 = [] := by unfold nmP; simp
        simp -implicitDefEqProofs [wipeC, cn, e46]
        by_cases c : e.1 = []
        · simp -implicitDefEqProofs [c, wordL]
        · simp -implicitDefEqProofs [c]
          unfold nmP
          rw [wp_joinT hj]
          simp -implicitDefEqProofs [wordL, c, joinC]
      · rw [words_list]
        simp -implicitDefEqProofs [wipeC, LC.inR_len (show es.length ≤ 16777216 by omega)]
        have g2 : (rangeP 0 es.length).length ≤ 16777216 := by rw [LC.rangeP_len]; omega
        refine kComp_pure (entF es) g2 (fun p hp => ?_) ?_
        · simp only [rangeP, List.mem_map, List.mem_range] at hp
          obtain ⟨i, hi, rfl⟩ := hp
          have ok := okEnt_parts (h5 _ (List.getElem_mem hi))
          have w1 := word_len ok.1
          have w2 := TL.numL_len (n := es[i].2) (k := 3) (by decide) ok.2
          simp -implicitDefEqProofs (disch := first | (simp -implicitDefEqProofs; done) | (simp -implicitDefEqProofs; omega) | omega) [wipeC, hi, entP, wp_str_n, entF, entL]
        · rw [ents_list]
          have hj : ((es.map entL).map List.length).sum + (es.map entL).length * [10].length ≤ 16777216 := by
            have := wt_ents h5; unfold wt at this; simp only [List.length_map, List.length_cons, List.length_nil] at this ⊢; omega
          simp only [kEsc_own, kA1_ap, wp_aNil, kA2_ap, kBm2_ap]
          rw [wp_joinL hj, show TL.joinL [10] (es.map entL) = textL es from rfl]
          have at0 := asc_text h5
          have lt0 := text_len h5
          have wr := fun h => written_eq (h := h) (es := es) (tl := []) (c := 0) h5 (by omega) (by simp)
          have rd := fun h => read_eq (h := h) at0 (by omega)
          simp only [List.append_nil, wrF, read_text h5, readF] at wr rd
          have lk1 : ∀ h, fn__law_like [sv (textL es), sv (textL es)] h = .ok (.pv (.bl (decide (sv (textL es) = sv (textL es))))) h := fun h => LC.like_eq (pz_sv at0) (Rd.of_pz 10 _ (pz_sv at0))
          have pe : pz 10 (.lst (es.map entP)) = true := pz_ents h5 (by omega)
          have lk2 : ∀ h, fn__law_like [.lst (es.map entP), .lst (es.map entP)] h = .ok (.pv (.bl (decide (PV.lst (es.map entP) = .lst (es.map entP))))) h := fun h => LC.like_eq pe (Rd.of_pz 10 _ pe)
          have ce : ∀ n, cl (n + 3) (.lst (es.map entP)) = true := fun n => cl_ents h5
          simp -implicitDefEqProofs [wipeC, wr, rd, lk1, lk2, wp_ne (ce 17) (ce 17), wp_append, show es.length < 16777216 by omega]
          clear wr rd lk1 lk2
          refine next_call (by decide) (by decide) fun v D4 h6 h7 => ?_
          simp -implicitDefEqProofs [show inR v = true by unfold inR; simp; omega]
          refine for_inv (CInv ns g ls es) ⟨D4, 0, textL es, _, _, _, _, _, _, _, _, _, _, _, _, _, _, _, by simp; omega, at0, by simp; omega, rfl⟩ ?_ ?_
          · rintro p ps s ⟨D5, c, l, a2, a5, a6, a8, a9, a10, a11, a12, a13, a14, a15, a16, a17, a18, a19, c1, c2, c3, rfl⟩
            simp only [List.length_cons] at c1
            have c4 : 2 ^ c ≤ 4 := Nat.le_trans (Nat.pow_le_pow_right (by decide) (show c ≤ 2 by omega)) (by decide)
            simp -implicitDefEqProofs
            refine changed_k ns D5 _ g c2 (by omega) (fun x => kLift x _ _ _) fun l2 D6 d1 d2 => ?_
            simp -implicitDefEqProofs
            exact ⟨D6, c + 1, l2, _, _, _, _, _, _, _, _, _, _, _, _, _, _, _, by omega, d1, by rw [Nat.pow_succ]; omega, rfl⟩
          · rintro s ⟨D5, c, l, a2, a5, a6, a8, a9, a10, a11, a12, a13, a14, a15, a16, a17, a18, a19, c1, c2, c3, rfl⟩
            simp only [List.length_nil] at c1
            have c4 : 2 ^ c ≤ 8 := Nat.le_trans (Nat.pow_le_pow_right (by decide) (show c ≤ 3 by omega)) (by decide)
            have hl : l.length ≤ 4000 := by omega
            clear v h6 h7 c1 c3 c4
            simp only [kSeq_nx, wp_sSeq, wp_sAsg, wp_ePv]
            refine some_eq c2 hl fun a19 => ?_
            simp only [kEsc_own, kAsg_ap, wp_gNm, kNx_ap, kSeq_nx, wp_sSeq, wp_sAsg, wp_ePv, List.set_cons_succ, List.set_cons_zero]
            refine due_eq (l := l) (by simp) ?_
            have dp := due_pz hl
            simp -implicitDefEqProofs [show l.length ≤ 16777216 by omega]
            refine kBAnd_no (fun k1 => ?_) ?_
            · have hlam : lamF lam_1 [SV.pv (PV.lst (ns.map PV.int)), SV.pv (PV.loc 1), a2, SV.pv (PV.lst (ls.map sv)), SV.pv (PV.lst (es.map entP)), a5, a6, SV.pv (sv l), a8, a9, SV.pv (PV.lst (rowsV l)), SV.pv (dueP l), a12, a13, a14, a15, a16, a17, a18, a19] (CO.tbl :: diceO ns D5 :: g) = readF (CO.tbl :: diceO ns D5 :: g) (readR 0 (rowsL l) []) := by
                refine lamF_def (R := fun x => x = _) ?_
                have rd := read_eq (h := CO.tbl :: diceO ns D5 :: g) c2 (show l.length ≤ 1000000 by omega)
                simp -implicitDefEqProofs [lam_1, maskC, maskS, rd]
                cases readR 0 (rowsL l) [] <;> simp -implicitDefEqProofs [readF]
              have lk := like_due (h := CO.tbl :: diceO ns D5 :: g) hl
              simp -implicitDefEqProofs [wipeC, kTold_ap (bodies := bodies) (j := 1) (mi := lam_1) rfl, hlam, told_read]
              unfold toldP dueP at *
              cases hf : (rowsL l).findIdx? (fun r => (rowOf r).isNone) with
              | some i =>
                rw [hf] at lk
                simp only at lk ⊢
                simp -implicitDefEqProofs [lk]
              | none =>
                rw [hf] at lk
                simp only at lk ⊢
                simp -implicitDefEqProofs [lk]
            · simp -implicitDefEqProofs
              refine next_call (by omega) (by omega) fun v D6 h6 h7 => ?_
              obtain ⟨n, rfl⟩ := Int.eq_ofNat_of_zero_le h6
              simp -implicitDefEqProofs [wp_mulT, wp_addL]
              refine next_call (by decide) (by decide) fun u D7 h8 h9 => ?_
              simp -implicitDefEqProofs
              refine pick_k h8 (by simp; omega) fun p hp => ?_
              obtain ⟨b, w, c, rfl, hb, ht⟩ := bads_ok hp
              simp -implicitDefEqProofs (disch := first | (simp -implicitDefEqProofs; done) | (simp -implicitDefEqProofs; omega) | omega) [wp_addL, cut_t0, cutP_from]
              have wr : ∀ h, fn_written [.lst (List.take n (List.map entP es) ++ b :: (List.drop n (List.map entP es) ++ [PV.tup [PV.tup [PV.str (Str.ofString "A")], PV.int (-1)]]))] h = .exc ⟨c, none⟩ h := fun h => by
                have := written_eq (h := h) (es := es.take n) (tl := b :: (List.drop n (List.map entP es) ++ [PV.tup [PV.tup [PV.str (Str.ofString "A")], PV.int (-1)]])) (c := c) (fun e he => h5 e (List.mem_of_mem_take he)) (by simp; omega) (fun x hx => by simp at hx; subst hx; exact hb)
                rw [List.map_take] at this
                exact this
              generalize List.take n (List.map entP es) ++ b :: (List.drop n (List.map entP es) ++ [PV.tup [PV.tup [PV.str (Str.ofString "A")], PV.int (-1)]]) = worse at wr ⊢
              rw [kTold_ap (bodies := bodies) (j := 0) (mi := lam_0) rfl, lam_worse wr (by simp [wipeC]), ht]
              have cw : cl 20 (refP w) = true := by simp [refP]
              unfold refP at cw ⊢
              simp -implicitDefEqProofs [wp_ne cw cw]
              exact ⟨D7, _, _, _, _, _, _, _, _, _, _, _, _, _, _, _, _, _, _, _, rfl⟩
  · rintro s ⟨D, g, a2, a3, a4, a5, a6, a7, a8, a9, a10, a11, a12, a13, a14, a15, a16, a17, a18, a19, rfl⟩
    simp -implicitDefEqProofs
    exact ⟨_, rfl⟩
end K10

namespace K10
open PySem PySem.Spec PyProof.Rows L2 CL
def d_is_between : He.DefD := ⟨("is_between", none), "is_between", "is_between", defArgs s_is_between, defBody s_is_between, defScope s_is_between, [], []⟩
def d_is_label : He.DefD := ⟨("is_label", none), "is_label", "is_label", defArgs s_is_label, defBody s_is_label, defScope s_is_label, [], []⟩
def d_is_name : He.DefD := ⟨("is_name", none), "is_name", "is_name", defArgs s_is_name, defBody s_is_name, defScope s_is_name, [], []⟩
def d_word_of : He.DefD := ⟨("word_of", none), "word_of", "word_of", defArgs s_word_of, defBody s_word_of, defScope s_word_of, [], []⟩
def d_written : He.DefD := ⟨("written", none), "written", "written", defArgs s_written, defBody s_written, defScope s_written, [], []⟩
def d_name_of : He.DefD := ⟨("name_of", none), "name_of", "name_of", defArgs s_name_of, defBody s_name_of, defScope s_name_of, [], []⟩
def d_number_of : He.DefD := ⟨("number_of", none), "number_of", "number_of", defArgs s_number_of, defBody s_number_of, defScope s_number_of, [], []⟩
def d_read : He.DefD := ⟨("read", none), "read", "read", defArgs s_read, defBody s_read, defScope s_read, [], []⟩
def d__law_dice : He.DefD := ⟨("_law_dice", none), "_law_dice", "_law_dice", defArgs s__law_dice, defBody s__law_dice, defScope s__law_dice, [], []⟩
def d__law_next : He.DefD := ⟨("_law_next", none), "_law_next", "_law_next", defArgs s__law_next, defBody s__law_next, defScope s__law_next, [], []⟩
def d__law_like : He.DefD := ⟨("_law_like", none), "_law_like", "_law_like", defArgs s__law_like, defBody s__law_like, defScope s__law_like, [], []⟩
def d__law_name : He.DefD := ⟨("_law_name", none), "_law_name", "_law_name", defArgs s__law_name, defBody s__law_name, defScope s__law_name, [], []⟩
def d__law_labels : He.DefD := ⟨("_law_labels", none), "_law_labels", "_law_labels", defArgs s__law_labels, defBody s__law_labels, defScope s__law_labels, [], []⟩
def d__law_row : He.DefD := ⟨("_law_row", none), "_law_row", "_law_row", defArgs s__law_row, defBody s__law_row, defScope s__law_row, [], []⟩
def d__law_changed : He.DefD := ⟨("_law_changed", none), "_law_changed", "_law_changed", defArgs s__law_changed, defBody s__law_changed, defScope s__law_changed, [], []⟩
def d__law_told : He.DefD := ⟨("_law_told", none), "_law_told", "_law_told", defArgs s__law_told, defBody s__law_told, defScope s__law_told, [], []⟩
def d_law : He.DefD := ⟨("law", none), "law", "law", defArgs s_law, defBody s_law, defScope s_law, [], []⟩
def d_BadTables___init__ : He.DefD := ⟨("BadTables", some "__init__"), "__init__", "BadTables.__init__", defArgs s_BadTables___init__, defBody s_BadTables___init__, defScope s_BadTables___init__, [], []⟩
def d_BadLog___init__ : He.DefD := ⟨("BadLog", some "__init__"), "__init__", "BadLog.__init__", defArgs s_BadLog___init__, defBody s_BadLog___init__, defScope s_BadLog___init__, [], []⟩
def d_BadText___init__ : He.DefD := ⟨("BadText", some "__init__"), "__init__", "BadText.__init__", defArgs s_BadText___init__, defBody s_BadText___init__, defScope s_BadText___init__, [], []⟩
def fn : List He.DefD := [d_is_between, d_is_label, d_is_name, d_word_of, d_written, d_name_of, d_number_of, d_read, d__law_dice, d__law_next] ++ [d__law_like, d__law_name, d__law_labels, d__law_row, d__law_changed, d__law_told, d_law, d_BadTables___init__, d_BadLog___init__, d_BadText___init__]
def fa_0 : List He.Fa := [He.Fa.glo "is_between", He.Fa.glo "is_label", He.Fa.glo "is_name", He.Fa.glo "word_of", He.Fa.glo "written", He.Fa.glo "name_of", He.Fa.glo "number_of", He.Fa.glo "read"]
def fa_1 : List He.Fa := [He.Fa.glo "_law_dice", He.Fa.glo "_law_next", He.Fa.glo "_law_like", He.Fa.glo "_law_name", He.Fa.glo "_law_labels", He.Fa.glo "_law_row", He.Fa.glo "_law_changed", He.Fa.glo "_law_told"]
def fa_2 : List He.Fa := [He.Fa.glo "law", He.Fa.free "ValueError", He.Fa.free "bool", He.Fa.free "enumerate", He.Fa.free "int", He.Fa.free "isinstance", He.Fa.free "len", He.Fa.free "list"]
def fa_3 : List He.Fa := [He.Fa.free "range", He.Fa.free "set", He.Fa.free "sorted", He.Fa.free "str", He.Fa.free "tuple", He.Fa.int "MOST_LABELS" 5, He.Fa.int "MOST_SIGNS" 3, He.Fa.int "MOST_NUMBER" 999]
def fa_4 : List He.Fa := [He.Fa.str "LETTERS" "abcdefghijklmnopqrstuvwxyz", He.Fa.str "FIGURES" "0123456789", He.Fa.str "ROOT" ".", He.Fa.int "MOST_FIGURES" 3, He.Fa.glo "BookError", He.Fa.glo "BadHouse", He.Fa.glo "BadName", He.Fa.glo "BadNumber"]
def fa_5 : List He.Fa := [He.Fa.glo "NotHome", He.Fa.glo "BadCut", He.Fa.glo "Full", He.Fa.glo "BadTables", He.Fa.glo "BadLog", He.Fa.glo "BadText", He.Fa.exc "BadHouse", He.Fa.exm "BadHouse" "BookError" true]
def fa_6 : List He.Fa := [He.Fa.exc "BadName", He.Fa.exm "BadName" "BookError" true, He.Fa.exc "BadNumber", He.Fa.exm "BadNumber" "BookError" true, He.Fa.exc "NotHome", He.Fa.exm "NotHome" "BookError" true, He.Fa.exc "BadCut", He.Fa.exm "BadCut" "BookError" true]
def fa_7 : List He.Fa := [He.Fa.exc "Full", He.Fa.exm "Full" "BookError" true, He.Fa.exm "BadTables" "BookError" true, He.Fa.exm "BadLog" "BookError" true, He.Fa.exm "BadText" "BookError" true]
def fa : List He.Fa := fa_0 ++ fa_1 ++ fa_2 ++ fa_3 ++ fa_4 ++ fa_5 ++ fa_6 ++ fa_7
def exs_0 (K : PySem.W.Frag) : List Bool := [exB K (He.ga K "BadHouse"),
  exB K (He.ga K "BadName"),
  exB K (He.ga K "BadNumber"),
  exB K (He.ga K "NotHome"),
  exB K (He.ga K "BadCut"),
  exB K (He.ga K "Full"),
  exB K (He.ga K "BadTables"),
  exB K (He.ga K "BadLog")]
def exs_1 (K : PySem.W.Frag) : List Bool := [exB K (He.ga K "BadText"),
  oexB K (He.ga K "BadTables"),
  decide (PySem.W.findIn K (.ref (He.ga K "BadTables")) "number" = some none),
  decide (PySem.W.findIn K (.ref (He.ga K "BadTables")) "__init__" = some (some (.ref (He.ma K (He.ga K "BadTables") "__init__")))),
  decide (PySem.W.typeIn K (.ref (He.ma K (He.ga K "BadTables") "__init__")) = some (.type "function")),
  xfB K (He.ga K "BadTables"),
  oexB K (He.ga K "BadLog"),
  decide (PySem.W.findIn K (.ref (He.ga K "BadLog")) "number" = some none)]
def exs_2 (K : PySem.W.Frag) : List Bool := [decide (PySem.W.findIn K (.ref (He.ga K "BadLog")) "__init__" = some (some (.ref (He.ma K (He.ga K "BadLog") "__init__")))),
  decide (PySem.W.typeIn K (.ref (He.ma K (He.ga K "BadLog") "__init__")) = some (.type "function")),
  xfB K (He.ga K "BadLog"),
  oexB K (He.ga K "BadText"),
  decide (PySem.W.findIn K (.ref (He.ga K "BadText")) "row" = some none),
  decide (PySem.W.findIn K (.ref (He.ga K "BadText")) "__init__" = some (some (.ref (He.ma K (He.ga K "BadText") "__init__")))),
  decide (PySem.W.typeIn K (.ref (He.ma K (He.ga K "BadText") "__init__")) = some (.type "function")),
  xfB K (He.ga K "BadText")]
def exs_3 (K : PySem.W.Frag) : List Bool := [binB K (He.ga K "BookError"),
  decide (PySem.W.kitOne K (.ref (He.ga K "BadHouse")) (.ref (He.ga K "BadHouse")) = some true),
  decide (PySem.W.kitOne K (.ref (He.ga K "BadName")) (.ref (He.ga K "BadHouse")) = some false),
  decide (PySem.W.kitOne K (.ref (He.ga K "BadNumber")) (.ref (He.ga K "BadHouse")) = some false),
  decide (PySem.W.kitOne K (.ref (He.ga K "NotHome")) (.ref (He.ga K "BadHouse")) = some false),
  decide (PySem.W.kitOne K (.ref (He.ga K "BadCut")) (.ref (He.ga K "BadHouse")) = some false),
  decide (PySem.W.kitOne K (.ref (He.ga K "Full")) (.ref (He.ga K "BadHouse")) = some false),
  decide (PySem.W.kitOne K (.ref (He.ga K "BadTables")) (.ref (He.ga K "BadHouse")) = some false)]
def exs_4 (K : PySem.W.Frag) : List Bool := [decide (PySem.W.kitOne K (.ref (He.ga K "BadLog")) (.ref (He.ga K "BadHouse")) = some false),
  decide (PySem.W.kitOne K (.ref (He.ga K "BadText")) (.ref (He.ga K "BadHouse")) = some false),
  decide (PySem.W.kitOne K (.ref (He.ga K "BadHouse")) (.ref (He.ga K "BadName")) = some false),
  decide (PySem.W.kitOne K (.ref (He.ga K "BadName")) (.ref (He.ga K "BadName")) = some true),
  decide (PySem.W.kitOne K (.ref (He.ga K "BadNumber")) (.ref (He.ga K "BadName")) = some false),
  decide (PySem.W.kitOne K (.ref (He.ga K "NotHome")) (.ref (He.ga K "BadName")) = some false),
  decide (PySem.W.kitOne K (.ref (He.ga K "BadCut")) (.ref (He.ga K "BadName")) = some false),
  decide (PySem.W.kitOne K (.ref (He.ga K "Full")) (.ref (He.ga K "BadName")) = some false)]
def exs_5 (K : PySem.W.Frag) : List Bool := [decide (PySem.W.kitOne K (.ref (He.ga K "BadTables")) (.ref (He.ga K "BadName")) = some false),
  decide (PySem.W.kitOne K (.ref (He.ga K "BadLog")) (.ref (He.ga K "BadName")) = some false),
  decide (PySem.W.kitOne K (.ref (He.ga K "BadText")) (.ref (He.ga K "BadName")) = some false),
  decide (PySem.W.kitOne K (.ref (He.ga K "BadHouse")) (.ref (He.ga K "BadNumber")) = some false),
  decide (PySem.W.kitOne K (.ref (He.ga K "BadName")) (.ref (He.ga K "BadNumber")) = some false),
  decide (PySem.W.kitOne K (.ref (He.ga K "BadNumber")) (.ref (He.ga K "BadNumber")) = some true),
  decide (PySem.W.kitOne K (.ref (He.ga K "NotHome")) (.ref (He.ga K "BadNumber")) = some false),
  decide (PySem.W.kitOne K (.ref (He.ga K "BadCut")) (.ref (He.ga K "BadNumber")) = some false)]
def exs_6 (K : PySem.W.Frag) : List Bool := [decide (PySem.W.kitOne K (.ref (He.ga K "Full")) (.ref (He.ga K "BadNumber")) = some false),
  decide (PySem.W.kitOne K (.ref (He.ga K "BadTables")) (.ref (He.ga K "BadNumber")) = some false),
  decide (PySem.W.kitOne K (.ref (He.ga K "BadLog")) (.ref (He.ga K "BadNumber")) = some false),
  decide (PySem.W.kitOne K (.ref (He.ga K "BadText")) (.ref (He.ga K "BadNumber")) = some false),
  decide (PySem.W.kitOne K (.ref (He.ga K "BadHouse")) (.ref (He.ga K "NotHome")) = some false),
  decide (PySem.W.kitOne K (.ref (He.ga K "BadName")) (.ref (He.ga K "NotHome")) = some false),
  decide (PySem.W.kitOne K (.ref (He.ga K "BadNumber")) (.ref (He.ga K "NotHome")) = some false),
  decide (PySem.W.kitOne K (.ref (He.ga K "NotHome")) (.ref (He.ga K "NotHome")) = some true)]
def exs_7 (K : PySem.W.Frag) : List Bool := [decide (PySem.W.kitOne K (.ref (He.ga K "BadCut")) (.ref (He.ga K "NotHome")) = some false),
  decide (PySem.W.kitOne K (.ref (He.ga K "Full")) (.ref (He.ga K "NotHome")) = some false),
  decide (PySem.W.kitOne K (.ref (He.ga K "BadTables")) (.ref (He.ga K "NotHome")) = some false),
  decide (PySem.W.kitOne K (.ref (He.ga K "BadLog")) (.ref (He.ga K "NotHome")) = some false),
  decide (PySem.W.kitOne K (.ref (He.ga K "BadText")) (.ref (He.ga K "NotHome")) = some false),
  decide (PySem.W.kitOne K (.ref (He.ga K "BadHouse")) (.ref (He.ga K "BadText")) = some false),
  decide (PySem.W.kitOne K (.ref (He.ga K "BadName")) (.ref (He.ga K "BadText")) = some false),
  decide (PySem.W.kitOne K (.ref (He.ga K "BadNumber")) (.ref (He.ga K "BadText")) = some false)]
def exs_8 (K : PySem.W.Frag) : List Bool := [decide (PySem.W.kitOne K (.ref (He.ga K "NotHome")) (.ref (He.ga K "BadText")) = some false),
  decide (PySem.W.kitOne K (.ref (He.ga K "BadCut")) (.ref (He.ga K "BadText")) = some false),
  decide (PySem.W.kitOne K (.ref (He.ga K "Full")) (.ref (He.ga K "BadText")) = some false),
  decide (PySem.W.kitOne K (.ref (He.ga K "BadTables")) (.ref (He.ga K "BadText")) = some false),
  decide (PySem.W.kitOne K (.ref (He.ga K "BadLog")) (.ref (He.ga K "BadText")) = some false),
  decide (PySem.W.kitOne K (.ref (He.ga K "BadText")) (.ref (He.ga K "BadText")) = some true),
  decide (PySem.W.kitOne K (.ref (He.ga K "BadHouse")) (.ref (He.ga K "BadCut")) = some false),
  decide (PySem.W.kitOne K (.ref (He.ga K "BadName")) (.ref (He.ga K "BadCut")) = some false)]
def exs_9 (K : PySem.W.Frag) : List Bool := [decide (PySem.W.kitOne K (.ref (He.ga K "BadNumber")) (.ref (He.ga K "BadCut")) = some false),
  decide (PySem.W.kitOne K (.ref (He.ga K "NotHome")) (.ref (He.ga K "BadCut")) = some false),
  decide (PySem.W.kitOne K (.ref (He.ga K "BadCut")) (.ref (He.ga K "BadCut")) = some true),
  decide (PySem.W.kitOne K (.ref (He.ga K "Full")) (.ref (He.ga K "BadCut")) = some false),
  decide (PySem.W.kitOne K (.ref (He.ga K "BadTables")) (.ref (He.ga K "BadCut")) = some false),
  decide (PySem.W.kitOne K (.ref (He.ga K "BadLog")) (.ref (He.ga K "BadCut")) = some false),
  decide (PySem.W.kitOne K (.ref (He.ga K "BadText")) (.ref (He.ga K "BadCut")) = some false),
  decide (PySem.W.kitOne K (.ref (He.ga K "BadHouse")) (.ref (He.ga K "Full")) = some false)]
def exs_10 (K : PySem.W.Frag) : List Bool := [decide (PySem.W.kitOne K (.ref (He.ga K "BadName")) (.ref (He.ga K "Full")) = some false),
  decide (PySem.W.kitOne K (.ref (He.ga K "BadNumber")) (.ref (He.ga K "Full")) = some false),
  decide (PySem.W.kitOne K (.ref (He.ga K "NotHome")) (.ref (He.ga K "Full")) = some false),
  decide (PySem.W.kitOne K (.ref (He.ga K "BadCut")) (.ref (He.ga K "Full")) = some false),
  decide (PySem.W.kitOne K (.ref (He.ga K "Full")) (.ref (He.ga K "Full")) = some true),
  decide (PySem.W.kitOne K (.ref (He.ga K "BadTables")) (.ref (He.ga K "Full")) = some false),
  decide (PySem.W.kitOne K (.ref (He.ga K "BadLog")) (.ref (He.ga K "Full")) = some false),
  decide (PySem.W.kitOne K (.ref (He.ga K "BadText")) (.ref (He.ga K "Full")) = some false)]
def exs_11 (K : PySem.W.Frag) : List Bool := [decide (PySem.W.kitOne K (.ref (He.ga K "BadHouse")) (.ref (He.ga K "BadTables")) = some false),
  decide (PySem.W.kitOne K (.ref (He.ga K "BadName")) (.ref (He.ga K "BadTables")) = some false),
  decide (PySem.W.kitOne K (.ref (He.ga K "BadNumber")) (.ref (He.ga K "BadTables")) = some false),
  decide (PySem.W.kitOne K (.ref (He.ga K "NotHome")) (.ref (He.ga K "BadTables")) = some false),
  decide (PySem.W.kitOne K (.ref (He.ga K "BadCut")) (.ref (He.ga K "BadTables")) = some false),
  decide (PySem.W.kitOne K (.ref (He.ga K "Full")) (.ref (He.ga K "BadTables")) = some false),
  decide (PySem.W.kitOne K (.ref (He.ga K "BadTables")) (.ref (He.ga K "BadTables")) = some true),
  decide (PySem.W.kitOne K (.ref (He.ga K "BadLog")) (.ref (He.ga K "BadTables")) = some false)]
def exs_12 (K : PySem.W.Frag) : List Bool := [decide (PySem.W.kitOne K (.ref (He.ga K "BadText")) (.ref (He.ga K "BadTables")) = some false),
  decide (PySem.W.kitOne K (.ref (He.ga K "BadHouse")) (.ref (He.ga K "BadLog")) = some false),
  decide (PySem.W.kitOne K (.ref (He.ga K "BadName")) (.ref (He.ga K "BadLog")) = some false),
  decide (PySem.W.kitOne K (.ref (He.ga K "BadNumber")) (.ref (He.ga K "BadLog")) = some false),
  decide (PySem.W.kitOne K (.ref (He.ga K "NotHome")) (.ref (He.ga K "BadLog")) = some false),
  decide (PySem.W.kitOne K (.ref (He.ga K "BadCut")) (.ref (He.ga K "BadLog")) = some false),
  decide (PySem.W.kitOne K (.ref (He.ga K "Full")) (.ref (He.ga K "BadLog")) = some false),
  decide (PySem.W.kitOne K (.ref (He.ga K "BadTables")) (.ref (He.ga K "BadLog")) = some false)]
def exs_13 (K : PySem.W.Frag) : List Bool := [decide (PySem.W.kitOne K (.ref (He.ga K "BadLog")) (.ref (He.ga K "BadLog")) = some true),
  decide (PySem.W.kitOne K (.ref (He.ga K "BadText")) (.ref (He.ga K "BadLog")) = some false),
  decide (PySem.W.kitOne K (.ref (He.ga K "BadHouse")) (.type "ValueError") = some true),
  decide (PySem.W.kitOne K (.ref (He.ga K "BadName")) (.type "ValueError") = some true),
  decide (PySem.W.kitOne K (.ref (He.ga K "BadNumber")) (.type "ValueError") = some true),
  decide (PySem.W.kitOne K (.ref (He.ga K "NotHome")) (.type "ValueError") = some true),
  decide (PySem.W.kitOne K (.ref (He.ga K "BadCut")) (.type "ValueError") = some true),
  decide (PySem.W.kitOne K (.ref (He.ga K "Full")) (.type "ValueError") = some true)]
def exs_14 (K : PySem.W.Frag) : List Bool := [decide (PySem.W.kitOne K (.ref (He.ga K "BadTables")) (.type "ValueError") = some true),
  decide (PySem.W.kitOne K (.ref (He.ga K "BadLog")) (.type "ValueError") = some true),
  decide (PySem.W.kitOne K (.ref (He.ga K "BadText")) (.type "ValueError") = some true),
  K.all fun q => !decide (q.2.cls = .type "list")]
def exc_0 (K : PySem.W.Frag) : List Bool := [(exs_0 K).all id, (exs_1 K).all id, (exs_2 K).all id, (exs_3 K).all id, (exs_4 K).all id, (exs_5 K).all id, (exs_6 K).all id, (exs_7 K).all id, (exs_8 K).all id, (exs_9 K).all id, (exs_10 K).all id, (exs_11 K).all id]
def exc_1 (K : PySem.W.Frag) : List Bool := [(exs_12 K).all id, (exs_13 K).all id, (exs_14 K).all id]
def exs (K : PySem.W.Frag) : List Bool := [(exc_0 K).all id, (exc_1 K).all id]
def ex (K : PySem.W.Frag) : Bool := (exs K).all id
def ts : List He.Tab := []
def tf : List He.Defn := [("law", none)]
def clsN : List Str := ["BookError", "BadHouse", "BadName", "BadNumber", "NotHome", "BadCut", "Full", "BadTables", "BadLog", "BadText"]
def ctf (K : PySem.W.Frag) (n : Nat) : Addr := He.ga K (clsN.getD n "BookError")
def loose : List Str := (["__name__", "BookError", "BadHouse", "BadName", "BadNumber", "NotHome", "BadCut", "Full"] : List Str) ++ (["BadTables", "BadLog", "BadText", "MOST_LABELS", "MOST_SIGNS", "MOST_NUMBER", "LETTERS", "is_between"] : List Str) ++ (["is_label", "is_name", "FIGURES", "ROOT", "MOST_FIGURES", "word_of", "written", "name_of"] : List Str) ++ (["number_of", "read", "_law_dice", "_law_next", "_law_like", "_law_name", "_law_labels", "_law_told"] : List Str) ++ (["_law_row", "_law_changed"] : List Str)
section
variable {P : Program} {w : World} {K : PySem.W.Frag} {h : Heap} {mg : Str → Option Value} {base : Heap}
theorem fcs (c : He.SaysX fa fn ts tf ex w h K) {f : He.Fa} (h : f ∈ fa) : He.Fa.ok K f = true := c.t.d.facts h
theorem fk_0 {f : He.Fa} (hm : f ∈ fa_0) : f ∈ fa := (List.mem_append_left _ (List.mem_append_left _ (List.mem_append_left _ (List.mem_append_left _ (List.mem_append_left _ (List.mem_append_left _ (List.mem_append_left _ hm)))))))
theorem fk_1 {f : He.Fa} (hm : f ∈ fa_1) : f ∈ fa := (List.mem_append_left _ (List.mem_append_left _ (List.mem_append_left _ (List.mem_append_left _ (List.mem_append_left _ (List.mem_append_left _ (List.mem_append_right _ hm)))))))
theorem fk_2 {f : He.Fa} (hm : f ∈ fa_2) : f ∈ fa := (List.mem_append_left _ (List.mem_append_left _ (List.mem_append_left _ (List.mem_append_left _ (List.mem_append_left _ (List.mem_append_right _ hm))))))
theorem fk_3 {f : He.Fa} (hm : f ∈ fa_3) : f ∈ fa := (List.mem_append_left _ (List.mem_append_left _ (List.mem_append_left _ (List.mem_append_left _ (List.mem_append_right _ hm)))))
theorem fk_4 {f : He.Fa} (hm : f ∈ fa_4) : f ∈ fa := (List.mem_append_left _ (List.mem_append_left _ (List.mem_append_left _ (List.mem_append_right _ hm))))
theorem fk_5 {f : He.Fa} (hm : f ∈ fa_5) : f ∈ fa := (List.mem_append_left _ (List.mem_append_left _ (List.mem_append_right _ hm)))
theorem fk_6 {f : He.Fa} (hm : f ∈ fa_6) : f ∈ fa := (List.mem_append_left _ (List.mem_append_right _ hm))
theorem fk_7 {f : He.Fa} (hm : f ∈ fa_7) : f ∈ fa := (List.mem_append_right _ hm)
theorem fc_0 (c : He.SaysX fa fn ts tf ex w h K) : He.Fa.ok K (He.Fa.glo "is_between") = true := fcs c (fk_0 (List.mem_of_getElem? (i := 0) rfl))
theorem fc_1 (c : He.SaysX fa fn ts tf ex w h K) : He.Fa.ok K (He.Fa.glo "is_label") = true := fcs c (fk_0 (List.mem_of_getElem? (i := 1) rfl))
theorem fc_2 (c : He.SaysX fa fn ts tf ex w h K) : He.Fa.ok K (He.Fa.glo "is_name") = true := fcs c (fk_0 (List.mem_of_getElem? (i := 2) rfl))
theorem fc_3 (c : He.SaysX fa fn ts tf ex w h K) : He.Fa.ok K (He.Fa.glo "word_of") = true := fcs c (fk_0 (List.mem_of_getElem? (i := 3) rfl))
theorem fc_4 (c : He.SaysX fa fn ts tf ex w h K) : He.Fa.ok K (He.Fa.glo "written") = true := fcs c (fk_0 (List.mem_of_getElem? (i := 4) rfl))
theorem fc_5 (c : He.SaysX fa fn ts tf ex w h K) : He.Fa.ok K (He.Fa.glo "name_of") = true := fcs c (fk_0 (List.mem_of_getElem? (i := 5) rfl))
theorem fc_6 (c : He.SaysX fa fn ts tf ex w h K) : He.Fa.ok K (He.Fa.glo "number_of") = true := fcs c (fk_0 (List.mem_of_getElem? (i := 6) rfl))
theorem fc_7 (c : He.SaysX fa fn ts tf ex w h K) : He.Fa.ok K (He.Fa.glo "read") = true := fcs c (fk_0 (List.mem_of_getElem? (i := 7) rfl))
theorem fc_8 (c : He.SaysX fa fn ts tf ex w h K) : He.Fa.ok K (He.Fa.glo "_law_dice") = true := fcs c (fk_1 (List.mem_of_getElem? (i := 0) rfl))
theorem fc_9 (c : He.SaysX fa fn ts tf ex w h K) : He.Fa.ok K (He.Fa.glo "_law_next") = true := fcs c (fk_1 (List.mem_of_getElem? (i := 1) rfl))
theorem fc_10 (c : He.SaysX fa fn ts tf ex w h K) : He.Fa.ok K (He.Fa.glo "_law_like") = true := fcs c (fk_1 (List.mem_of_getElem? (i := 2) rfl))
theorem fc_11 (c : He.SaysX fa fn ts tf ex w h K) : He.Fa.ok K (He.Fa.glo "_law_name") = true := fcs c (fk_1 (List.mem_of_getElem? (i := 3) rfl))
theorem fc_12 (c : He.SaysX fa fn ts tf ex w h K) : He.Fa.ok K (He.Fa.glo "_law_labels") = true := fcs c (fk_1 (List.mem_of_getElem? (i := 4) rfl))
theorem fc_13 (c : He.SaysX fa fn ts tf ex w h K) : He.Fa.ok K (He.Fa.glo "_law_row") = true := fcs c (fk_1 (List.mem_of_getElem? (i := 5) rfl))
theorem fc_14 (c : He.SaysX fa fn ts tf ex w h K) : He.Fa.ok K (He.Fa.glo "_law_changed") = true := fcs c (fk_1 (List.mem_of_getElem? (i := 6) rfl))
theorem fc_15 (c : He.SaysX fa fn ts tf ex w h K) : He.Fa.ok K (He.Fa.glo "_law_told") = true := fcs c (fk_1 (List.mem_of_getElem? (i := 7) rfl))
theorem fc_16 (c : He.SaysX fa fn ts tf ex w h K) : He.Fa.ok K (He.Fa.glo "law") = true := fcs c (fk_2 (List.mem_of_getElem? (i := 0) rfl))
theorem fc_17 (c : He.SaysX fa fn ts tf ex w h K) : He.Fa.ok K (He.Fa.free "ValueError") = true := fcs c (fk_2 (List.mem_of_getElem? (i := 1) rfl))
theorem fc_18 (c : He.SaysX fa fn ts tf ex w h K) : He.Fa.ok K (He.Fa.free "bool") = true := fcs c (fk_2 (List.mem_of_getElem? (i := 2) rfl))
theorem fc_19 (c : He.SaysX fa fn ts tf ex w h K) : He.Fa.ok K (He.Fa.free "enumerate") = true := fcs c (fk_2 (List.mem_of_getElem? (i := 3) rfl))
theorem fc_20 (c : He.SaysX fa fn ts tf ex w h K) : He.Fa.ok K (He.Fa.free "int") = true := fcs c (fk_2 (List.mem_of_getElem? (i := 4) rfl))
theorem fc_21 (c : He.SaysX fa fn ts tf ex w h K) : He.Fa.ok K (He.Fa.free "isinstance") = true := fcs c (fk_2 (List.mem_of_getElem? (i := 5) rfl))
theorem fc_22 (c : He.SaysX fa fn ts tf ex w h K) : He.Fa.ok K (He.Fa.free "len") = true := fcs c (fk_2 (List.mem_of_getElem? (i := 6) rfl))
theorem fc_23 (c : He.SaysX fa fn ts tf ex w h K) : He.Fa.ok K (He.Fa.free "list") = true := fcs c (fk_2 (List.mem_of_getElem? (i := 7) rfl))
theorem fc_24 (c : He.SaysX fa fn ts tf ex w h K) : He.Fa.ok K (He.Fa.free "range") = true := fcs c (fk_3 (List.mem_of_getElem? (i := 0) rfl))
theorem fc_25 (c : He.SaysX fa fn ts tf ex w h K) : He.Fa.ok K (He.Fa.free "set") = true := fcs c (fk_3 (List.mem_of_getElem? (i := 1) rfl))
theorem fc_26 (c : He.SaysX fa fn ts tf ex w h K) : He.Fa.ok K (He.Fa.free "sorted") = true := fcs c (fk_3 (List.mem_of_getElem? (i := 2) rfl))
theorem fc_27 (c : He.SaysX fa fn ts tf ex w h K) : He.Fa.ok K (He.Fa.free "str") = true := fcs c (fk_3 (List.mem_of_getElem? (i := 3) rfl))
theorem fc_28 (c : He.SaysX fa fn ts tf ex w h K) : He.Fa.ok K (He.Fa.free "tuple") = true := fcs c (fk_3 (List.mem_of_getElem? (i := 4) rfl))
theorem fc_29 (c : He.SaysX fa fn ts tf ex w h K) : He.Fa.ok K (He.Fa.int "MOST_LABELS" 5) = true := fcs c (fk_3 (List.mem_of_getElem? (i := 5) rfl))
theorem fc_30 (c : He.SaysX fa fn ts tf ex w h K) : He.Fa.ok K (He.Fa.int "MOST_SIGNS" 3) = true := fcs c (fk_3 (List.mem_of_getElem? (i := 6) rfl))
theorem fc_31 (c : He.SaysX fa fn ts tf ex w h K) : He.Fa.ok K (He.Fa.int "MOST_NUMBER" 999) = true := fcs c (fk_3 (List.mem_of_getElem? (i := 7) rfl))
theorem fc_32 (c : He.SaysX fa fn ts tf ex w h K) : He.Fa.ok K (He.Fa.str "LETTERS" "abcdefghijklmnopqrstuvwxyz") = true := fcs c (fk_4 (List.mem_of_getElem? (i := 0) rfl))
theorem fc_33 (c : He.SaysX fa fn ts tf ex w h K) : He.Fa.ok K (He.Fa.str "FIGURES" "0123456789") = true := fcs c (fk_4 (List.mem_of_getElem? (i := 1) rfl))
theorem fc_34 (c : He.SaysX fa fn ts tf ex w h K) : He.Fa.ok K (He.Fa.str "ROOT" ".") = true := fcs c (fk_4 (List.mem_of_getElem? (i := 2) rfl))
theorem fc_35 (c : He.SaysX fa fn ts tf ex w h K) : He.Fa.ok K (He.Fa.int "MOST_FIGURES" 3) = true := fcs c (fk_4 (List.mem_of_getElem? (i := 3) rfl))
theorem fc_36 (c : He.SaysX fa fn ts tf ex w h K) : He.Fa.ok K (He.Fa.glo "BookError") = true := fcs c (fk_4 (List.mem_of_getElem? (i := 4) rfl))
theorem fc_37 (c : He.SaysX fa fn ts tf ex w h K) : He.Fa.ok K (He.Fa.glo "BadHouse") = true := fcs c (fk_4 (List.mem_of_getElem? (i := 5) rfl))
theorem fc_38 (c : He.SaysX fa fn ts tf ex w h K) : He.Fa.ok K (He.Fa.glo "BadName") = true := fcs c (fk_4 (List.mem_of_getElem? (i := 6) rfl))
theorem fc_39 (c : He.SaysX fa fn ts tf ex w h K) : He.Fa.ok K (He.Fa.glo "BadNumber") = true := fcs c (fk_4 (List.mem_of_getElem? (i := 7) rfl))
theorem fc_40 (c : He.SaysX fa fn ts tf ex w h K) : He.Fa.ok K (He.Fa.glo "NotHome") = true := fcs c (fk_5 (List.mem_of_getElem? (i := 0) rfl))
theorem fc_41 (c : He.SaysX fa fn ts tf ex w h K) : He.Fa.ok K (He.Fa.glo "BadCut") = true := fcs c (fk_5 (List.mem_of_getElem? (i := 1) rfl))
theorem fc_42 (c : He.SaysX fa fn ts tf ex w h K) : He.Fa.ok K (He.Fa.glo "Full") = true := fcs c (fk_5 (List.mem_of_getElem? (i := 2) rfl))
theorem fc_43 (c : He.SaysX fa fn ts tf ex w h K) : He.Fa.ok K (He.Fa.glo "BadTables") = true := fcs c (fk_5 (List.mem_of_getElem? (i := 3) rfl))
theorem fc_44 (c : He.SaysX fa fn ts tf ex w h K) : He.Fa.ok K (He.Fa.glo "BadLog") = true := fcs c (fk_5 (List.mem_of_getElem? (i := 4) rfl))
theorem fc_45 (c : He.SaysX fa fn ts tf ex w h K) : He.Fa.ok K (He.Fa.glo "BadText") = true := fcs c (fk_5 (List.mem_of_getElem? (i := 5) rfl))
theorem fc_46 (c : He.SaysX fa fn ts tf ex w h K) : He.Fa.ok K (He.Fa.exc "BadHouse") = true := fcs c (fk_5 (List.mem_of_getElem? (i := 6) rfl))
theorem fc_47 (c : He.SaysX fa fn ts tf ex w h K) : He.Fa.ok K (He.Fa.exm "BadHouse" "BookError" true) = true := fcs c (fk_5 (List.mem_of_getElem? (i := 7) rfl))
theorem fc_48 (c : He.SaysX fa fn ts tf ex w h K) : He.Fa.ok K (He.Fa.exc "BadName") = true := fcs c (fk_6 (List.mem_of_getElem? (i := 0) rfl))
theorem fc_49 (c : He.SaysX fa fn ts tf ex w h K) : He.Fa.ok K (He.Fa.exm "BadName" "BookError" true) = true := fcs c (fk_6 (List.mem_of_getElem? (i := 1) rfl))
theorem fc_50 (c : He.SaysX fa fn ts tf ex w h K) : He.Fa.ok K (He.Fa.exc "BadNumber") = true := fcs c (fk_6 (List.mem_of_getElem? (i := 2) rfl))
theorem fc_51 (c : He.SaysX fa fn ts tf ex w h K) : He.Fa.ok K (He.Fa.exm "BadNumber" "BookError" true) = true := fcs c (fk_6 (List.mem_of_getElem? (i := 3) rfl))
theorem fc_52 (c : He.SaysX fa fn ts tf ex w h K) : He.Fa.ok K (He.Fa.exc "NotHome") = true := fcs c (fk_6 (List.mem_of_getElem? (i := 4) rfl))
theorem fc_53 (c : He.SaysX fa fn ts tf ex w h K) : He.Fa.ok K (He.Fa.exm "NotHome" "BookError" true) = true := fcs c (fk_6 (List.mem_of_getElem? (i := 5) rfl))
theorem fc_54 (c : He.SaysX fa fn ts tf ex w h K) : He.Fa.ok K (He.Fa.exc "BadCut") = true := fcs c (fk_6 (List.mem_of_getElem? (i := 6) rfl))
theorem fc_55 (c : He.SaysX fa fn ts tf ex w h K) : He.Fa.ok K (He.Fa.exm "BadCut" "BookError" true) = true := fcs c (fk_6 (List.mem_of_getElem? (i := 7) rfl))
theorem fc_56 (c : He.SaysX fa fn ts tf ex w h K) : He.Fa.ok K (He.Fa.exc "Full") = true := fcs c (fk_7 (List.mem_of_getElem? (i := 0) rfl))
theorem fc_57 (c : He.SaysX fa fn ts tf ex w h K) : He.Fa.ok K (He.Fa.exm "Full" "BookError" true) = true := fcs c (fk_7 (List.mem_of_getElem? (i := 1) rfl))
theorem fc_58 (c : He.SaysX fa fn ts tf ex w h K) : He.Fa.ok K (He.Fa.exm "BadTables" "BookError" true) = true := fcs c (fk_7 (List.mem_of_getElem? (i := 2) rfl))
theorem fc_59 (c : He.SaysX fa fn ts tf ex w h K) : He.Fa.ok K (He.Fa.exm "BadLog" "BookError" true) = true := fcs c (fk_7 (List.mem_of_getElem? (i := 3) rfl))
theorem fc_60 (c : He.SaysX fa fn ts tf ex w h K) : He.Fa.ok K (He.Fa.exm "BadText" "BookError" true) = true := fcs c (fk_7 (List.mem_of_getElem? (i := 4) rfl))
theorem mc_0 (c : ex K = true) : (exc_0 K).all id = true := ag (l := exs K) c 0 rfl
theorem mc_1 (c : ex K = true) : (exc_1 K).all id = true := ag (l := exs K) c 1 rfl
theorem ms_0 (c : ex K = true) : (exs_0 K).all id = true := ag (mc_0 c) 0 rfl
theorem ms_1 (c : ex K = true) : (exs_1 K).all id = true := ag (mc_0 c) 1 rfl
theorem ms_2 (c : ex K = true) : (exs_2 K).all id = true := ag (mc_0 c) 2 rfl
theorem ms_3 (c : ex K = true) : (exs_3 K).all id = true := ag (mc_0 c) 3 rfl
theorem ms_4 (c : ex K = true) : (exs_4 K).all id = true := ag (mc_0 c) 4 rfl
theorem ms_5 (c : ex K = true) : (exs_5 K).all id = true := ag (mc_0 c) 5 rfl
theorem ms_6 (c : ex K = true) : (exs_6 K).all id = true := ag (mc_0 c) 6 rfl
theorem ms_7 (c : ex K = true) : (exs_7 K).all id = true := ag (mc_0 c) 7 rfl
theorem ms_8 (c : ex K = true) : (exs_8 K).all id = true := ag (mc_0 c) 8 rfl
theorem ms_9 (c : ex K = true) : (exs_9 K).all id = true := ag (mc_0 c) 9 rfl
theorem ms_10 (c : ex K = true) : (exs_10 K).all id = true := ag (mc_0 c) 10 rfl
theorem ms_11 (c : ex K = true) : (exs_11 K).all id = true := ag (mc_0 c) 11 rfl
theorem ms_12 (c : ex K = true) : (exs_12 K).all id = true := ag (mc_1 c) 0 rfl
theorem ms_13 (c : ex K = true) : (exs_13 K).all id = true := ag (mc_1 c) 1 rfl
theorem ms_14 (c : ex K = true) : (exs_14 K).all id = true := ag (mc_1 c) 2 rfl
theorem mo_0 (c : ex K = true) : (exB K (He.ga K "BadHouse")) = true := ag (ms_0 c) 0 rfl
theorem mo_1 (c : ex K = true) : (exB K (He.ga K "BadName")) = true := ag (ms_0 c) 1 rfl
theorem mo_2 (c : ex K = true) : (exB K (He.ga K "BadNumber")) = true := ag (ms_0 c) 2 rfl
theorem mo_3 (c : ex K = true) : (exB K (He.ga K "NotHome")) = true := ag (ms_0 c) 3 rfl
theorem mo_4 (c : ex K = true) : (exB K (He.ga K "BadCut")) = true := ag (ms_0 c) 4 rfl
theorem mo_5 (c : ex K = true) : (exB K (He.ga K "Full")) = true := ag (ms_0 c) 5 rfl
theorem mo_6 (c : ex K = true) : (exB K (He.ga K "BadTables")) = true := ag (ms_0 c) 6 rfl
theorem mo_7 (c : ex K = true) : (exB K (He.ga K "BadLog")) = true := ag (ms_0 c) 7 rfl
theorem mo_8 (c : ex K = true) : (exB K (He.ga K "BadText")) = true := ag (ms_1 c) 0 rfl
theorem mo_9 (c : ex K = true) : (oexB K (He.ga K "BadTables")) = true := ag (ms_1 c) 1 rfl
theorem mo_10 (c : ex K = true) : (decide (PySem.W.findIn K (.ref (He.ga K "BadTables")) "number" = some none)) = true := ag (ms_1 c) 2 rfl
theorem mo_11 (c : ex K = true) : (decide (PySem.W.findIn K (.ref (He.ga K "BadTables")) "__init__" = some (some (.ref (He.ma K (He.ga K "BadTables") "__init__"))))) = true := ag (ms_1 c) 3 rfl
theorem mo_12 (c : ex K = true) : (decide (PySem.W.typeIn K (.ref (He.ma K (He.ga K "BadTables") "__init__")) = some (.type "function"))) = true := ag (ms_1 c) 4 rfl
theorem mo_13 (c : ex K = true) : (xfB K (He.ga K "BadTables")) = true := ag (ms_1 c) 5 rfl
theorem mo_14 (c : ex K = true) : (oexB K (He.ga K "BadLog")) = true := ag (ms_1 c) 6 rfl
theorem mo_15 (c : ex K = true) : (decide (PySem.W.findIn K (.ref (He.ga K "BadLog")) "number" = some none)) = true := ag (ms_1 c) 7 rfl
theorem mo_16 (c : ex K = true) : (decide (PySem.W.findIn K (.ref (He.ga K "BadLog")) "__init__" = some (some (.ref (He.ma K (He.ga K "BadLog") "__init__"))))) = true := ag (ms_2 c) 0 rfl
theorem mo_17 (c : ex K = true) : (decide (PySem.W.typeIn K (.ref (He.ma K (He.ga K "BadLog") "__init__")) = some (.type "function"))) = true := ag (ms_2 c) 1 rfl
theorem mo_18 (c : ex K = true) : (xfB K (He.ga K "BadLog")) = true := ag (ms_2 c) 2 rfl
theorem mo_19 (c : ex K = true) : (oexB K (He.ga K "BadText")) = true := ag (ms_2 c) 3 rfl
theorem mo_20 (c : ex K = true) : (decide (PySem.W.findIn K (.ref (He.ga K "BadText")) "row" = some none)) = true := ag (ms_2 c) 4 rfl
theorem mo_21 (c : ex K = true) : (decide (PySem.W.findIn K (.ref (He.ga K "BadText")) "__init__" = some (some (.ref (He.ma K (He.ga K "BadText") "__init__"))))) = true := ag (ms_2 c) 5 rfl
theorem mo_22 (c : ex K = true) : (decide (PySem.W.typeIn K (.ref (He.ma K (He.ga K "BadText") "__init__")) = some (.type "function"))) = true := ag (ms_2 c) 6 rfl
theorem mo_23 (c : ex K = true) : (xfB K (He.ga K "BadText")) = true := ag (ms_2 c) 7 rfl
theorem mo_24 (c : ex K = true) : (binB K (He.ga K "BookError")) = true := ag (ms_3 c) 0 rfl
theorem mo_25 (c : ex K = true) : (decide (PySem.W.kitOne K (.ref (He.ga K "BadHouse")) (.ref (He.ga K "BadHouse")) = some true)) = true := ag (ms_3 c) 1 rfl
theorem mo_26 (c : ex K = true) : (decide (PySem.W.kitOne K (.ref (He.ga K "BadName")) (.ref (He.ga K "BadHouse")) = some false)) = true := ag (ms_3 c) 2 rfl
theorem mo_27 (c : ex K = true) : (decide (PySem.W.kitOne K (.ref (He.ga K "BadNumber")) (.ref (He.ga K "BadHouse")) = some false)) = true := ag (ms_3 c) 3 rfl
theorem mo_28 (c : ex K = true) : (decide (PySem.W.kitOne K (.ref (He.ga K "NotHome")) (.ref (He.ga K "BadHouse")) = some false)) = true := ag (ms_3 c) 4 rfl
theorem mo_29 (c : ex K = true) : (decide (PySem.W.kitOne K (.ref (He.ga K "BadCut")) (.ref (He.ga K "BadHouse")) = some false)) = true := ag (ms_3 c) 5 rfl
theorem mo_30 (c : ex K = true) : (decide (PySem.W.kitOne K (.ref (He.ga K "Full")) (.ref (He.ga K "BadHouse")) = some false)) = true := ag (ms_3 c) 6 rfl
theorem mo_31 (c : ex K = true) : (decide (PySem.W.kitOne K (.ref (He.ga K "BadTables")) (.ref (He.ga K "BadHouse")) = some false)) = true := ag (ms_3 c) 7 rfl
theorem mo_32 (c : ex K = true) : (decide (PySem.W.kitOne K (.ref (He.ga K "BadLog")) (.ref (He.ga K "BadHouse")) = some false)) = true := ag (ms_4 c) 0 rfl
theorem mo_33 (c : ex K = true) : (decide (PySem.W.kitOne K (.ref (He.ga K "BadText")) (.ref (He.ga K "BadHouse")) = some false)) = true := ag (ms_4 c) 1 rfl
theorem mo_34 (c : ex K = true) : (decide (PySem.W.kitOne K (.ref (He.ga K "BadHouse")) (.ref (He.ga K "BadName")) = some false)) = true := ag (ms_4 c) 2 rfl
theorem mo_35 (c : ex K = true) : (decide (PySem.W.kitOne K (.ref (He.ga K "BadName")) (.ref (He.ga K "BadName")) = some true)) = true := ag (ms_4 c) 3 rfl
theorem mo_36 (c : ex K = true) : (decide (PySem.W.kitOne K (.ref (He.ga K "BadNumber")) (.ref (He.ga K "BadName")) = some false)) = true := ag (ms_4 c) 4 rfl
theorem mo_37 (c : ex K = true) : (decide (PySem.W.kitOne K (.ref (He.ga K "NotHome")) (.ref (He.ga K "BadName")) = some false)) = true := ag (ms_4 c) 5 rfl
theorem mo_38 (c : ex K = true) : (decide (PySem.W.kitOne K (.ref (He.ga K "BadCut")) (.ref (He.ga K "BadName")) = some false)) = true := ag (ms_4 c) 6 rfl
theorem mo_39 (c : ex K = true) : (decide (PySem.W.kitOne K (.ref (He.ga K "Full")) (.ref (He.ga K "BadName")) = some false)) = true := ag (ms_4 c) 7 rfl
theorem mo_40 (c : ex K = true) : (decide (PySem.W.kitOne K (.ref (He.ga K "BadTables")) (.ref (He.ga K "BadName")) = some false)) = true := ag (ms_5 c) 0 rfl
theorem mo_41 (c : ex K = true) : (decide (PySem.W.kitOne K (.ref (He.ga K "BadLog")) (.ref (He.ga K "BadName")) = some false)) = true := ag (ms_5 c) 1 rfl
theorem mo_42 (c : ex K = true) : (decide (PySem.W.kitOne K (.ref (He.ga K "BadText")) (.ref (He.ga K "BadName")) = some false)) = true := ag (ms_5 c) 2 rfl
theorem mo_43 (c : ex K = true) : (decide (PySem.W.kitOne K (.ref (He.ga K "BadHouse")) (.ref (He.ga K "BadNumber")) = some false)) = true := ag (ms_5 c) 3 rfl
theorem mo_44 (c : ex K = true) : (decide (PySem.W.kitOne K (.ref (He.ga K "BadName")) (.ref (He.ga K "BadNumber")) = some false)) = true := ag (ms_5 c) 4 rfl
theorem mo_45 (c : ex K = true) : (decide (PySem.W.kitOne K (.ref (He.ga K "BadNumber")) (.ref (He.ga K "BadNumber")) = some true)) = true := ag (ms_5 c) 5 rfl
theorem mo_46 (c : ex K = true) : (decide (PySem.W.kitOne K (.ref (He.ga K "NotHome")) (.ref (He.ga K "BadNumber")) = some false)) = true := ag (ms_5 c) 6 rfl
theorem mo_47 (c : ex K = true) : (decide (PySem.W.kitOne K (.ref (He.ga K "BadCut")) (.ref (He.ga K "BadNumber")) = some false)) = true := ag (ms_5 c) 7 rfl
theorem mo_48 (c : ex K = true) : (decide (PySem.W.kitOne K (.ref (He.ga K "Full")) (.ref (He.ga K "BadNumber")) = some false)) = true := ag (ms_6 c) 0 rfl
theorem mo_49 (c : ex K = true) : (decide (PySem.W.kitOne K (.ref (He.ga K "BadTables")) (.ref (He.ga K "BadNumber")) = some false)) = true := ag (ms_6 c) 1 rfl
theorem mo_50 (c : ex K = true) : (decide (PySem.W.kitOne K (.ref (He.ga K "BadLog")) (.ref (He.ga K "BadNumber")) = some false)) = true := ag (ms_6 c) 2 rfl
theorem mo_51 (c : ex K = true) : (decide (PySem.W.kitOne K (.ref (He.ga K "BadText")) (.ref (He.ga K "BadNumber")) = some false)) = true := ag (ms_6 c) 3 rfl
theorem mo_52 (c : ex K = true) : (decide (PySem.W.kitOne K (.ref (He.ga K "BadHouse")) (.ref (He.ga K "NotHome")) = some false)) = true := ag (ms_6 c) 4 rfl
theorem mo_53 (c : ex K = true) : (decide (PySem.W.kitOne K (.ref (He.ga K "BadName")) (.ref (He.ga K "NotHome")) = some false)) = true := ag (ms_6 c) 5 rfl
theorem mo_54 (c : ex K = true) : (decide (PySem.W.kitOne K (.ref (He.ga K "BadNumber")) (.ref (He.ga K "NotHome")) = some false)) = true := ag (ms_6 c) 6 rfl
theorem mo_55 (c : ex K = true) : (decide (PySem.W.kitOne K (.ref (He.ga K "NotHome")) (.ref (He.ga K "NotHome")) = some true)) = true := ag (ms_6 c) 7 rfl
theorem mo_56 (c : ex K = true) : (decide (PySem.W.kitOne K (.ref (He.ga K "BadCut")) (.ref (He.ga K "NotHome")) = some false)) = true := ag (ms_7 c) 0 rfl
theorem mo_57 (c : ex K = true) : (decide (PySem.W.kitOne K (.ref (He.ga K "Full")) (.ref (He.ga K "NotHome")) = some false)) = true := ag (ms_7 c) 1 rfl
theorem mo_58 (c : ex K = true) : (decide (PySem.W.kitOne K (.ref (He.ga K "BadTables")) (.ref (He.ga K "NotHome")) = some false)) = true := ag (ms_7 c) 2 rfl
theorem mo_59 (c : ex K = true) : (decide (PySem.W.kitOne K (.ref (He.ga K "BadLog")) (.ref (He.ga K "NotHome")) = some false)) = true := ag (ms_7 c) 3 rfl
theorem mo_60 (c : ex K = true) : (decide (PySem.W.kitOne K (.ref (He.ga K "BadText")) (.ref (He.ga K "NotHome")) = some false)) = true := ag (ms_7 c) 4 rfl
theorem mo_61 (c : ex K = true) : (decide (PySem.W.kitOne K (.ref (He.ga K "BadHouse")) (.ref (He.ga K "BadText")) = some false)) = true := ag (ms_7 c) 5 rfl
theorem mo_62 (c : ex K = true) : (decide (PySem.W.kitOne K (.ref (He.ga K "BadName")) (.ref (He.ga K "BadText")) = some false)) = true := ag (ms_7 c) 6 rfl
theorem mo_63 (c : ex K = true) : (decide (PySem.W.kitOne K (.ref (He.ga K "BadNumber")) (.ref (He.ga K "BadText")) = some false)) = true := ag (ms_7 c) 7 rfl
theorem mo_64 (c : ex K = true) : (decide (PySem.W.kitOne K (.ref (He.ga K "NotHome")) (.ref (He.ga K "BadText")) = some false)) = true := ag (ms_8 c) 0 rfl
theorem mo_65 (c : ex K = true) : (decide (PySem.W.kitOne K (.ref (He.ga K "BadCut")) (.ref (He.ga K "BadText")) = some false)) = true := ag (ms_8 c) 1 rfl
theorem mo_66 (c : ex K = true) : (decide (PySem.W.kitOne K (.ref (He.ga K "Full")) (.ref (He.ga K "BadText")) = some false)) = true := ag (ms_8 c) 2 rfl
theorem mo_67 (c : ex K = true) : (decide (PySem.W.kitOne K (.ref (He.ga K "BadTables")) (.ref (He.ga K "BadText")) = some false)) = true := ag (ms_8 c) 3 rfl
theorem mo_68 (c : ex K = true) : (decide (PySem.W.kitOne K (.ref (He.ga K "BadLog")) (.ref (He.ga K "BadText")) = some false)) = true := ag (ms_8 c) 4 rfl
theorem mo_69 (c : ex K = true) : (decide (PySem.W.kitOne K (.ref (He.ga K "BadText")) (.ref (He.ga K "BadText")) = some true)) = true := ag (ms_8 c) 5 rfl
theorem mo_70 (c : ex K = true) : (decide (PySem.W.kitOne K (.ref (He.ga K "BadHouse")) (.ref (He.ga K "BadCut")) = some false)) = true := ag (ms_8 c) 6 rfl
theorem mo_71 (c : ex K = true) : (decide (PySem.W.kitOne K (.ref (He.ga K "BadName")) (.ref (He.ga K "BadCut")) = some false)) = true := ag (ms_8 c) 7 rfl
theorem mo_72 (c : ex K = true) : (decide (PySem.W.kitOne K (.ref (He.ga K "BadNumber")) (.ref (He.ga K "BadCut")) = some false)) = true := ag (ms_9 c) 0 rfl
theorem mo_73 (c : ex K = true) : (decide (PySem.W.kitOne K (.ref (He.ga K "NotHome")) (.ref (He.ga K "BadCut")) = some false)) = true := ag (ms_9 c) 1 rfl
theorem mo_74 (c : ex K = true) : (decide (PySem.W.kitOne K (.ref (He.ga K "BadCut")) (.ref (He.ga K "BadCut")) = some true)) = true := ag (ms_9 c) 2 rfl
theorem mo_75 (c : ex K = true) : (decide (PySem.W.kitOne K (.ref (He.ga K "Full")) (.ref (He.ga K "BadCut")) = some false)) = true := ag (ms_9 c) 3 rfl
theorem mo_76 (c : ex K = true) : (decide (PySem.W.kitOne K (.ref (He.ga K "BadTables")) (.ref (He.ga K "BadCut")) = some false)) = true := ag (ms_9 c) 4 rfl
theorem mo_77 (c : ex K = true) : (decide (PySem.W.kitOne K (.ref (He.ga K "BadLog")) (.ref (He.ga K "BadCut")) = some false)) = true := ag (ms_9 c) 5 rfl
theorem mo_78 (c : ex K = true) : (decide (PySem.W.kitOne K (.ref (He.ga K "BadText")) (.ref (He.ga K "BadCut")) = some false)) = true := ag (ms_9 c) 6 rfl
theorem mo_79 (c : ex K = true) : (decide (PySem.W.kitOne K (.ref (He.ga K "BadHouse")) (.ref (He.ga K "Full")) = some false)) = true := ag (ms_9 c) 7 rfl
theorem mo_80 (c : ex K = true) : (decide (PySem.W.kitOne K (.ref (He.ga K "BadName")) (.ref (He.ga K "Full")) = some false)) = true := ag (ms_10 c) 0 rfl
theorem mo_81 (c : ex K = true) : (decide (PySem.W.kitOne K (.ref (He.ga K "BadNumber")) (.ref (He.ga K "Full")) = some false)) = true := ag (ms_10 c) 1 rfl
theorem mo_82 (c : ex K = true) : (decide (PySem.W.kitOne K (.ref (He.ga K "NotHome")) (.ref (He.ga K "Full")) = some false)) = true := ag (ms_10 c) 2 rfl
theorem mo_83 (c : ex K = true) : (decide (PySem.W.kitOne K (.ref (He.ga K "BadCut")) (.ref (He.ga K "Full")) = some false)) = true := ag (ms_10 c) 3 rfl
theorem mo_84 (c : ex K = true) : (decide (PySem.W.kitOne K (.ref (He.ga K "Full")) (.ref (He.ga K "Full")) = some true)) = true := ag (ms_10 c) 4 rfl
theorem mo_85 (c : ex K = true) : (decide (PySem.W.kitOne K (.ref (He.ga K "BadTables")) (.ref (He.ga K "Full")) = some false)) = true := ag (ms_10 c) 5 rfl
theorem mo_86 (c : ex K = true) : (decide (PySem.W.kitOne K (.ref (He.ga K "BadLog")) (.ref (He.ga K "Full")) = some false)) = true := ag (ms_10 c) 6 rfl
theorem mo_87 (c : ex K = true) : (decide (PySem.W.kitOne K (.ref (He.ga K "BadText")) (.ref (He.ga K "Full")) = some false)) = true := ag (ms_10 c) 7 rfl
theorem mo_88 (c : ex K = true) : (decide (PySem.W.kitOne K (.ref (He.ga K "BadHouse")) (.ref (He.ga K "BadTables")) = some false)) = true := ag (ms_11 c) 0 rfl
theorem mo_89 (c : ex K = true) : (decide (PySem.W.kitOne K (.ref (He.ga K "BadName")) (.ref (He.ga K "BadTables")) = some false)) = true := ag (ms_11 c) 1 rfl
theorem mo_90 (c : ex K = true) : (decide (PySem.W.kitOne K (.ref (He.ga K "BadNumber")) (.ref (He.ga K "BadTables")) = some false)) = true := ag (ms_11 c) 2 rfl
theorem mo_91 (c : ex K = true) : (decide (PySem.W.kitOne K (.ref (He.ga K "NotHome")) (.ref (He.ga K "BadTables")) = some false)) = true := ag (ms_11 c) 3 rfl
theorem mo_92 (c : ex K = true) : (decide (PySem.W.kitOne K (.ref (He.ga K "BadCut")) (.ref (He.ga K "BadTables")) = some false)) = true := ag (ms_11 c) 4 rfl
theorem mo_93 (c : ex K = true) : (decide (PySem.W.kitOne K (.ref (He.ga K "Full")) (.ref (He.ga K "BadTables")) = some false)) = true := ag (ms_11 c) 5 rfl
theorem mo_94 (c : ex K = true) : (decide (PySem.W.kitOne K (.ref (He.ga K "BadTables")) (.ref (He.ga K "BadTables")) = some true)) = true := ag (ms_11 c) 6 rfl
theorem mo_95 (c : ex K = true) : (decide (PySem.W.kitOne K (.ref (He.ga K "BadLog")) (.ref (He.ga K "BadTables")) = some false)) = true := ag (ms_11 c) 7 rfl
theorem mo_96 (c : ex K = true) : (decide (PySem.W.kitOne K (.ref (He.ga K "BadText")) (.ref (He.ga K "BadTables")) = some false)) = true := ag (ms_12 c) 0 rfl
theorem mo_97 (c : ex K = true) : (decide (PySem.W.kitOne K (.ref (He.ga K "BadHouse")) (.ref (He.ga K "BadLog")) = some false)) = true := ag (ms_12 c) 1 rfl
theorem mo_98 (c : ex K = true) : (decide (PySem.W.kitOne K (.ref (He.ga K "BadName")) (.ref (He.ga K "BadLog")) = some false)) = true := ag (ms_12 c) 2 rfl
theorem mo_99 (c : ex K = true) : (decide (PySem.W.kitOne K (.ref (He.ga K "BadNumber")) (.ref (He.ga K "BadLog")) = some false)) = true := ag (ms_12 c) 3 rfl
theorem mo_100 (c : ex K = true) : (decide (PySem.W.kitOne K (.ref (He.ga K "NotHome")) (.ref (He.ga K "BadLog")) = some false)) = true := ag (ms_12 c) 4 rfl
theorem mo_101 (c : ex K = true) : (decide (PySem.W.kitOne K (.ref (He.ga K "BadCut")) (.ref (He.ga K "BadLog")) = some false)) = true := ag (ms_12 c) 5 rfl
theorem mo_102 (c : ex K = true) : (decide (PySem.W.kitOne K (.ref (He.ga K "Full")) (.ref (He.ga K "BadLog")) = some false)) = true := ag (ms_12 c) 6 rfl
theorem mo_103 (c : ex K = true) : (decide (PySem.W.kitOne K (.ref (He.ga K "BadTables")) (.ref (He.ga K "BadLog")) = some false)) = true := ag (ms_12 c) 7 rfl
theorem mo_104 (c : ex K = true) : (decide (PySem.W.kitOne K (.ref (He.ga K "BadLog")) (.ref (He.ga K "BadLog")) = some true)) = true := ag (ms_13 c) 0 rfl
theorem mo_105 (c : ex K = true) : (decide (PySem.W.kitOne K (.ref (He.ga K "BadText")) (.ref (He.ga K "BadLog")) = some false)) = true := ag (ms_13 c) 1 rfl
theorem mo_106 (c : ex K = true) : (decide (PySem.W.kitOne K (.ref (He.ga K "BadHouse")) (.type "ValueError") = some true)) = true := ag (ms_13 c) 2 rfl
theorem mo_107 (c : ex K = true) : (decide (PySem.W.kitOne K (.ref (He.ga K "BadName")) (.type "ValueError") = some true)) = true := ag (ms_13 c) 3 rfl
theorem mo_108 (c : ex K = true) : (decide (PySem.W.kitOne K (.ref (He.ga K "BadNumber")) (.type "ValueError") = some true)) = true := ag (ms_13 c) 4 rfl
theorem mo_109 (c : ex K = true) : (decide (PySem.W.kitOne K (.ref (He.ga K "NotHome")) (.type "ValueError") = some true)) = true := ag (ms_13 c) 5 rfl
theorem mo_110 (c : ex K = true) : (decide (PySem.W.kitOne K (.ref (He.ga K "BadCut")) (.type "ValueError") = some true)) = true := ag (ms_13 c) 6 rfl
theorem mo_111 (c : ex K = true) : (decide (PySem.W.kitOne K (.ref (He.ga K "Full")) (.type "ValueError") = some true)) = true := ag (ms_13 c) 7 rfl
theorem mo_112 (c : ex K = true) : (decide (PySem.W.kitOne K (.ref (He.ga K "BadTables")) (.type "ValueError") = some true)) = true := ag (ms_14 c) 0 rfl
theorem mo_113 (c : ex K = true) : (decide (PySem.W.kitOne K (.ref (He.ga K "BadLog")) (.type "ValueError") = some true)) = true := ag (ms_14 c) 1 rfl
theorem mo_114 (c : ex K = true) : (decide (PySem.W.kitOne K (.ref (He.ga K "BadText")) (.type "ValueError") = some true)) = true := ag (ms_14 c) 2 rfl
theorem mo_115 (c : ex K = true) : (K.all fun q => !decide (q.2.cls = .type "list")) = true := ag (ms_14 c) 3 rfl
theorem ct_1 (K : PySem.W.Frag) : ctf K 1 = He.ga K "BadHouse" := rfl
theorem ct_2 (K : PySem.W.Frag) : ctf K 2 = He.ga K "BadName" := rfl
theorem ct_3 (K : PySem.W.Frag) : ctf K 3 = He.ga K "BadNumber" := rfl
theorem ct_4 (K : PySem.W.Frag) : ctf K 4 = He.ga K "NotHome" := rfl
theorem ct_5 (K : PySem.W.Frag) : ctf K 5 = He.ga K "BadCut" := rfl
theorem ct_6 (K : PySem.W.Frag) : ctf K 6 = He.ga K "Full" := rfl
theorem ct_7 (K : PySem.W.Frag) : ctf K 7 = He.ga K "BadTables" := rfl
theorem ct_8 (K : PySem.W.Frag) : ctf K 8 = He.ga K "BadLog" := rfl
theorem ct_9 (K : PySem.W.Frag) : ctf K 9 = He.ga K "BadText" := rfl
end
section
variable {P : Program} {w : World} {K : PySem.W.Frag} {h : Heap} {mg : Str → Option Value} {base : Heap}
theorem fz_b_ValueError {hh : Heap} (X : K.In h) (hG : h.Ns mainGlobals mg) (c : He.SaysX fa fn ts tf ex w hh K) (g : G) (h1 : g.K = K) (h2 : g.P = P) (h3 : g.w = w) (h4 : g.ct = ctf K) : mg "ValueError" = none := by
  exact He.free_ok X hG (fc_17 c)
theorem fz_b_bool {hh : Heap} (X : K.In h) (hG : h.Ns mainGlobals mg) (c : He.SaysX fa fn ts tf ex w hh K) (g : G) (h1 : g.K = K) (h2 : g.P = P) (h3 : g.w = w) (h4 : g.ct = ctf K) : mg "bool" = none := by
  exact He.free_ok X hG (fc_18 c)
theorem fz_b_enumerate {hh : Heap} (X : K.In h) (hG : h.Ns mainGlobals mg) (c : He.SaysX fa fn ts tf ex w hh K) (g : G) (h1 : g.K = K) (h2 : g.P = P) (h3 : g.w = w) (h4 : g.ct = ctf K) : mg "enumerate" = none := by
  exact He.free_ok X hG (fc_19 c)
theorem fz_b_int {hh : Heap} (X : K.In h) (hG : h.Ns mainGlobals mg) (c : He.SaysX fa fn ts tf ex w hh K) (g : G) (h1 : g.K = K) (h2 : g.P = P) (h3 : g.w = w) (h4 : g.ct = ctf K) : mg "int" = none := by
  exact He.free_ok X hG (fc_20 c)
theorem fz_b_isinstance {hh : Heap} (X : K.In h) (hG : h.Ns mainGlobals mg) (c : He.SaysX fa fn ts tf ex w hh K) (g : G) (h1 : g.K = K) (h2 : g.P = P) (h3 : g.w = w) (h4 : g.ct = ctf K) : mg "isinstance" = none := by
  exact He.free_ok X hG (fc_21 c)
theorem fz_b_len {hh : Heap} (X : K.In h) (hG : h.Ns mainGlobals mg) (c : He.SaysX fa fn ts tf ex w hh K) (g : G) (h1 : g.K = K) (h2 : g.P = P) (h3 : g.w = w) (h4 : g.ct = ctf K) : mg "len" = none := by
  exact He.free_ok X hG (fc_22 c)
theorem fz_b_list {hh : Heap} (X : K.In h) (hG : h.Ns mainGlobals mg) (c : He.SaysX fa fn ts tf ex w hh K) (g : G) (h1 : g.K = K) (h2 : g.P = P) (h3 : g.w = w) (h4 : g.ct = ctf K) : mg "list" = none := by
  exact He.free_ok X hG (fc_23 c)
theorem fz_b_range {hh : Heap} (X : K.In h) (hG : h.Ns mainGlobals mg) (c : He.SaysX fa fn ts tf ex w hh K) (g : G) (h1 : g.K = K) (h2 : g.P = P) (h3 : g.w = w) (h4 : g.ct = ctf K) : mg "range" = none := by
  exact He.free_ok X hG (fc_24 c)
theorem fz_b_set {hh : Heap} (X : K.In h) (hG : h.Ns mainGlobals mg) (c : He.SaysX fa fn ts tf ex w hh K) (g : G) (h1 : g.K = K) (h2 : g.P = P) (h3 : g.w = w) (h4 : g.ct = ctf K) : mg "set" = none := by
  exact He.free_ok X hG (fc_25 c)
theorem fz_b_sorted {hh : Heap} (X : K.In h) (hG : h.Ns mainGlobals mg) (c : He.SaysX fa fn ts tf ex w hh K) (g : G) (h1 : g.K = K) (h2 : g.P = P) (h3 : g.w = w) (h4 : g.ct = ctf K) : mg "sorted" = none := by
  exact He.free_ok X hG (fc_26 c)
theorem fz_b_str {hh : Heap} (X : K.In h) (hG : h.Ns mainGlobals mg) (c : He.SaysX fa fn ts tf ex w hh K) (g : G) (h1 : g.K = K) (h2 : g.P = P) (h3 : g.w = w) (h4 : g.ct = ctf K) : mg "str" = none := by
  exact He.free_ok X hG (fc_27 c)
theorem fz_b_tuple {hh : Heap} (X : K.In h) (hG : h.Ns mainGlobals mg) (c : He.SaysX fa fn ts tf ex w hh K) (g : G) (h1 : g.K = K) (h2 : g.P = P) (h3 : g.w = w) (h4 : g.ct = ctf K) : mg "tuple" = none := by
  exact He.free_ok X hG (fc_28 c)
theorem fz_c_MOST_LABELS {hh : Heap} (X : K.In h) (hG : h.Ns mainGlobals mg) (c : He.SaysX fa fn ts tf ex w hh K) (g : G) (h1 : g.K = K) (h2 : g.P = P) (h3 : g.w = w) (h4 : g.ct = ctf K) : ∃ t, mg "MOST_LABELS" = some (.int 5 t) := by
  exact He.int_ok X hG (fc_29 c)
theorem fz_c_MOST_SIGNS {hh : Heap} (X : K.In h) (hG : h.Ns mainGlobals mg) (c : He.SaysX fa fn ts tf ex w hh K) (g : G) (h1 : g.K = K) (h2 : g.P = P) (h3 : g.w = w) (h4 : g.ct = ctf K) : ∃ t, mg "MOST_SIGNS" = some (.int 3 t) := by
  exact He.int_ok X hG (fc_30 c)
theorem fz_c_MOST_NUMBER {hh : Heap} (X : K.In h) (hG : h.Ns mainGlobals mg) (c : He.SaysX fa fn ts tf ex w hh K) (g : G) (h1 : g.K = K) (h2 : g.P = P) (h3 : g.w = w) (h4 : g.ct = ctf K) : ∃ t, mg "MOST_NUMBER" = some (.int 999 t) := by
  exact He.int_ok X hG (fc_31 c)
theorem fz_c_LETTERS {hh : Heap} (X : K.In h) (hG : h.Ns mainGlobals mg) (c : He.SaysX fa fn ts tf ex w hh K) (g : G) (h1 : g.K = K) (h2 : g.P = P) (h3 : g.w = w) (h4 : g.ct = ctf K) : ∃ t, mg "LETTERS" = some (.str "abcdefghijklmnopqrstuvwxyz" t) := by
  exact He.str_ok X hG (fc_32 c)
theorem fz_c_FIGURES {hh : Heap} (X : K.In h) (hG : h.Ns mainGlobals mg) (c : He.SaysX fa fn ts tf ex w hh K) (g : G) (h1 : g.K = K) (h2 : g.P = P) (h3 : g.w = w) (h4 : g.ct = ctf K) : ∃ t, mg "FIGURES" = some (.str "0123456789" t) := by
  exact He.str_ok X hG (fc_33 c)
theorem fz_c_ROOT {hh : Heap} (X : K.In h) (hG : h.Ns mainGlobals mg) (c : He.SaysX fa fn ts tf ex w hh K) (g : G) (h1 : g.K = K) (h2 : g.P = P) (h3 : g.w = w) (h4 : g.ct = ctf K) : ∃ t, mg "ROOT" = some (.str "." t) := by
  exact He.str_ok X hG (fc_34 c)
theorem fz_c_MOST_FIGURES {hh : Heap} (X : K.In h) (hG : h.Ns mainGlobals mg) (c : He.SaysX fa fn ts tf ex w hh K) (g : G) (h1 : g.K = K) (h2 : g.P = P) (h3 : g.w = w) (h4 : g.ct = ctf K) : ∃ t, mg "MOST_FIGURES" = some (.int 3 t) := by
  exact He.int_ok X hG (fc_35 c)
theorem fz_e_BadHouse {hh : Heap} (X : K.In h) (hG : h.Ns mainGlobals mg) (c : He.SaysX fa fn ts tf ex w hh K) (g : G) (h1 : g.K = K) (h2 : g.P = P) (h3 : g.w = w) (h4 : g.ct = ctf K) : ExcOk K mg g 1 "BadHouse" := by
  exact excOk_of ((congrFun h4 1).trans (ct_1 _)) (He.glo_ok X hG (fc_37 c)) (He.exc_ok (fc_46 c))
theorem fz_e_BadName {hh : Heap} (X : K.In h) (hG : h.Ns mainGlobals mg) (c : He.SaysX fa fn ts tf ex w hh K) (g : G) (h1 : g.K = K) (h2 : g.P = P) (h3 : g.w = w) (h4 : g.ct = ctf K) : ExcOk K mg g 2 "BadName" := by
  exact excOk_of ((congrFun h4 2).trans (ct_2 _)) (He.glo_ok X hG (fc_38 c)) (He.exc_ok (fc_48 c))
theorem fz_e_BadNumber {hh : Heap} (X : K.In h) (hG : h.Ns mainGlobals mg) (c : He.SaysX fa fn ts tf ex w hh K) (g : G) (h1 : g.K = K) (h2 : g.P = P) (h3 : g.w = w) (h4 : g.ct = ctf K) : ExcOk K mg g 3 "BadNumber" := by
  exact excOk_of ((congrFun h4 3).trans (ct_3 _)) (He.glo_ok X hG (fc_39 c)) (He.exc_ok (fc_50 c))
theorem fz_e_NotHome {hh : Heap} (X : K.In h) (hG : h.Ns mainGlobals mg) (c : He.SaysX fa fn ts tf ex w hh K) (g : G) (h1 : g.K = K) (h2 : g.P = P) (h3 : g.w = w) (h4 : g.ct = ctf K) : ExcOk K mg g 4 "NotHome" := by
  exact excOk_of ((congrFun h4 4).trans (ct_4 _)) (He.glo_ok X hG (fc_40 c)) (He.exc_ok (fc_52 c))
theorem fz_e_BadCut {hh : Heap} (X : K.In h) (hG : h.Ns mainGlobals mg) (c : He.SaysX fa fn ts tf ex w hh K) (g : G) (h1 : g.K = K) (h2 : g.P = P) (h3 : g.w = w) (h4 : g.ct = ctf K) : ExcOk K mg g 5 "BadCut" := by
  exact excOk_of ((congrFun h4 5).trans (ct_5 _)) (He.glo_ok X hG (fc_41 c)) (He.exc_ok (fc_54 c))
theorem fz_e_Full {hh : Heap} (X : K.In h) (hG : h.Ns mainGlobals mg) (c : He.SaysX fa fn ts tf ex w hh K) (g : G) (h1 : g.K = K) (h2 : g.P = P) (h3 : g.w = w) (h4 : g.ct = ctf K) : ExcOk K mg g 6 "Full" := by
  exact excOk_of ((congrFun h4 6).trans (ct_6 _)) (He.glo_ok X hG (fc_42 c)) (He.exc_ok (fc_56 c))
theorem fz_x_BadTables {hh : Heap} (X : K.In h) (hG : h.Ns mainGlobals mg) (c : He.SaysX fa fn ts tf ex w hh K) (g : G) (h1 : g.K = K) (h2 : g.P = P) (h3 : g.w = w) (h4 : g.ct = ctf K) : ∀ X : Cx, X.prog = P → X.w = w → X.K = K → X.mg = mg → X.base = base → XcOk X g 7 "BadTables" "number" := by
  exact fun Y g1 g2 g3 g4 g5 => by
      subst g1 g2 g3 g4 g5
      obtain ⟨fd, U⟩ := c.t.d.def_ 17 (d := d_BadTables___init__) rfl
      exact xcOk_of (n := "number") ((congrFun h4 7).trans (ct_7 _)) (He.glo_ok X hG (fc_43 c)) (oexB_ok (mo_9 c.more)) (of_decide_eq_true (mo_11 c.more)) (of_decide_eq_true (mo_12 c.more)) (xi_BadTables U (oexB_ok (mo_9 c.more)) (binB_ok (mo_24 c.more)) (of_decide_eq_true (mo_10 c.more)) (He.glo_ok X hG (fc_36 c))) (U.bindsN fun _ _ _ _ _ _ us hl => match us, hl with | [_, _], _ => rfl)
theorem fz_x_BadLog {hh : Heap} (X : K.In h) (hG : h.Ns mainGlobals mg) (c : He.SaysX fa fn ts tf ex w hh K) (g : G) (h1 : g.K = K) (h2 : g.P = P) (h3 : g.w = w) (h4 : g.ct = ctf K) : ∀ X : Cx, X.prog = P → X.w = w → X.K = K → X.mg = mg → X.base = base → XcOk X g 8 "BadLog" "number" := by
  exact fun Y g1 g2 g3 g4 g5 => by
      subst g1 g2 g3 g4 g5
      obtain ⟨fd, U⟩ := c.t.d.def_ 18 (d := d_BadLog___init__) rfl
      exact xcOk_of (n := "number") ((congrFun h4 8).trans (ct_8 _)) (He.glo_ok X hG (fc_44 c)) (oexB_ok (mo_14 c.more)) (of_decide_eq_true (mo_16 c.more)) (of_decide_eq_true (mo_17 c.more)) (xi_BadLog U (oexB_ok (mo_14 c.more)) (binB_ok (mo_24 c.more)) (of_decide_eq_true (mo_15 c.more)) (He.glo_ok X hG (fc_36 c))) (U.bindsN fun _ _ _ _ _ _ us hl => match us, hl with | [_, _], _ => rfl)
theorem fz_x_BadText {hh : Heap} (X : K.In h) (hG : h.Ns mainGlobals mg) (c : He.SaysX fa fn ts tf ex w hh K) (g : G) (h1 : g.K = K) (h2 : g.P = P) (h3 : g.w = w) (h4 : g.ct = ctf K) : ∀ X : Cx, X.prog = P → X.w = w → X.K = K → X.mg = mg → X.base = base → XcOk X g 9 "BadText" "row" := by
  exact fun Y g1 g2 g3 g4 g5 => by
      subst g1 g2 g3 g4 g5
      obtain ⟨fd, U⟩ := c.t.d.def_ 19 (d := d_BadText___init__) rfl
      exact xcOk_of (n := "row") ((congrFun h4 9).trans (ct_9 _)) (He.glo_ok X hG (fc_45 c)) (oexB_ok (mo_19 c.more)) (of_decide_eq_true (mo_21 c.more)) (of_decide_eq_true (mo_22 c.more)) (xi_BadText U (oexB_ok (mo_19 c.more)) (binB_ok (mo_24 c.more)) (of_decide_eq_true (mo_20 c.more)) (He.glo_ok X hG (fc_36 c))) (U.bindsN fun _ _ _ _ _ _ us hl => match us, hl with | [_, _], _ => rfl)
theorem fz_kk_BadHouse {hh : Heap} (X : K.In h) (hG : h.Ns mainGlobals mg) (c : He.SaysX fa fn ts tf ex w hh K) (g : G) (h1 : g.K = K) (h2 : g.P = P) (h3 : g.w = w) (h4 : g.ct = ctf K) : ∀ X : Cx, X.prog = P → X.w = w → X.K = K → X.mg = mg → X.base = base → Gl X "BadHouse" → KiOk X g "BadHouse" ki_BadHouse := by
  exact fun Y g1 g2 g3 g4 g5 hgl => by
      subst g1 g2 g3 g4 g5
      refine ⟨⟨.ref (He.ga _ "BadHouse"), .ref (He.ga _ "BadHouse"), fun u hu => hu, fun a oe pn p => pe_glob (v := .ref (He.ga _ "BadHouse")) hgl (He.glo_ok X hG (fc_37 c)) rfl, fun n b h => ?_⟩⟩
      exact match n, h with
      | 0, h => by cases h
      | 1, h => by cases h; exact kk1 ((congrFun h4 1).trans (ct_1 _)) (mo_0 c.more) (mo_25 c.more)
      | 2, h => by cases h; exact kk1 ((congrFun h4 2).trans (ct_2 _)) (mo_1 c.more) (mo_26 c.more)
      | 3, h => by cases h; exact kk1 ((congrFun h4 3).trans (ct_3 _)) (mo_2 c.more) (mo_27 c.more)
      | 4, h => by cases h; exact kk1 ((congrFun h4 4).trans (ct_4 _)) (mo_3 c.more) (mo_28 c.more)
      | 5, h => by cases h; exact kk1 ((congrFun h4 5).trans (ct_5 _)) (mo_4 c.more) (mo_29 c.more)
      | 6, h => by cases h; exact kk1 ((congrFun h4 6).trans (ct_6 _)) (mo_5 c.more) (mo_30 c.more)
      | 7, h => by cases h; exact kk1 ((congrFun h4 7).trans (ct_7 _)) (mo_6 c.more) (mo_31 c.more)
      | 8, h => by cases h; exact kk1 ((congrFun h4 8).trans (ct_8 _)) (mo_7 c.more) (mo_32 c.more)
      | 9, h => by cases h; exact kk1 ((congrFun h4 9).trans (ct_9 _)) (mo_8 c.more) (mo_33 c.more)
      | n + 10, h => by cases h
theorem fz_kk_BadName {hh : Heap} (X : K.In h) (hG : h.Ns mainGlobals mg) (c : He.SaysX fa fn ts tf ex w hh K) (g : G) (h1 : g.K = K) (h2 : g.P = P) (h3 : g.w = w) (h4 : g.ct = ctf K) : ∀ X : Cx, X.prog = P → X.w = w → X.K = K → X.mg = mg → X.base = base → Gl X "BadName" → KiOk X g "BadName" ki_BadName := by
  exact fun Y g1 g2 g3 g4 g5 hgl => by
      subst g1 g2 g3 g4 g5
      refine ⟨⟨.ref (He.ga _ "BadName"), .ref (He.ga _ "BadName"), fun u hu => hu, fun a oe pn p => pe_glob (v := .ref (He.ga _ "BadName")) hgl (He.glo_ok X hG (fc_38 c)) rfl, fun n b h => ?_⟩⟩
      exact match n, h with
      | 0, h => by cases h
      | 1, h => by cases h; exact kk1 ((congrFun h4 1).trans (ct_1 _)) (mo_0 c.more) (mo_34 c.more)
      | 2, h => by cases h; exact kk1 ((congrFun h4 2).trans (ct_2 _)) (mo_1 c.more) (mo_35 c.more)
      | 3, h => by cases h; exact kk1 ((congrFun h4 3).trans (ct_3 _)) (mo_2 c.more) (mo_36 c.more)
      | 4, h => by cases h; exact kk1 ((congrFun h4 4).trans (ct_4 _)) (mo_3 c.more) (mo_37 c.more)
      | 5, h => by cases h; exact kk1 ((congrFun h4 5).trans (ct_5 _)) (mo_4 c.more) (mo_38 c.more)
      | 6, h => by cases h; exact kk1 ((congrFun h4 6).trans (ct_6 _)) (mo_5 c.more) (mo_39 c.more)
      | 7, h => by cases h; exact kk1 ((congrFun h4 7).trans (ct_7 _)) (mo_6 c.more) (mo_40 c.more)
      | 8, h => by cases h; exact kk1 ((congrFun h4 8).trans (ct_8 _)) (mo_7 c.more) (mo_41 c.more)
      | 9, h => by cases h; exact kk1 ((congrFun h4 9).trans (ct_9 _)) (mo_8 c.more) (mo_42 c.more)
      | n + 10, h => by cases h
theorem fz_kk_BadNumber {hh : Heap} (X : K.In h) (hG : h.Ns mainGlobals mg) (c : He.SaysX fa fn ts tf ex w hh K) (g : G) (h1 : g.K = K) (h2 : g.P = P) (h3 : g.w = w) (h4 : g.ct = ctf K) : ∀ X : Cx, X.prog = P → X.w = w → X.K = K → X.mg = mg → X.base = base → Gl X "BadNumber" → KiOk X g "BadNumber" ki_BadNumber := by
  exact fun Y g1 g2 g3 g4 g5 hgl => by
      subst g1 g2 g3 g4 g5
      refine ⟨⟨.ref (He.ga _ "BadNumber"), .ref (He.ga _ "BadNumber"), fun u hu => hu, fun a oe pn p => pe_glob (v := .ref (He.ga _ "BadNumber")) hgl (He.glo_ok X hG (fc_39 c)) rfl, fun n b h => ?_⟩⟩
      exact match n, h with
      | 0, h => by cases h
      | 1, h => by cases h; exact kk1 ((congrFun h4 1).trans (ct_1 _)) (mo_0 c.more) (mo_43 c.more)
      | 2, h => by cases h; exact kk1 ((congrFun h4 2).trans (ct_2 _)) (mo_1 c.more) (mo_44 c.more)
      | 3, h => by cases h; exact kk1 ((congrFun h4 3).trans (ct_3 _)) (mo_2 c.more) (mo_45 c.more)
      | 4, h => by cases h; exact kk1 ((congrFun h4 4).trans (ct_4 _)) (mo_3 c.more) (mo_46 c.more)
      | 5, h => by cases h; exact kk1 ((congrFun h4 5).trans (ct_5 _)) (mo_4 c.more) (mo_47 c.more)
      | 6, h => by cases h; exact kk1 ((congrFun h4 6).trans (ct_6 _)) (mo_5 c.more) (mo_48 c.more)
      | 7, h => by cases h; exact kk1 ((congrFun h4 7).trans (ct_7 _)) (mo_6 c.more) (mo_49 c.more)
      | 8, h => by cases h; exact kk1 ((congrFun h4 8).trans (ct_8 _)) (mo_7 c.more) (mo_50 c.more)
      | 9, h => by cases h; exact kk1 ((congrFun h4 9).trans (ct_9 _)) (mo_8 c.more) (mo_51 c.more)
      | n + 10, h => by cases h
theorem fz_kk_NotHome {hh : Heap} (X : K.In h) (hG : h.Ns mainGlobals mg) (c : He.SaysX fa fn ts tf ex w hh K) (g : G) (h1 : g.K = K) (h2 : g.P = P) (h3 : g.w = w) (h4 : g.ct = ctf K) : ∀ X : Cx, X.prog = P → X.w = w → X.K = K → X.mg = mg → X.base = base → Gl X "NotHome" → KiOk X g "NotHome" ki_NotHome := by
  exact fun Y g1 g2 g3 g4 g5 hgl => by
      subst g1 g2 g3 g4 g5
      refine ⟨⟨.ref (He.ga _ "NotHome"), .ref (He.ga _ "NotHome"), fun u hu => hu, fun a oe pn p => pe_glob (v := .ref (He.ga _ "NotHome")) hgl (He.glo_ok X hG (fc_40 c)) rfl, fun n b h => ?_⟩⟩
      exact match n, h with
      | 0, h => by cases h
      | 1, h => by cases h; exact kk1 ((congrFun h4 1).trans (ct_1 _)) (mo_0 c.more) (mo_52 c.more)
      | 2, h => by cases h; exact kk1 ((congrFun h4 2).trans (ct_2 _)) (mo_1 c.more) (mo_53 c.more)
      | 3, h => by cases h; exact kk1 ((congrFun h4 3).trans (ct_3 _)) (mo_2 c.more) (mo_54 c.more)
      | 4, h => by cases h; exact kk1 ((congrFun h4 4).trans (ct_4 _)) (mo_3 c.more) (mo_55 c.more)
      | 5, h => by cases h; exact kk1 ((congrFun h4 5).trans (ct_5 _)) (mo_4 c.more) (mo_56 c.more)
      | 6, h => by cases h; exact kk1 ((congrFun h4 6).trans (ct_6 _)) (mo_5 c.more) (mo_57 c.more)
      | 7, h => by cases h; exact kk1 ((congrFun h4 7).trans (ct_7 _)) (mo_6 c.more) (mo_58 c.more)
      | 8, h => by cases h; exact kk1 ((congrFun h4 8).trans (ct_8 _)) (mo_7 c.more) (mo_59 c.more)
      | 9, h => by cases h; exact kk1 ((congrFun h4 9).trans (ct_9 _)) (mo_8 c.more) (mo_60 c.more)
      | n + 10, h => by cases h
theorem fz_kk_BadText {hh : Heap} (X : K.In h) (hG : h.Ns mainGlobals mg) (c : He.SaysX fa fn ts tf ex w hh K) (g : G) (h1 : g.K = K) (h2 : g.P = P) (h3 : g.w = w) (h4 : g.ct = ctf K) : ∀ X : Cx, X.prog = P → X.w = w → X.K = K → X.mg = mg → X.base = base → Gl X "BadText" → KiOk X g "BadText" ki_BadText := by
  exact fun Y g1 g2 g3 g4 g5 hgl => by
      subst g1 g2 g3 g4 g5
      refine ⟨⟨.ref (He.ga _ "BadText"), .ref (He.ga _ "BadText"), fun u hu => hu, fun a oe pn p => pe_glob (v := .ref (He.ga _ "BadText")) hgl (He.glo_ok X hG (fc_45 c)) rfl, fun n b h => ?_⟩⟩
      exact match n, h with
      | 0, h => by cases h
      | 1, h => by cases h; exact kk1 ((congrFun h4 1).trans (ct_1 _)) (mo_0 c.more) (mo_61 c.more)
      | 2, h => by cases h; exact kk1 ((congrFun h4 2).trans (ct_2 _)) (mo_1 c.more) (mo_62 c.more)
      | 3, h => by cases h; exact kk1 ((congrFun h4 3).trans (ct_3 _)) (mo_2 c.more) (mo_63 c.more)
      | 4, h => by cases h; exact kk1 ((congrFun h4 4).trans (ct_4 _)) (mo_3 c.more) (mo_64 c.more)
      | 5, h => by cases h; exact kk1 ((congrFun h4 5).trans (ct_5 _)) (mo_4 c.more) (mo_65 c.more)
      | 6, h => by cases h; exact kk1 ((congrFun h4 6).trans (ct_6 _)) (mo_5 c.more) (mo_66 c.more)
      | 7, h => by cases h; exact kk1 ((congrFun h4 7).trans (ct_7 _)) (mo_6 c.more) (mo_67 c.more)
      | 8, h => by cases h; exact kk1 ((congrFun h4 8).trans (ct_8 _)) (mo_7 c.more) (mo_68 c.more)
      | 9, h => by cases h; exact kk1 ((congrFun h4 9).trans (ct_9 _)) (mo_8 c.more) (mo_69 c.more)
      | n + 10, h => by cases h
theorem fz_kk_BadCut {hh : Heap} (X : K.In h) (hG : h.Ns mainGlobals mg) (c : He.SaysX fa fn ts tf ex w hh K) (g : G) (h1 : g.K = K) (h2 : g.P = P) (h3 : g.w = w) (h4 : g.ct = ctf K) : ∀ X : Cx, X.prog = P → X.w = w → X.K = K → X.mg = mg → X.base = base → Gl X "BadCut" → KiOk X g "BadCut" ki_BadCut := by
  exact fun Y g1 g2 g3 g4 g5 hgl => by
      subst g1 g2 g3 g4 g5
      refine ⟨⟨.ref (He.ga _ "BadCut"), .ref (He.ga _ "BadCut"), fun u hu => hu, fun a oe pn p => pe_glob (v := .ref (He.ga _ "BadCut")) hgl (He.glo_ok X hG (fc_41 c)) rfl, fun n b h => ?_⟩⟩
      exact match n, h with
      | 0, h => by cases h
      | 1, h => by cases h; exact kk1 ((congrFun h4 1).trans (ct_1 _)) (mo_0 c.more) (mo_70 c.more)
      | 2, h => by cases h; exact kk1 ((congrFun h4 2).trans (ct_2 _)) (mo_1 c.more) (mo_71 c.more)
      | 3, h => by cases h; exact kk1 ((congrFun h4 3).trans (ct_3 _)) (mo_2 c.more) (mo_72 c.more)
      | 4, h => by cases h; exact kk1 ((congrFun h4 4).trans (ct_4 _)) (mo_3 c.more) (mo_73 c.more)
      | 5, h => by cases h; exact kk1 ((congrFun h4 5).trans (ct_5 _)) (mo_4 c.more) (mo_74 c.more)
      | 6, h => by cases h; exact kk1 ((congrFun h4 6).trans (ct_6 _)) (mo_5 c.more) (mo_75 c.more)
      | 7, h => by cases h; exact kk1 ((congrFun h4 7).trans (ct_7 _)) (mo_6 c.more) (mo_76 c.more)
      | 8, h => by cases h; exact kk1 ((congrFun h4 8).trans (ct_8 _)) (mo_7 c.more) (mo_77 c.more)
      | 9, h => by cases h; exact kk1 ((congrFun h4 9).trans (ct_9 _)) (mo_8 c.more) (mo_78 c.more)
      | n + 10, h => by cases h
theorem fz_kk_Full {hh : Heap} (X : K.In h) (hG : h.Ns mainGlobals mg) (c : He.SaysX fa fn ts tf ex w hh K) (g : G) (h1 : g.K = K) (h2 : g.P = P) (h3 : g.w = w) (h4 : g.ct = ctf K) : ∀ X : Cx, X.prog = P → X.w = w → X.K = K → X.mg = mg → X.base = base → Gl X "Full" → KiOk X g "Full" ki_Full := by
  exact fun Y g1 g2 g3 g4 g5 hgl => by
      subst g1 g2 g3 g4 g5
      refine ⟨⟨.ref (He.ga _ "Full"), .ref (He.ga _ "Full"), fun u hu => hu, fun a oe pn p => pe_glob (v := .ref (He.ga _ "Full")) hgl (He.glo_ok X hG (fc_42 c)) rfl, fun n b h => ?_⟩⟩
      exact match n, h with
      | 0, h => by cases h
      | 1, h => by cases h; exact kk1 ((congrFun h4 1).trans (ct_1 _)) (mo_0 c.more) (mo_79 c.more)
      | 2, h => by cases h; exact kk1 ((congrFun h4 2).trans (ct_2 _)) (mo_1 c.more) (mo_80 c.more)
      | 3, h => by cases h; exact kk1 ((congrFun h4 3).trans (ct_3 _)) (mo_2 c.more) (mo_81 c.more)
      | 4, h => by cases h; exact kk1 ((congrFun h4 4).trans (ct_4 _)) (mo_3 c.more) (mo_82 c.more)
      | 5, h => by cases h; exact kk1 ((congrFun h4 5).trans (ct_5 _)) (mo_4 c.more) (mo_83 c.more)
      | 6, h => by cases h; exact kk1 ((congrFun h4 6).trans (ct_6 _)) (mo_5 c.more) (mo_84 c.more)
      | 7, h => by cases h; exact kk1 ((congrFun h4 7).trans (ct_7 _)) (mo_6 c.more) (mo_85 c.more)
      | 8, h => by cases h; exact kk1 ((congrFun h4 8).trans (ct_8 _)) (mo_7 c.more) (mo_86 c.more)
      | 9, h => by cases h; exact kk1 ((congrFun h4 9).trans (ct_9 _)) (mo_8 c.more) (mo_87 c.more)
      | n + 10, h => by cases h
theorem fz_kk_BadTables {hh : Heap} (X : K.In h) (hG : h.Ns mainGlobals mg) (c : He.SaysX fa fn ts tf ex w hh K) (g : G) (h1 : g.K = K) (h2 : g.P = P) (h3 : g.w = w) (h4 : g.ct = ctf K) : ∀ X : Cx, X.prog = P → X.w = w → X.K = K → X.mg = mg → X.base = base → Gl X "BadTables" → KiOk X g "BadTables" ki_BadTables := by
  exact fun Y g1 g2 g3 g4 g5 hgl => by
      subst g1 g2 g3 g4 g5
      refine ⟨⟨.ref (He.ga _ "BadTables"), .ref (He.ga _ "BadTables"), fun u hu => hu, fun a oe pn p => pe_glob (v := .ref (He.ga _ "BadTables")) hgl (He.glo_ok X hG (fc_43 c)) rfl, fun n b h => ?_⟩⟩
      exact match n, h with
      | 0, h => by cases h
      | 1, h => by cases h; exact kk1 ((congrFun h4 1).trans (ct_1 _)) (mo_0 c.more) (mo_88 c.more)
      | 2, h => by cases h; exact kk1 ((congrFun h4 2).trans (ct_2 _)) (mo_1 c.more) (mo_89 c.more)
      | 3, h => by cases h; exact kk1 ((congrFun h4 3).trans (ct_3 _)) (mo_2 c.more) (mo_90 c.more)
      | 4, h => by cases h; exact kk1 ((congrFun h4 4).trans (ct_4 _)) (mo_3 c.more) (mo_91 c.more)
      | 5, h => by cases h; exact kk1 ((congrFun h4 5).trans (ct_5 _)) (mo_4 c.more) (mo_92 c.more)
      | 6, h => by cases h; exact kk1 ((congrFun h4 6).trans (ct_6 _)) (mo_5 c.more) (mo_93 c.more)
      | 7, h => by cases h; exact kk1 ((congrFun h4 7).trans (ct_7 _)) (mo_6 c.more) (mo_94 c.more)
      | 8, h => by cases h; exact kk1 ((congrFun h4 8).trans (ct_8 _)) (mo_7 c.more) (mo_95 c.more)
      | 9, h => by cases h; exact kk1 ((congrFun h4 9).trans (ct_9 _)) (mo_8 c.more) (mo_96 c.more)
      | n + 10, h => by cases h
theorem fz_kk_BadLog {hh : Heap} (X : K.In h) (hG : h.Ns mainGlobals mg) (c : He.SaysX fa fn ts tf ex w hh K) (g : G) (h1 : g.K = K) (h2 : g.P = P) (h3 : g.w = w) (h4 : g.ct = ctf K) : ∀ X : Cx, X.prog = P → X.w = w → X.K = K → X.mg = mg → X.base = base → Gl X "BadLog" → KiOk X g "BadLog" ki_BadLog := by
  exact fun Y g1 g2 g3 g4 g5 hgl => by
      subst g1 g2 g3 g4 g5
      refine ⟨⟨.ref (He.ga _ "BadLog"), .ref (He.ga _ "BadLog"), fun u hu => hu, fun a oe pn p => pe_glob (v := .ref (He.ga _ "BadLog")) hgl (He.glo_ok X hG (fc_44 c)) rfl, fun n b h => ?_⟩⟩
      exact match n, h with
      | 0, h => by cases h
      | 1, h => by cases h; exact kk1 ((congrFun h4 1).trans (ct_1 _)) (mo_0 c.more) (mo_97 c.more)
      | 2, h => by cases h; exact kk1 ((congrFun h4 2).trans (ct_2 _)) (mo_1 c.more) (mo_98 c.more)
      | 3, h => by cases h; exact kk1 ((congrFun h4 3).trans (ct_3 _)) (mo_2 c.more) (mo_99 c.more)
      | 4, h => by cases h; exact kk1 ((congrFun h4 4).trans (ct_4 _)) (mo_3 c.more) (mo_100 c.more)
      | 5, h => by cases h; exact kk1 ((congrFun h4 5).trans (ct_5 _)) (mo_4 c.more) (mo_101 c.more)
      | 6, h => by cases h; exact kk1 ((congrFun h4 6).trans (ct_6 _)) (mo_5 c.more) (mo_102 c.more)
      | 7, h => by cases h; exact kk1 ((congrFun h4 7).trans (ct_7 _)) (mo_6 c.more) (mo_103 c.more)
      | 8, h => by cases h; exact kk1 ((congrFun h4 8).trans (ct_8 _)) (mo_7 c.more) (mo_104 c.more)
      | 9, h => by cases h; exact kk1 ((congrFun h4 9).trans (ct_9 _)) (mo_8 c.more) (mo_105 c.more)
      | n + 10, h => by cases h
theorem fz_kk_ValueError {hh : Heap} (X : K.In h) (hG : h.Ns mainGlobals mg) (c : He.SaysX fa fn ts tf ex w hh K) (g : G) (h1 : g.K = K) (h2 : g.P = P) (h3 : g.w = w) (h4 : g.ct = ctf K) : ∀ X : Cx, X.prog = P → X.w = w → X.K = K → X.mg = mg → X.base = base → Gl X "ValueError" → KiOk X g "ValueError" ki_ValueError := by
  exact fun Y g1 g2 g3 g4 g5 hgl => by
      subst g1 g2 g3 g4 g5
      refine ⟨⟨.ty "ValueError", .type "ValueError", fun u hu => hu, fun a oe pn p => pe_bltn (v := .ty "ValueError") hgl (He.free_ok X hG (fc_17 c)) (by decide +kernel) rfl, fun n b h => ?_⟩⟩
      exact match n, h with
      | 0, h => by cases h
      | 1, h => by cases h; exact kk1 ((congrFun h4 1).trans (ct_1 _)) (mo_0 c.more) (mo_106 c.more)
      | 2, h => by cases h; exact kk1 ((congrFun h4 2).trans (ct_2 _)) (mo_1 c.more) (mo_107 c.more)
      | 3, h => by cases h; exact kk1 ((congrFun h4 3).trans (ct_3 _)) (mo_2 c.more) (mo_108 c.more)
      | 4, h => by cases h; exact kk1 ((congrFun h4 4).trans (ct_4 _)) (mo_3 c.more) (mo_109 c.more)
      | 5, h => by cases h; exact kk1 ((congrFun h4 5).trans (ct_5 _)) (mo_4 c.more) (mo_110 c.more)
      | 6, h => by cases h; exact kk1 ((congrFun h4 6).trans (ct_6 _)) (mo_5 c.more) (mo_111 c.more)
      | 7, h => by cases h; exact kk1 ((congrFun h4 7).trans (ct_7 _)) (mo_6 c.more) (mo_112 c.more)
      | 8, h => by cases h; exact kk1 ((congrFun h4 8).trans (ct_8 _)) (mo_7 c.more) (mo_113 c.more)
      | 9, h => by cases h; exact kk1 ((congrFun h4 9).trans (ct_9 _)) (mo_8 c.more) (mo_114 c.more)
      | n + 10, h => by cases h
theorem fz_xf_number {hh : Heap} (X : K.In h) (hG : h.Ns mainGlobals mg) (c : He.SaysX fa fn ts tf ex w hh K) (g : G) (h1 : g.K = K) (h2 : g.P = P) (h3 : g.w = w) (h4 : g.ct = ctf K) : ∀ n, okx_number n = true → XfC K (g.ct n) ∧ PySem.W.findIn K (.ref (g.ct n)) "number" = some none := by
  exact fun n h => match n, h with
      | 0, h => by cases h
      | 1, h => by cases h
      | 2, h => by cases h
      | 3, h => by cases h
      | 4, h => by cases h
      | 5, h => by cases h
      | 6, h => by cases h
      | 7, h => xf1 ((congrFun h4 7).trans (ct_7 _)) (mo_13 c.more) (mo_10 c.more)
      | 8, h => xf1 ((congrFun h4 8).trans (ct_8 _)) (mo_18 c.more) (mo_15 c.more)
      | 9, h => by cases h
      | n + 10, h => by cases h
theorem fz_xf_row {hh : Heap} (X : K.In h) (hG : h.Ns mainGlobals mg) (c : He.SaysX fa fn ts tf ex w hh K) (g : G) (h1 : g.K = K) (h2 : g.P = P) (h3 : g.w = w) (h4 : g.ct = ctf K) : ∀ n, okx_row n = true → XfC K (g.ct n) ∧ PySem.W.findIn K (.ref (g.ct n)) "row" = some none := by
  exact fun n h => match n, h with
      | 0, h => by cases h
      | 1, h => by cases h
      | 2, h => by cases h
      | 3, h => by cases h
      | 4, h => by cases h
      | 5, h => by cases h
      | 6, h => by cases h
      | 7, h => by cases h
      | 8, h => by cases h
      | 9, h => xf1 ((congrFun h4 9).trans (ct_9 _)) (mo_23 c.more) (mo_20 c.more)
      | n + 10, h => by cases h
theorem fz_em {hh : Heap} (X : K.In h) (hG : h.Ns mainGlobals mg) (c : He.SaysX fa fn ts tf ex w hh K) (g : G) (h1 : g.K = K) (h2 : g.P = P) (h3 : g.w = w) (h4 : g.ct = ctf K) : ∃ B, mg "BookError" = some (.ref B) ∧ ∀ m b, emB m = some b → PySem.W.exmOne K (.ref (g.ct m)) (.ref B) = some b := by
  exact ⟨_, He.glo_ok X hG (fc_36 c), fun n b h => match n, h with
      | 0, h => by cases h
      | 1, h => by cases h; exact em1 ((congrFun h4 1).trans (ct_1 _)) (He.exm_ok (fc_47 c))
      | 2, h => by cases h; exact em1 ((congrFun h4 2).trans (ct_2 _)) (He.exm_ok (fc_49 c))
      | 3, h => by cases h; exact em1 ((congrFun h4 3).trans (ct_3 _)) (He.exm_ok (fc_51 c))
      | 4, h => by cases h; exact em1 ((congrFun h4 4).trans (ct_4 _)) (He.exm_ok (fc_53 c))
      | 5, h => by cases h; exact em1 ((congrFun h4 5).trans (ct_5 _)) (He.exm_ok (fc_55 c))
      | 6, h => by cases h; exact em1 ((congrFun h4 6).trans (ct_6 _)) (He.exm_ok (fc_57 c))
      | 7, h => by cases h; exact em1 ((congrFun h4 7).trans (ct_7 _)) (He.exm_ok (fc_58 c))
      | 8, h => by cases h; exact em1 ((congrFun h4 8).trans (ct_8 _)) (He.exm_ok (fc_59 c))
      | 9, h => by cases h; exact em1 ((congrFun h4 9).trans (ct_9 _)) (He.exm_ok (fc_60 c))
      | n + 10, h => by cases h⟩
theorem fz_u_is_between {hh : Heap} (X : K.In h) (hG : h.Ns mainGlobals mg) (c : He.SaysX fa fn ts tf ex w hh K) (g : G) (h1 : g.K = K) (h2 : g.P = P) (h3 : g.w = w) (h4 : g.ct = ctf K) : ∃ f fd, FunD K "is_between" "is_between" (defArgs s_is_between) (defBody s_is_between) (defScope s_is_between) [] [] f fd ∧ mg "is_between" = some (.ref f) := by
  exact let ⟨fd, U⟩ := c.t.d.def_ 0 (d := d_is_between) rfl; ⟨_, fd, U, He.glo_ok X hG (fc_0 c)⟩
theorem fz_u_is_label {hh : Heap} (X : K.In h) (hG : h.Ns mainGlobals mg) (c : He.SaysX fa fn ts tf ex w hh K) (g : G) (h1 : g.K = K) (h2 : g.P = P) (h3 : g.w = w) (h4 : g.ct = ctf K) : ∃ f fd, FunD K "is_label" "is_label" (defArgs s_is_label) (defBody s_is_label) (defScope s_is_label) [] [] f fd ∧ mg "is_label" = some (.ref f) := by
  exact let ⟨fd, U⟩ := c.t.d.def_ 1 (d := d_is_label) rfl; ⟨_, fd, U, He.glo_ok X hG (fc_1 c)⟩
theorem fz_u_is_name {hh : Heap} (X : K.In h) (hG : h.Ns mainGlobals mg) (c : He.SaysX fa fn ts tf ex w hh K) (g : G) (h1 : g.K = K) (h2 : g.P = P) (h3 : g.w = w) (h4 : g.ct = ctf K) : ∃ f fd, FunD K "is_name" "is_name" (defArgs s_is_name) (defBody s_is_name) (defScope s_is_name) [] [] f fd ∧ mg "is_name" = some (.ref f) := by
  exact let ⟨fd, U⟩ := c.t.d.def_ 2 (d := d_is_name) rfl; ⟨_, fd, U, He.glo_ok X hG (fc_2 c)⟩
theorem fz_u_word_of {hh : Heap} (X : K.In h) (hG : h.Ns mainGlobals mg) (c : He.SaysX fa fn ts tf ex w hh K) (g : G) (h1 : g.K = K) (h2 : g.P = P) (h3 : g.w = w) (h4 : g.ct = ctf K) : ∃ f fd, FunD K "word_of" "word_of" (defArgs s_word_of) (defBody s_word_of) (defScope s_word_of) [] [] f fd ∧ mg "word_of" = some (.ref f) := by
  exact let ⟨fd, U⟩ := c.t.d.def_ 3 (d := d_word_of) rfl; ⟨_, fd, U, He.glo_ok X hG (fc_3 c)⟩
theorem fz_u_written {hh : Heap} (X : K.In h) (hG : h.Ns mainGlobals mg) (c : He.SaysX fa fn ts tf ex w hh K) (g : G) (h1 : g.K = K) (h2 : g.P = P) (h3 : g.w = w) (h4 : g.ct = ctf K) : ∃ f fd, FunD K "written" "written" (defArgs s_written) (defBody s_written) (defScope s_written) [] [] f fd ∧ mg "written" = some (.ref f) := by
  exact let ⟨fd, U⟩ := c.t.d.def_ 4 (d := d_written) rfl; ⟨_, fd, U, He.glo_ok X hG (fc_4 c)⟩
theorem fz_u_name_of {hh : Heap} (X : K.In h) (hG : h.Ns mainGlobals mg) (c : He.SaysX fa fn ts tf ex w hh K) (g : G) (h1 : g.K = K) (h2 : g.P = P) (h3 : g.w = w) (h4 : g.ct = ctf K) : ∃ f fd, FunD K "name_of" "name_of" (defArgs s_name_of) (defBody s_name_of) (defScope s_name_of) [] [] f fd ∧ mg "name_of" = some (.ref f) := by
  exact let ⟨fd, U⟩ := c.t.d.def_ 5 (d := d_name_of) rfl; ⟨_, fd, U, He.glo_ok X hG (fc_5 c)⟩
theorem fz_u_number_of {hh : Heap} (X : K.In h) (hG : h.Ns mainGlobals mg) (c : He.SaysX fa fn ts tf ex w hh K) (g : G) (h1 : g.K = K) (h2 : g.P = P) (h3 : g.w = w) (h4 : g.ct = ctf K) : ∃ f fd, FunD K "number_of" "number_of" (defArgs s_number_of) (defBody s_number_of) (defScope s_number_of) [] [] f fd ∧ mg "number_of" = some (.ref f) := by
  exact let ⟨fd, U⟩ := c.t.d.def_ 6 (d := d_number_of) rfl; ⟨_, fd, U, He.glo_ok X hG (fc_6 c)⟩
theorem fz_u_read {hh : Heap} (X : K.In h) (hG : h.Ns mainGlobals mg) (c : He.SaysX fa fn ts tf ex w hh K) (g : G) (h1 : g.K = K) (h2 : g.P = P) (h3 : g.w = w) (h4 : g.ct = ctf K) : ∃ f fd, FunD K "read" "read" (defArgs s_read) (defBody s_read) (defScope s_read) [] [] f fd ∧ mg "read" = some (.ref f) := by
  exact let ⟨fd, U⟩ := c.t.d.def_ 7 (d := d_read) rfl; ⟨_, fd, U, He.glo_ok X hG (fc_7 c)⟩
theorem fz_u__law_dice {hh : Heap} (X : K.In h) (hG : h.Ns mainGlobals mg) (c : He.SaysX fa fn ts tf ex w hh K) (g : G) (h1 : g.K = K) (h2 : g.P = P) (h3 : g.w = w) (h4 : g.ct = ctf K) : ∃ f fd, FunD K "_law_dice" "_law_dice" (defArgs s__law_dice) (defBody s__law_dice) (defScope s__law_dice) [] [] f fd ∧ mg "_law_dice" = some (.ref f) := by
  exact let ⟨fd, U⟩ := c.t.d.def_ 8 (d := d__law_dice) rfl; ⟨_, fd, U, He.glo_ok X hG (fc_8 c)⟩
theorem fz_u__law_next {hh : Heap} (X : K.In h) (hG : h.Ns mainGlobals mg) (c : He.SaysX fa fn ts tf ex w hh K) (g : G) (h1 : g.K = K) (h2 : g.P = P) (h3 : g.w = w) (h4 : g.ct = ctf K) : ∃ f fd, FunD K "_law_next" "_law_next" (defArgs s__law_next) (defBody s__law_next) (defScope s__law_next) [] [] f fd ∧ mg "_law_next" = some (.ref f) := by
  exact let ⟨fd, U⟩ := c.t.d.def_ 9 (d := d__law_next) rfl; ⟨_, fd, U, He.glo_ok X hG (fc_9 c)⟩
theorem fz_u__law_like {hh : Heap} (X : K.In h) (hG : h.Ns mainGlobals mg) (c : He.SaysX fa fn ts tf ex w hh K) (g : G) (h1 : g.K = K) (h2 : g.P = P) (h3 : g.w = w) (h4 : g.ct = ctf K) : ∃ f fd, FunD K "_law_like" "_law_like" (defArgs s__law_like) (defBody s__law_like) (defScope s__law_like) [] [] f fd ∧ mg "_law_like" = some (.ref f) := by
  exact let ⟨fd, U⟩ := c.t.d.def_ 10 (d := d__law_like) rfl; ⟨_, fd, U, He.glo_ok X hG (fc_10 c)⟩
theorem fz_u__law_name {hh : Heap} (X : K.In h) (hG : h.Ns mainGlobals mg) (c : He.SaysX fa fn ts tf ex w hh K) (g : G) (h1 : g.K = K) (h2 : g.P = P) (h3 : g.w = w) (h4 : g.ct = ctf K) : ∃ f fd, FunD K "_law_name" "_law_name" (defArgs s__law_name) (defBody s__law_name) (defScope s__law_name) [] [] f fd ∧ mg "_law_name" = some (.ref f) := by
  exact let ⟨fd, U⟩ := c.t.d.def_ 11 (d := d__law_name) rfl; ⟨_, fd, U, He.glo_ok X hG (fc_11 c)⟩
theorem fz_u__law_labels {hh : Heap} (X : K.In h) (hG : h.Ns mainGlobals mg) (c : He.SaysX fa fn ts tf ex w hh K) (g : G) (h1 : g.K = K) (h2 : g.P = P) (h3 : g.w = w) (h4 : g.ct = ctf K) : ∃ f fd, FunD K "_law_labels" "_law_labels" (defArgs s__law_labels) (defBody s__law_labels) (defScope s__law_labels) [] [] f fd ∧ mg "_law_labels" = some (.ref f) := by
  exact let ⟨fd, U⟩ := c.t.d.def_ 12 (d := d__law_labels) rfl; ⟨_, fd, U, He.glo_ok X hG (fc_12 c)⟩
theorem fz_u__law_row {hh : Heap} (X : K.In h) (hG : h.Ns mainGlobals mg) (c : He.SaysX fa fn ts tf ex w hh K) (g : G) (h1 : g.K = K) (h2 : g.P = P) (h3 : g.w = w) (h4 : g.ct = ctf K) : ∃ f fd, FunD K "_law_row" "_law_row" (defArgs s__law_row) (defBody s__law_row) (defScope s__law_row) [] [] f fd ∧ mg "_law_row" = some (.ref f) := by
  exact let ⟨fd, U⟩ := c.t.d.def_ 13 (d := d__law_row) rfl; ⟨_, fd, U, He.glo_ok X hG (fc_13 c)⟩
theorem fz_u__law_changed {hh : Heap} (X : K.In h) (hG : h.Ns mainGlobals mg) (c : He.SaysX fa fn ts tf ex w hh K) (g : G) (h1 : g.K = K) (h2 : g.P = P) (h3 : g.w = w) (h4 : g.ct = ctf K) : ∃ f fd, FunD K "_law_changed" "_law_changed" (defArgs s__law_changed) (defBody s__law_changed) (defScope s__law_changed) [] [] f fd ∧ mg "_law_changed" = some (.ref f) := by
  exact let ⟨fd, U⟩ := c.t.d.def_ 14 (d := d__law_changed) rfl; ⟨_, fd, U, He.glo_ok X hG (fc_14 c)⟩
theorem fz_u__law_told {hh : Heap} (X : K.In h) (hG : h.Ns mainGlobals mg) (c : He.SaysX fa fn ts tf ex w hh K) (g : G) (h1 : g.K = K) (h2 : g.P = P) (h3 : g.w = w) (h4 : g.ct = ctf K) : ∃ f fd, FunD K "_law_told" "_law_told" (defArgs s__law_told) (defBody s__law_told) (defScope s__law_told) [] [] f fd ∧ mg "_law_told" = some (.ref f) := by
  exact let ⟨fd, U⟩ := c.t.d.def_ 15 (d := d__law_told) rfl; ⟨_, fd, U, He.glo_ok X hG (fc_15 c)⟩
theorem fx_of {hh : Heap} (X : K.In h) (hG : h.Ns mainGlobals mg) (c : He.SaysX fa fn ts tf ex w hh K) (g : G) (h1 : g.K = K) (h2 : g.P = P) (h3 : g.w = w) (h4 : g.ct = ctf K) : Fx P w K mg base g where
  hK := h1
  hP := h2
  hw := h3
  b_ValueError := fz_b_ValueError X hG c g h1 h2 h3 h4
  b_bool := fz_b_bool X hG c g h1 h2 h3 h4
  b_enumerate := fz_b_enumerate X hG c g h1 h2 h3 h4
  b_int := fz_b_int X hG c g h1 h2 h3 h4
  b_isinstance := fz_b_isinstance X hG c g h1 h2 h3 h4
  b_len := fz_b_len X hG c g h1 h2 h3 h4
  b_list := fz_b_list X hG c g h1 h2 h3 h4
  b_range := fz_b_range X hG c g h1 h2 h3 h4
  b_set := fz_b_set X hG c g h1 h2 h3 h4
  b_sorted := fz_b_sorted X hG c g h1 h2 h3 h4
  b_str := fz_b_str X hG c g h1 h2 h3 h4
  b_tuple := fz_b_tuple X hG c g h1 h2 h3 h4
  c_MOST_LABELS := fz_c_MOST_LABELS X hG c g h1 h2 h3 h4
  c_MOST_SIGNS := fz_c_MOST_SIGNS X hG c g h1 h2 h3 h4
  c_MOST_NUMBER := fz_c_MOST_NUMBER X hG c g h1 h2 h3 h4
  c_LETTERS := fz_c_LETTERS X hG c g h1 h2 h3 h4
  c_FIGURES := fz_c_FIGURES X hG c g h1 h2 h3 h4
  c_ROOT := fz_c_ROOT X hG c g h1 h2 h3 h4
  c_MOST_FIGURES := fz_c_MOST_FIGURES X hG c g h1 h2 h3 h4
  e_BadHouse := fz_e_BadHouse X hG c g h1 h2 h3 h4
  e_BadName := fz_e_BadName X hG c g h1 h2 h3 h4
  e_BadNumber := fz_e_BadNumber X hG c g h1 h2 h3 h4
  e_NotHome := fz_e_NotHome X hG c g h1 h2 h3 h4
  e_BadCut := fz_e_BadCut X hG c g h1 h2 h3 h4
  e_Full := fz_e_Full X hG c g h1 h2 h3 h4
  x_BadTables := fz_x_BadTables X hG c g h1 h2 h3 h4
  x_BadLog := fz_x_BadLog X hG c g h1 h2 h3 h4
  x_BadText := fz_x_BadText X hG c g h1 h2 h3 h4
  kk_BadHouse := fz_kk_BadHouse X hG c g h1 h2 h3 h4
  kk_BadName := fz_kk_BadName X hG c g h1 h2 h3 h4
  kk_BadNumber := fz_kk_BadNumber X hG c g h1 h2 h3 h4
  kk_NotHome := fz_kk_NotHome X hG c g h1 h2 h3 h4
  kk_BadText := fz_kk_BadText X hG c g h1 h2 h3 h4
  kk_BadCut := fz_kk_BadCut X hG c g h1 h2 h3 h4
  kk_Full := fz_kk_Full X hG c g h1 h2 h3 h4
  kk_BadTables := fz_kk_BadTables X hG c g h1 h2 h3 h4
  kk_BadLog := fz_kk_BadLog X hG c g h1 h2 h3 h4
  kk_ValueError := fz_kk_ValueError X hG c g h1 h2 h3 h4
  xf_number := fz_xf_number X hG c g h1 h2 h3 h4
  xf_row := fz_xf_row X hG c g h1 h2 h3 h4
  em := fz_em X hG c g h1 h2 h3 h4
  u_is_between := fz_u_is_between X hG c g h1 h2 h3 h4
  u_is_label := fz_u_is_label X hG c g h1 h2 h3 h4
  u_is_name := fz_u_is_name X hG c g h1 h2 h3 h4
  u_word_of := fz_u_word_of X hG c g h1 h2 h3 h4
  u_written := fz_u_written X hG c g h1 h2 h3 h4
  u_name_of := fz_u_name_of X hG c g h1 h2 h3 h4
  u_number_of := fz_u_number_of X hG c g h1 h2 h3 h4
  u_read := fz_u_read X hG c g h1 h2 h3 h4
  u__law_dice := fz_u__law_dice X hG c g h1 h2 h3 h4
  u__law_next := fz_u__law_next X hG c g h1 h2 h3 h4
  u__law_like := fz_u__law_like X hG c g h1 h2 h3 h4
  u__law_name := fz_u__law_name X hG c g h1 h2 h3 h4
  u__law_labels := fz_u__law_labels X hG c g h1 h2 h3 h4
  u__law_row := fz_u__law_row X hG c g h1 h2 h3 h4
  u__law_changed := fz_u__law_changed X hG c g h1 h2 h3 h4
  u__law_told := fz_u__law_told X hG c g h1 h2 h3 h4
theorem nolist_of (c : He.SaysX fa fn ts tf ex w h K) : ∀ a o, K.lookup a = some o → o.cls ≠ .type "list" := fun a o e z => by
  have q := List.all_eq_true.mp (mo_115 c.more) (a, o) (He.lookup_mem e)
  simp [z] at q
end
abbrev R : PySem.W.OpenRow := PySem.W.OpenLaw.row PySem.Challenge.rw_headbook_k10_texts
abbrev hk : PySem.W.Hook := CL.hookZ 8 fa fn ts tf ex
def ob (s : PySem.W.SharedT) : He.AlX := CL.obsZ 8 fa fn ts tf ex (HandSHeadRun.getT s)
theorem ob_eq (s : PySem.W.SharedT) : ob s = hk.obs s.abs := CL.obsZ_eq (HandSHeadRun.getT_eq s)
set_option maxHeartbeats 0 in
theorem run (w : World) : HandSHeadRun.RunEq R (PySem.W.view R.prog [37]) hk ob 20000 loose w := by
  refine PySem.W.byRow2 "special-get-raises" (P := fun w => HandSHeadRun.RunEq R (PySem.W.view R.prog [37]) hk ob 20000 loose w) (fun w os => ?_) (fun w os => ?_) w
  · kernel_rfl
  · kernel_rfl
theorem law_at (w : World) (mg : Str → Option Value) (fa' : Addr) (h : Heap) (math : ∀ ns : List Int, ns.length ≤ 63 → ∃ h, fn_law [.lst (ns.map PV.int)] [.tbl] = .ok (.pv (.bl true)) h) (Y : hk.says w h) (G : h.Ns mainGlobals mg) (hmg : mg "law" = some (.ref fa')) :
    ∃ K : PySem.W.Frag, K.In h ∧ LamX.LawAtS PySem.Challenge.rw_headbook_k10_texts w K (L2.CX PySem.Challenge.pw_headbook_k10_texts w) 14 63 "_law_script" mg fa' h := by
  obtain ⟨K, X, c⟩ := Y
  refine ⟨K, X, ?_⟩
  obtain ⟨fd, U⟩ := c.t.d.def_ 16 (d := d_law) rfl
  have eg := hmg.symm.trans (He.glo_ok X G (fc_16 c))
  cases eg
  obtain ⟨oc, od, dV, kV, doc, pm, an, cdv, cto, osl, efd, lk, hcd, hD, hKw⟩ := U.ex
  have edV : dV = .none := by
    rcases hD with ⟨_, e⟩ | ⟨e, _⟩
    · exact e
    · exact absurd rfl e
  subst edV
  obtain ⟨cc, rfl⟩ := He.codeIn_ref hcd
  subst efd
  have ec : He.codeOf K ("law", none) = cc := He.codeOf_eq lk rfl
  refine ⟨PySem.W.fnOf "law" "law" (defArgs s_law) (defBody s_law) (defScope s_law) .none kV doc pm an (.ref cc) cto, [He.cT K ("law", none)], spLaw K (He.cT K ("law", none)).2, ?_, ?_, ?_, ?_, ?_, ?_⟩
  · intro p hp
    rw [List.mem_singleton] at hp
    subst hp
    exact c.empty _ (by decide)
  · intro p hp
    rw [List.mem_singleton] at hp
    subst hp
    exact c.out _ (by decide)
  · intro p hp
    rw [List.mem_singleton] at hp
    subst hp
    exact PySem.W.codeHd_of_K X (c.hd _ (by decide))
  · exact fun s u => .of_eq rfl
  · intro H a ns hl _ hT hS
    exact ⟨a, ns, rfl, hS, hl, hT _ (List.mem_singleton.mpr rfl), fun _ => rfl⟩
  · intro base hKb hmb hTB
    have TB := hTB _ (List.mem_singleton.mpr rfl)
    have e1 : (He.cT K ("law", none)).1 = cc := ec
    rw [e1] at TB
    exact ok_law (ct := ctf K) (fun g h1 h2 h3 h4 => fx_of hKb hmb c g h1 h2 h3 h4) lk hcd TB (nolist_of c) math
end K10
open PySem PySem.W PySem.Calls PyProof.Rows
set_option maxHeartbeats 0 in
theorem K10.holds_of (math : ∀ ns : List Int, ns.length ≤ 63 → ∃ h, K10.fn_law [.lst (ns.map CL.PV.int)] [.tbl] = .ok (.pv (.bl true)) h) : PySem.Challenge.rw_headbook_k10_texts.Holds := by
  w_on; o_law
  refine HandSHeadRun.head_any (r := OpenLaw.row PySem.Challenge.rw_headbook_k10_texts) (q := view (OpenLaw.row PySem.Challenge.rw_headbook_k10_texts).prog [37]) (H := K10.hk) (ob := K10.ob) (M := 20000) (loose := K10.loose) (d := HandSHeadRun.topDef (OpenLaw.row PySem.Challenge.rw_headbook_k10_texts).prog 37) (kwd := []) K10.ob_eq
    (by kernel_rfl) (fun s => by kernel_rfl) K10.run (by kernel_rfl) (by kernel_rfl) (by kernel_rfl) (by rfl) (by first | assumption | decide +kernel) (by decide +kernel) ⟨rfl, rfl, rfl, rfl, rfl, by decide +kernel⟩ ?hw ?hc
  case hw => w_witness2
  case hc =>
    refine LamX.walk_ofTsE (l := PySem.Challenge.rw_headbook_k10_texts) (n := 63) (k := 14) (x := "_law_script") (CX := fun w => L2.CX PySem.Challenge.pw_headbook_k10_texts w) rfl (by decide) (by kernel_rfl) ⟨rfl, by decide, by decide⟩ ?F (fun w H s e s' z => CL.cx_never z)
    intro w mg fa h Y G hmg0
    have hmg : mg ("law" : PySem.Str) = some (.ref fa) := by
      have e : (HandSHeadRun.topDef (OpenLaw.row PySem.Challenge.rw_headbook_k10_texts).prog 37).name = ("law" : PySem.Str) := by kernel_rfl
      rw [← e]
      exact hmg0
    exact K10.law_at w mg fa h math Y G hmg

open PySem PySem.W PyProof.Rows
theorem PySem.Challenge.cw_headbook_k10_texts_holds : PySem.Challenge.rw_headbook_k10_texts.Holds :=
  K10.holds_of fun ns h => K10.math ns h

