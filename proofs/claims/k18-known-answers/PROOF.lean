import PyProof.Rows.All
import Wide.All
import OpenK.AllK
import Wide.FinOn
import HandS.ForMost
import HandS.ForExc
import HandS.CallSlots
import KE.KDictKeyed
import HandS.TupAny
import HandS.TupMul
import HandS.Deep
import HandS.IsInst
import HandS.Style
import KE.KDictWalk
import KE.SortKeyHeap
import KE.KDictCopyH
import HandS.SortKw
import HandS.ExcValue
import HandS.ExcInit
import HandS.ExcField
import HandS.TryOnly
import HandS.SlotsOwn
import HandS.Strs
import PyProof.NeKinds
import KE.KDictDisplayH
import HandS.DictComp
import HandS.HeadHook1
import HandS.HeadHook2
import HandS.Head0
import HandS.Head1
import HandS.Head2
import HandS.HeadEnd
import HandS.HeadNt
import KE.GoesMore
import KE.DataCmp
import PyProof.P3Eq
import PySem.Challenge.RW_lednames_k18_known_answers
set_option Elab.async false
set_option linter.all false
set_option maxRecDepth 100000
set_option maxHeartbeats 4000000
/-! LedCore: abstract values, the abstract heap, how they are borne by the hand layer's heap, the judgements. -/
namespace Led
open PySem L2

/-- an abstract value: tuples and finished records are plain data, what may change is a number into the abstract heap -/
inductive D where
  | non | bl (b : Bool) | int (i : Int) | str (x : Str) | tup (ds : List D) | obj (c : Nat) (fs : List (Str × D)) | ref (n : Nat) | ty (n : String) | cls (c : Nat)
deriving Inhabited

/-- where the classes of the text stand, and the world (for hashes) -/
structure CTab where
  ad : Nat → Addr
  w : World

inductive AO where
  | lst (xs : List D) | fls (xs : List D) | dic (kvs : List (D × D)) | fdc (kvs : List (D × D)) | ins (c : Nat) (fs : List (Str × D)) | gone
deriving Inhabited
abbrev AH := List AO
abbrev AEnv := List (Option D)
abbrev Mp := List (Option Addr)

section
variable (K : PySem.W.Frag) (ct : CTab) (m : Mp) (H : Hp)
mutual
inductive Rep : D → V → Prop
  | non : Rep .non .non
  | bl {b} : Rep (.bl b) (.bl b)
  | int {i} : Rep (.int i) (.int i)
  | str {x} : Rep (.str x) (.str x)
  | tup {ds a vs} : SqT K H a vs → RepL ds vs → Rep (.tup ds) (.ref a)
  | obj {c fs a dx vs} : H a = some (.ins (ct.ad c) dx vs) → some a ∉ m → RepF fs vs → Rep (.obj c fs) (.ref a)
  | ref {n a} : m[n]? = some (some a) → Rep (.ref n) (.ref a)
  | lost {n v} : m[n]? = some none → Rep (.ref n) v
  | ty {n} : Rep (.ty n) (.ty n)
  | cls {c} : Rep (.cls c) (.ref (ct.ad c))
inductive RepL : List D → List V → Prop
  | nil : RepL [] []
  | cons {d v ds vs} : Rep d v → RepL ds vs → RepL (d :: ds) (v :: vs)
inductive RepF : List (Str × D) → List (Str × V) → Prop
  | nil : RepF [] []
  | cons {x d v ds vs} : Rep d v → RepF ds vs → RepF ((x, d) :: ds) ((x, v) :: vs)
end
end

/-! ### dicts -/
mutual
/-- a key as the model's hash sees it -/
def nkOf : D → Option NestedKey
  | .non => some .none
  | .bl b => some (.num (if b = true then 1 else 0))
  | .int i => some (.num i)
  | .str x => some (.text x)
  | .tup ds => (nkAll ds).map .tup
  | _ => none
def nkAll : List D → Option (List NestedKey)
  | [] => some []
  | d :: ds => match nkOf d, nkAll ds with
    | some k, some ks => some (k :: ks)
    | _, _ => none
end
/-- a dict by its very entries -/
def rawD (a : Addr) (es : List DictEntry) : HO := .ext fun h => (a == sysModules) = false ∧ es.length ≤ sizeLine ∧ ∃ o ep, h.get? a = some o ∧ o.ExactDict ∧ o.data = .dict es.toArray ep
structure EnR (K : PySem.W.Frag) (ct : CTab) (m : Mp) (H : Hp) (p : D × D) (e : DictEntry) : Prop where
  hash : ∃ k, nkOf p.1 = some k ∧ e.hash = k.hash ct.w ∧ k.depth ≤ 8
  key : ∃ v, RelV v e.key ∧ Rep K ct m H p.1 v
  val : ∃ v, RelV v e.val ∧ Rep K ct m H p.2 v
abbrev DRep (K : PySem.W.Frag) (ct : CTab) (m : Mp) (H : Hp) : List (D × D) → List DictEntry → Prop := Paired (EnR K ct m H)

/-- what stands at a living number -/
def ORep (K : PySem.W.Frag) (ct : CTab) (m : Mp) (H : Hp) (a : Addr) : AO → Prop
  | .lst xs => ∃ vs, H a = some (.lst vs) ∧ RepL K ct m H xs vs
  | .fls xs => ∃ o vs, H a = some (.frz o (.lst vs)) ∧ RepL K ct m H xs vs
  | .dic kvs => ∃ es, H a = some (rawD a es) ∧ DRep K ct m H kvs es ∧ (kvs.map fun p => nkOf p.1).Nodup
  | .fdc kvs => ∃ o es ep, H a = some (.frz o (rawD a es)) ∧ o.data = .dict es.toArray ep ∧ DRep K ct m H kvs es ∧ (kvs.map fun p => nkOf p.1).Nodup
  | .ins c fs => ∃ dx vs, H a = some (.ins (ct.ad c) dx vs) ∧ RepF K ct m H fs vs
  | .gone => False

structure HR (K : PySem.W.Frag) (ct : CTab) (m : Mp) (h : AH) (H : Hp) : Prop where
  len : m.length = h.length
  gone : ∀ (n : Nat), h[n]? = some AO.gone → m[n]? = some none
  obj : ∀ (n : Nat) o, h[n]? = some o → o ≠ AO.gone → ∃ a, m[n]? = some (some a) ∧ ORep K ct m H a o
  inj : ∀ (n n' : Nat) (a : Addr), m[n]? = some (some a) → m[n']? = some (some a) → n = n'

structure Ext0 (m : Mp) (H : Hp) (m' : Mp) (H' : Hp) : Prop where
  tup : ∀ a xs, Rd H a (.tup xs) → Rd H' a (.tup xs)
  fix : ∀ a o, H a = some o → some a ∉ m → H' a = some o ∧ some a ∉ m'
  ref : ∀ (n : Nat) x, m[n]? = some x → m'[n]? = some x ∨ m'[n]? = some none
structure Ext (m : Mp) (H : Hp) (m' : Mp) (H' : Hp) : Prop extends Ext0 m H m' H' where
  frz : ∀ a o u, H a = some (.frz o u) → H' a = some (.frz o u)

theorem Ext0.refl (m : Mp) (H : Hp) : Ext0 m H m H := ⟨fun _ _ h => h, fun _ _ h h' => ⟨h, h'⟩, fun _ _ h => .inl h⟩
theorem Ext0.trans {m m1 m2 : Mp} {H H1 H2 : Hp} (a : Ext0 m H m1 H1) (b : Ext0 m1 H1 m2 H2) : Ext0 m H m2 H2 where
  tup := fun x xs h => b.tup x xs (a.tup x xs h)
  fix := fun x o h n => let ⟨h1, n1⟩ := a.fix x o h n; b.fix x o h1 n1
  ref := fun n x h => by
    rcases a.ref n x h with e | e
    · exact b.ref n x e
    · rcases b.ref n _ e with e' | e'
      · exact .inr e'
      · exact .inr e'
theorem Ext.refl (m : Mp) (H : Hp) : Ext m H m H := ⟨Ext0.refl m H, fun _ _ _ h => h⟩
theorem Ext.trans {m m1 m2 : Mp} {H H1 H2 : Hp} (a : Ext m H m1 H1) (b : Ext m1 H1 m2 H2) : Ext m H m2 H2 := ⟨a.toExt0.trans b.toExt0, fun x o u h => b.frz x o u (a.frz x o u h)⟩

section
variable {K : PySem.W.Frag} {ct : CTab} {m m' : Mp} {H H' : Hp}
theorem SqT.ext0 (e : Ext0 m H m' H') {a : Addr} {vs : List V} (h : SqT K H a vs) : SqT K H' a vs := by
  rcases h with h | h
  · exact .inl (e.tup a vs h)
  · exact .inr h
mutual
theorem Rep.ext0 (e : Ext0 m H m' H') : ∀ {d : D} {v : V}, Rep K ct m H d v → Rep K ct m' H' d v
  | _, _, .non => .non
  | _, _, .bl => .bl
  | _, _, .int => .int
  | _, _, .str => .str
  | _, _, .ty => .ty
  | _, _, .cls => .cls
  | _, _, .tup s r => .tup (SqT.ext0 e s) (RepL.ext0 e r)
  | _, _, .obj h n r => let ⟨h1, n1⟩ := e.fix _ _ h n; .obj h1 n1 (RepF.ext0 e r)
  | _, _, .ref h => by
    rcases e.ref _ _ h with q | q
    · exact .ref q
    · exact .lost q
  | _, _, .lost h => by
    rcases e.ref _ _ h with q | q
    · exact .lost q
    · exact .lost q
theorem RepL.ext0 (e : Ext0 m H m' H') : ∀ {ds : List D} {vs : List V}, RepL K ct m H ds vs → RepL K ct m' H' ds vs
  | _, _, .nil => .nil
  | _, _, .cons r t => .cons (Rep.ext0 e r) (RepL.ext0 e t)
theorem RepF.ext0 (e : Ext0 m H m' H') : ∀ {ds : List (Str × D)} {vs : List (Str × V)}, RepF K ct m H ds vs → RepF K ct m' H' ds vs
  | _, _, .nil => .nil
  | _, _, .cons r t => .cons (Rep.ext0 e r) (RepF.ext0 e t)
end
theorem SqT.ext (e : Ext m H m' H') {a : Addr} {vs : List V} (h : SqT K H a vs) : SqT K H' a vs := SqT.ext0 e.toExt0 h
theorem Rep.ext (e : Ext m H m' H') {d : D} {v : V} (r : Rep K ct m H d v) : Rep K ct m' H' d v := r.ext0 e.toExt0
theorem RepL.ext (e : Ext m H m' H') {d : List D} {v : List V} (r : RepL K ct m H d v) : RepL K ct m' H' d v := r.ext0 e.toExt0
theorem RepF.ext (e : Ext m H m' H') {d : List (Str × D)} {v : List (Str × V)} (r : RepF K ct m H d v) : RepF K ct m' H' d v := r.ext0 e.toExt0
end

/-! ### results -/
structure Exc where
  c : Nat
  fs : List (Str × D)
inductive Res (α : Type) where
  | ok (a : α) (h : AH) | exc (x : Exc) (h : AH) | stuck
def Res.bind {α β : Type} (r : Res α) (f : α → AH → Res β) : Res β := match r with
  | .ok a h => f a h
  | .exc x h => .exc x h
  | .stuck => .stuck
abbrev AE := AEnv → AH → Res D
abbrev AT := AEnv → AH → Res Bool
abbrev AA := AEnv → AH → Res (List D)

def EnvR (K : PySem.W.Frag) (ct : CTab) (m : Mp) (H : Hp) (A : AEnv) (σ : St) : Prop :=
  A.length = σ.length ∧ ∀ (i : Nat) d, A[i]? = some (some d) → ∃ v, σ[i]? = some (some v) ∧ Rep K ct m H d v
theorem EnvR.ext0 {K : PySem.W.Frag} {ct : CTab} {m m' : Mp} {H H' : Hp} {A : AEnv} {σ : St} (e : Ext0 m H m' H') (h : EnvR K ct m H A σ) : EnvR K ct m' H' A σ :=
  ⟨h.1, fun i d q => let ⟨v, a, b⟩ := h.2 i d q; ⟨v, a, b.ext0 e⟩⟩
theorem EnvR.ext {K : PySem.W.Frag} {ct : CTab} {m m' : Mp} {H H' : Hp} {A : AEnv} {σ : St} (e : Ext m H m' H') (h : EnvR K ct m H A σ) : EnvR K ct m' H' A σ :=
  ⟨h.1, fun i d q => let ⟨v, a, b⟩ := h.2 i d q; ⟨v, a, b.ext e⟩⟩
/-- an exception in the air: its class, the fields in its own dict -/
def XRep (K : PySem.W.Frag) (ct : CTab) (m : Mp) (H : Hp) (x : Exc) (cls : Value) (d : Option Addr) : Prop :=
  cls = .ref (ct.ad x.c) ∧ (x.fs = [] ∨ ∃ da vs, d = some da ∧ H da = some (.xd vs) ∧ some da ∉ m ∧ RepF K ct m H x.fs vs)

section
variable (K : PySem.W.Frag) (ct : CTab)
def Post {α : Type} (m : Mp) (H : Hp) (W : WX) (σ : St) (r : Res α) (P : α → Mp → AH → Hp → Prop) : Prop := match r with
  | .ok a h' => ∀ m' H', Ext m H m' H' → HR K ct m' h' H' → P a m' h' H'
  | .exc x h' => ∀ m' H' cls d, Ext m H m' H' → HR K ct m' h' H' → XRep K ct m' H' x cls d → W cls d σ H'
  | .stuck => False
end
section
variable {K : PySem.W.Frag} {ct : CTab} {α β : Type} {m : Mp} {H : Hp} {W : WX} {σ : St}
theorem Post.bind {r : Res α} {f : α → AH → Res β} {P : β → Mp → AH → Hp → Prop} (h : Post K ct m H W σ (r.bind f) P) :
    Post K ct m H W σ r (fun a m1 h1 H1 => Post K ct m1 H1 W σ (f a h1) P) := by
  cases r with
  | ok a h1 =>
    intro m1 H1 e hr
    show Post K ct m1 H1 W σ (f a h1) P
    have q : Post K ct m H W σ (f a h1) P := h
    cases hf : f a h1 with
    | ok b h2 =>
      rw [hf] at q
      exact fun m2 H2 e2 r2 => q m2 H2 (e.trans e2) r2
    | exc x h2 =>
      rw [hf] at q
      exact fun m2 H2 cls d e2 r2 xr => q m2 H2 cls d (e.trans e2) r2 xr
    | stuck => rw [hf] at q; exact q
  | exc x h1 => exact h
  | stuck => exact h
theorem Post.imp {r : Res α} {P Q : α → Mp → AH → Hp → Prop} (h : Post K ct m H W σ r P) (q : ∀ a m' h' H', Ext m H m' H' → HR K ct m' h' H' → P a m' h' H' → Q a m' h' H') : Post K ct m H W σ r Q := by
  cases r with
  | ok a h1 => exact fun m' H' e hr => q a m' h1 H' e hr (h m' H' e hr)
  | exc x h1 => exact h
  | stuck => exact h
/-- nothing has moved -/
theorem Post.here {a : α} {h : AH} {P : α → Mp → AH → Hp → Prop} (q : Post K ct m H W σ (.ok a h) P) (hr : HR K ct m h H) : P a m h H := q m H (Ext.refl m H) hr
end

theorem Post.val {K : PySem.W.Frag} {ct : CTab} {m : Mp} {H : Hp} {W : WX} {σ : St} {d : D} {h : AH} {Q : VK} {v : V} (q : Post K ct m H W σ (.ok d h) fun d m' _ H' => ∀ v, Rep K ct m' H' d v → Q v H') (hr : HR K ct m h H) (r : Rep K ct m H d v) : Q v H :=
  q m H (Ext.refl m H) hr v r

/-! ### the judgements -/
def RE (K : PySem.W.Frag) (ct : CTab) (W : WX) (f : AE) : TE := fun σ H Q => ∃ m A h, HR K ct m h H ∧ EnvR K ct m H A σ ∧
  Post K ct m H W σ (f A h) fun d m' _ H' => ∀ v, Rep K ct m' H' d v → Q v H'
def RT (K : PySem.W.Frag) (ct : CTab) (W : WX) (f : AT) : TT := fun σ H Q => ∃ m A h, HR K ct m h H ∧ EnvR K ct m H A σ ∧
  Post K ct m H W σ (f A h) fun b _ _ H' => Q b H'
def RA (K : PySem.W.Frag) (ct : CTab) (W : WX) (f : AA) : TA := fun σ H Q => ∃ m A h, HR K ct m h H ∧ EnvR K ct m H A σ ∧
  Post K ct m H W σ (f A h) fun ds m' _ H' => ∀ vs, RepL K ct m' H' ds vs → Q vs H'
/-- an expression means f; what it raises goes as the wish W, which the context takes -/
def SE (ct : CTab) (X : Cx) (W : WX) (e : Expr) (f : AE) : Prop := PE X e (RE X.K ct W f)
def ST (ct : CTab) (X : Cx) (W : WX) (e : Expr) (f : AT) : Prop := PT X e (RT X.K ct W f)
def SA (ct : CTab) (X : Cx) (W : WX) (es : List Expr) (f : AA) : Prop := PA X es (RA X.K ct W f)

theorem PE.imp {X : Cx} {e : Expr} {t t' : TE} (h : PE X e t) (q : ∀ σ H Q, t' σ H Q → t σ H Q) : PE X e t' := ⟨fun pins s σ H Q I z => h.run pins s σ H Q I (q σ H Q z)⟩
theorem PT.imp {X : Cx} {e : Expr} {t t' : TT} (h : PT X e t) (q : ∀ σ H Q, t' σ H Q → t σ H Q) : PT X e t' := ⟨fun pins s σ H Q I z => h.run pins s σ H Q I (q σ H Q z)⟩
theorem PA.imp {X : Cx} {e : List Expr} {t t' : TA} (h : PA X e t) (q : ∀ σ H Q, t' σ H Q → t σ H Q) : PA X e t' := ⟨fun pos pins s σ H Q I z => h.run pos pins s σ H Q I (q σ H Q z)⟩
theorem PS.imp {X : Cx} {e : Stmt} {t t' : TS} (h : PS X e t) (q : ∀ D σ H, t' D σ H → t D σ H) : PS X e t' := ⟨fun pins s σ H D I z => h.run pins s σ H D I (q D σ H z)⟩
theorem PSs.imp {X : Cx} {e : List Stmt} {t t' : TS} (h : PSs X e t) (q : ∀ D σ H, t' D σ H → t D σ H) : PSs X e t' := ⟨fun pins s σ H D I z => h.run pins s σ H D I (q D σ H z)⟩

/-! ### names, constants -/
def eVar (i : Nat) : AE := fun A h => match A[i]? with
  | some (some d) => .ok d h
  | _ => .stuck
def eC (d : D) : AE := fun _ h => .ok d h
section
variable {ct : CTab} {X : Cx} {W : WX}
theorem se_var (i : Nat) {x : Str} {pos : Pos} (hN : X.N[i]? = some x := by rfl) (hv : Vis X.env.scope x := by first | exact Or.inl rfl | exact Or.inr (Or.inl rfl) | exact Or.inr (Or.inr rfl)) (hd : (x == ("__debug__" : Str)) = false := by decide)
    (hcd : (x == ("__classdict__" : Str)) = false := by decide) : SE ct X W (.Name x pos) (eVar i) :=
  PE.imp (pe_var hN hv hd hcd) fun σ H Q ⟨m, A, h, hr, en, po⟩ => by
    unfold eVar at po
    cases e : A[i]? with
    | none => rw [e] at po; exact po.elim
    | some o =>
      cases o with
      | none => rw [e] at po; exact po.elim
      | some d =>
        rw [e] at po
        obtain ⟨v, hv, r⟩ := en.2 i d e
        exact ⟨v, hv, po.here hr v r⟩
theorem se_const {e : Expr} {v : V} {d : D} (h : PE X e (tC v)) (r : ∀ m H, Rep X.K ct m H d v) : SE ct X W e (eC d) :=
  PE.imp h fun σ H Q ⟨m, A, h, hr, en, po⟩ => (show Post X.K ct m H W σ (.ok d h) _ from po).here hr v (r m H)
theorem se_int {i j pos} : SE ct X W (.Constant (.int i) j pos) (eC (.int i)) := se_const pe_int fun _ _ => .int
theorem se_bl {b j pos} : SE ct X W (.Constant (.bool b) j pos) (eC (.bl b)) := se_const pe_bl fun _ _ => .bl
theorem se_non {j pos} : SE ct X W (.Constant .none j pos) (eC .non) := se_const pe_non fun _ _ => .non
theorem se_str {x j pos} : SE ct X W (.Constant (.str x) j pos) (eC (.str x)) := se_const pe_str fun _ _ => .str
end

/-! ### operators -/
def eBin (op : D → D → AH → Res D) (fa fb : AE) : AE := fun A h => (fa A h).bind fun x h1 => (fb A h1).bind fun y h2 => op x y h2
def eUn (op : D → AH → Res D) (fa : AE) : AE := fun A h => (fa A h).bind fun x h1 => op x h1
/-- what the rule r asks is what the abstract operator gives -/
def OpS (K : PySem.W.Frag) (ct : CTab) (r : R2) (op : D → D → AH → Res D) : Prop := ∀ m H h x y vx vy Q W σ, HR K ct m h H → Rep K ct m H x vx → Rep K ct m H y vy →
  Post K ct m H W σ (op x y h) (fun d m' _ H' => ∀ v, Rep K ct m' H' d v → Q v H') → r vx vy H Q
def UnS (K : PySem.W.Frag) (ct : CTab) (r : V → Hp → VK → Prop) (op : D → AH → Res D) : Prop := ∀ m H h x vx Q W σ, HR K ct m h H → Rep K ct m H x vx →
  Post K ct m H W σ (op x h) (fun d m' _ H' => ∀ v, Rep K ct m' H' d v → Q v H') → r vx H Q
section
variable {ct : CTab} {X : Cx} {W : WX} {a b : Expr} {fa fb : AE} {r : R2} {op : D → D → AH → Res D} {pos : Pos}
theorem bin_imp {σ : St} {H : Hp} {Q : VK} (hs : OpS X.K ct r op) (h : RE X.K ct W (eBin op fa fb) σ H Q) : tOp r (RE X.K ct W fa) (RE X.K ct W fb) σ H Q := by
  obtain ⟨m, A, h, hr, en, po⟩ := h
  refine ⟨m, A, h, hr, en, po.bind.imp fun x m1 h1 H1 e1 r1 p1 vx rx => ⟨m1, A, h1, r1, en.ext e1, (Post.bind p1).imp fun y m2 h2 H2 e2 r2 p2 vy ry => ?_⟩⟩
  exact hs m2 H2 h2 x y vx vy Q W σ r2 (rx.ext e2) ry p2
theorem se_bin {o : Operator} (ho : OpR X (binaryOp o) r) (hs : OpS X.K ct r op) (ha : SE ct X W a fa) (hb : SE ct X W b fb) : SE ct X W (.BinOp a o b pos) (eBin op fa fb) :=
  PE.imp (pe_op ho ha hb) fun _ _ _ h => bin_imp hs h
theorem se_cmp {o : CmpOp} (ho : OpR X (compareOp o) r) (hs : OpS X.K ct r op) (ha : SE ct X W a fa) (hb : SE ct X W b fb) (hm : behindInMarks o b = false := by first | exact nomark _ | rfl) : SE ct X W (.Compare a [o] [b] pos) (eBin op fa fb) :=
  PE.imp (pe_cmpR ho ha hb hm) fun _ _ _ h => bin_imp hs h
theorem se_un {o : UnaryOp} {r : V → Hp → VK → Prop} {op : D → AH → Res D} (ho : UnR X (unaryOp o) r) (hs : UnS X.K ct r op) (ha : SE ct X W a fa) : SE ct X W (.UnaryOp o a pos) (eUn op fa) :=
  PE.imp (pe_un ho ha) fun σ H Q ⟨m, A, h, hr, en, po⟩ => ⟨m, A, h, hr, en, po.bind.imp fun x m1 h1 H1 e1 r1 p1 vx rx => hs m1 H1 h1 x vx Q W σ r1 rx p1⟩
end

/-! ### tests -/
def toB : D → AH → Res Bool := fun d h => match d with
  | .bl b => .ok b h
  | _ => .stuck
def tE (f : AE) : AT := fun A h => (f A h).bind toB
def tAndA (f g : AT) : AT := fun A h => (f A h).bind fun b h1 => match b with
  | true => g A h1
  | false => .ok false h1
def tOrA (f g : AT) : AT := fun A h => (f A h).bind fun b h1 => match b with
  | true => .ok true h1
  | false => g A h1
def tNotA (f : AT) : AT := fun A h => (f A h).bind fun b h1 => .ok (!b) h1
def eIfA (c : AT) (f g : AE) : AE := fun A h => (c A h).bind fun b h1 => match b with
  | true => f A h1
  | false => g A h1
def eAndA (f g : AE) : AE := fun A h => (f A h).bind fun d h1 => match d with
  | .bl true => g A h1
  | .bl false => .ok (.bl false) h1
  | _ => .stuck
def eOrA (f g : AE) : AE := fun A h => (f A h).bind fun d h1 => match d with
  | .bl true => .ok (.bl true) h1
  | .bl false => g A h1
  | _ => .stuck
def eNotA (f : AE) : AE := fun A h => (f A h).bind fun d h1 => match d with
  | .bl b => .ok (.bl (!b)) h1
  | _ => .stuck
section
variable {ct : CTab} {X : Cx} {W : WX} {a b c : Expr} {fa fb : AE} {ta tb : AT} {rest : List Expr} {pos : Pos}
theorem toB_imp {K : PySem.W.Frag} {m : Mp} {H : Hp} {σ : St} {d : D} {h : AH} {P : Bool → Mp → AH → Hp → Prop} (hr : HR K ct m h H) (p : Post K ct m H W σ (toB d h) P) : ∃ b, d = .bl b ∧ P b m h H := by
  cases d with
  | bl b => exact ⟨b, rfl, (show Post K ct m H W σ (.ok b h) P from p).here hr⟩
  | _ => exact (show False from p).elim
theorem Rep.blv {K : PySem.W.Frag} {m : Mp} {H : Hp} {b : Bool} {v : V} (r : Rep K ct m H (.bl b) v) : v = .bl b := by cases r; rfl
theorem Rep.intv {K : PySem.W.Frag} {m : Mp} {H : Hp} {b : Int} {v : V} (r : Rep K ct m H (.int b) v) : v = .int b := by cases r; rfl
theorem Rep.strv {K : PySem.W.Frag} {m : Mp} {H : Hp} {b : Str} {v : V} (r : Rep K ct m H (.str b) v) : v = .str b := by cases r; rfl
theorem Rep.nonv {K : PySem.W.Frag} {m : Mp} {H : Hp} {v : V} (r : Rep K ct m H .non v) : v = .non := by cases r; rfl
theorem tE_imp {σ : St} {H : Hp} {Q : Bool → Hp → Prop} (z : RT X.K ct W (tE fa) σ H Q) : tB (RE X.K ct W fa) σ H Q := by
  obtain ⟨m, A, h, hr, en, po⟩ := z
  refine ⟨m, A, h, hr, en, po.bind.imp fun d m1 h1 H1 e1 r1 p1 v r => ?_⟩
  obtain ⟨b, rfl, q⟩ := toB_imp r1 p1
  exact ⟨b, r.blv, q⟩
theorem st_val (ha : SE ct X W a fa) (he : ∀ whole, isTrue a X.env whole = (do let v ← whole; standAt a.pos; holding [v] (truthy v)) := by intro _; rfl) : ST ct X W a (tE fa) :=
  PT.imp (pt_val ha he) fun _ _ _ z => tE_imp z
theorem st_cmp {o : CmpOp} {r : R2} {op : D → D → AH → Res D} (ho : OpR X (compareOp o) r) (hs : OpS X.K ct r op) (ha : SE ct X W a fa) (hb : SE ct X W b fb) (hm : behindInMarks o b = false := by first | exact nomark _ | rfl) : ST ct X W (.Compare a [o] [b] pos) (tE (eBin op fa fb)) :=
  PT.imp (pt_cmpR ho ha hb hm) fun σ H Q z => by
    obtain ⟨m, A, h, hr, en, po⟩ := z
    refine ⟨m, A, h, hr, en, ?_⟩
    refine (Post.bind (Post.bind po |>.imp fun d m1 h1 H1 e1 r1 p1 => ?_ : Post X.K ct m H W σ ((fa A h).bind _) (fun d m1 h1 H1 => ∀ v, Rep X.K ct m1 H1 d v → ∃ k, v = .bl k ∧ Q k H1))).imp fun x m1 h1 H1 e1 r1 p1 vx rx => ⟨m1, A, h1, r1, en.ext e1, (Post.bind p1).imp fun y m2 h2 H2 e2 r2 p2 vy ry => ?_⟩
    · intro v r
      obtain ⟨b, rfl, q⟩ := toB_imp r1 p1
      exact ⟨b, r.blv, q⟩
    · exact hs m2 H2 h2 x y vx vy _ W σ r2 (rx.ext e2) ry p2
theorem and_imp {σ : St} {H : Hp} {Q : Bool → Hp → Prop} (z : RT X.K ct W (tAndA ta tb) σ H Q) : tAnd (RT X.K ct W ta) (RT X.K ct W tb) σ H Q := by
  obtain ⟨m, A, h, hr, en, po⟩ := z
  refine ⟨m, A, h, hr, en, po.bind.imp fun d m1 h1 H1 e1 r1 p1 => ?_⟩
  cases d with
  | true => exact ⟨m1, A, h1, r1, en.ext e1, p1⟩
  | false => exact (show Post X.K ct m1 H1 W σ (.ok false h1) _ from p1).here r1
theorem or_imp {σ : St} {H : Hp} {Q : Bool → Hp → Prop} (z : RT X.K ct W (tOrA ta tb) σ H Q) : tOr (RT X.K ct W ta) (RT X.K ct W tb) σ H Q := by
  obtain ⟨m, A, h, hr, en, po⟩ := z
  refine ⟨m, A, h, hr, en, po.bind.imp fun d m1 h1 H1 e1 r1 p1 => ?_⟩
  cases d with
  | false => exact ⟨m1, A, h1, r1, en.ext e1, p1⟩
  | true => exact (show Post X.K ct m1 H1 W σ (.ok true h1) _ from p1).here r1
/-- a chain of and, or, as a test -/
def SW (ct : CTab) (X : Cx) (W : WX) (e : Expr) (f : AT) : Prop := PW X e (RT X.K ct W f)
theorem PW.imp {X : Cx} {e : Expr} {t t' : TT} (h : PW X e t) (q : ∀ σ H Q, t' σ H Q → t σ H Q) : PW X e t' := ⟨fun w pins s σ H Q I z => h.run w pins s σ H Q I (q σ H Q z)⟩
theorem SW.st {e : Expr} (h : SW ct X W e ta) : ST ct X W e ta := PW.pt h
theorem sw_and1 (ha : ST ct X W a ta) : SW ct X W (.BoolOp .And [a] pos) ta := pw_and1 ha
theorem sw_or1 (ha : ST ct X W a ta) : SW ct X W (.BoolOp .Or [a] pos) ta := pw_or1 ha
theorem sw_and (ha : ST ct X W a ta) (hb : SW ct X W (.BoolOp .And (b :: rest) pos) tb) : SW ct X W (.BoolOp .And (a :: b :: rest) pos) (tAndA ta tb) := PW.imp (pw_and ha hb) fun _ _ _ z => and_imp z
theorem sw_or (ha : ST ct X W a ta) (hb : SW ct X W (.BoolOp .Or (b :: rest) pos) tb) : SW ct X W (.BoolOp .Or (a :: b :: rest) pos) (tOrA ta tb) := PW.imp (pw_or ha hb) fun _ _ _ z => or_imp z
theorem st_not (ha : ST ct X W a ta) : ST ct X W (.UnaryOp .Not a pos) (tNotA ta) := PT.imp (pt_not ha) fun σ H Q ⟨m, A, h, hr, en, po⟩ =>
  ⟨m, A, h, hr, en, po.bind.imp fun d m1 h1 H1 e1 r1 p1 => (show Post X.K ct m1 H1 W σ (.ok (!d) h1) _ from p1).here r1⟩
theorem se_if (hc : ST ct X W c ta) (ha : SE ct X W a fa) (hb : SE ct X W b fb) : SE ct X W (.IfExp c a b pos) (eIfA ta fa fb) := PE.imp (pe_ifExp hc ha hb) fun σ H Q ⟨m, A, h, hr, en, po⟩ =>
  ⟨m, A, h, hr, en, po.bind.imp fun d m1 h1 H1 e1 r1 p1 => by
    cases d with
    | true => exact ⟨m1, A, h1, r1, en.ext e1, p1⟩
    | false => exact ⟨m1, A, h1, r1, en.ext e1, p1⟩⟩
theorem se_one {op} (h : SE ct X W a fa) : SE ct X W (.BoolOp op [a] pos) fa := pe_one h
theorem se_and (ha : SE ct X W a fa) (hb : SE ct X W (.BoolOp .And (b :: rest) pos) fb) : SE ct X W (.BoolOp .And (a :: b :: rest) pos) (eAndA fa fb) := PE.imp (pe_and ha hb) fun σ H Q ⟨m, A, h, hr, en, po⟩ =>
  ⟨m, A, h, hr, en, po.bind.imp fun d m1 h1 H1 e1 r1 p1 v r => by
    cases d with
    | bl k =>
      refine ⟨k, r.blv, ?_⟩
      cases k with
      | true => exact ⟨m1, A, h1, r1, en.ext e1, p1⟩
      | false => exact Post.val (d := .bl false) p1 r1 .bl
    | _ => exact (show False from p1).elim⟩
theorem se_or (ha : SE ct X W a fa) (hb : SE ct X W (.BoolOp .Or (b :: rest) pos) fb) : SE ct X W (.BoolOp .Or (a :: b :: rest) pos) (eOrA fa fb) := PE.imp (pe_or ha hb) fun σ H Q ⟨m, A, h, hr, en, po⟩ =>
  ⟨m, A, h, hr, en, po.bind.imp fun d m1 h1 H1 e1 r1 p1 v r => by
    cases d with
    | bl k =>
      refine ⟨k, r.blv, ?_⟩
      cases k with
      | false => exact ⟨m1, A, h1, r1, en.ext e1, p1⟩
      | true => exact Post.val (d := .bl true) p1 r1 .bl
    | _ => exact (show False from p1).elim⟩
theorem se_not (ha : SE ct X W a fa) : SE ct X W (.UnaryOp .Not a pos) (eNotA fa) := PE.imp (pe_not ha) fun σ H Q ⟨m, A, h, hr, en, po⟩ =>
  ⟨m, A, h, hr, en, po.bind.imp fun d m1 h1 H1 e1 r1 p1 v r => by
    cases d with
    | bl k => exact ⟨k, r.blv, Post.val (d := .bl (!k)) p1 r1 .bl⟩
    | _ => exact (show False from p1).elim⟩
end
end Led
/-! LedStmt: statements, loops, targets. -/
namespace Led
open PySem L2

inductive SRes where
  | next (A : AEnv) (h : AH) | ret (d : D) (h : AH) | brk (A : AEnv) (h : AH) | cont (A : AEnv) (h : AH) | exc (x : Exc) (A : AEnv) (h : AH) | stuck
abbrev AS := AEnv → AH → SRes

def SPost (K : PySem.W.Frag) (ct : CTab) (m : Mp) (H : Hp) (W : WX) (D : Ends) : SRes → Prop
  | .next A h => ∀ m' H' σ', Ext m H m' H' → HR K ct m' h H' → EnvR K ct m' H' A σ' → D.nx σ' H'
  | .ret d h => ∀ m' H' v, Ext m H m' H' → HR K ct m' h H' → Rep K ct m' H' d v → D.rt v H'
  | .brk A h => ∀ m' H' σ', Ext m H m' H' → HR K ct m' h H' → EnvR K ct m' H' A σ' → D.bk σ' H'
  | .cont A h => ∀ m' H' σ', Ext m H m' H' → HR K ct m' h H' → EnvR K ct m' H' A σ' → D.ct σ' H'
  | .exc x A h => ∀ m' H' σ' cls d, Ext m H m' H' → HR K ct m' h H' → EnvR K ct m' H' A σ' → XRep K ct m' H' x cls d → W cls d σ' H'
  | .stuck => False
def RS (K : PySem.W.Frag) (ct : CTab) (W : WX) (f : AS) : TS := fun D σ H => ∃ m A h, HR K ct m h H ∧ EnvR K ct m H A σ ∧ SPost K ct m H W D (f A h)
def SS (ct : CTab) (X : Cx) (W : WX) (st : Stmt) (f : AS) : Prop := PS X st (RS X.K ct W f)
def SSs (ct : CTab) (X : Cx) (W : WX) (st : List Stmt) (f : AS) : Prop := PSs X st (RS X.K ct W f)
/-- the context takes what the wish asks, and loops may be left by errors -/
structure CtxOk (X : Cx) (W : WX) : Prop where
  tk : Takes X W
  po : PassesOwn (model X.prog X.w) X.A X.env X.xe

section
variable {K : PySem.W.Frag} {ct : CTab} {m m1 : Mp} {H H1 : Hp} {W : WX} {Z : Ends}
theorem SPost.later {r : SRes} (e : Ext m H m1 H1) (p : SPost K ct m H W Z r) : SPost K ct m1 H1 W Z r := by
  cases r with
  | next A h => exact fun m' H' σ' e' hr en => p m' H' σ' (e.trans e') hr en
  | ret d h => exact fun m' H' v e' hr r => p m' H' v (e.trans e') hr r
  | brk A h => exact fun m' H' σ' e' hr en => p m' H' σ' (e.trans e') hr en
  | cont A h => exact fun m' H' σ' e' hr en => p m' H' σ' (e.trans e') hr en
  | exc x A h => exact fun m' H' σ' cls d e' hr en xr => p m' H' σ' cls d (e.trans e') hr en xr
  | stuck => exact p

/-- an expression's result, then a statement's -/
def Res.toS {α : Type} (A : AEnv) (r : Res α) (f : α → AH → SRes) : SRes := match r with
  | .ok a h => f a h
  | .exc x h => .exc x A h
  | .stuck => .stuck
theorem SPost.ofE {α : Type} {r : Res α} {A : AEnv} {σ : St} {f : α → AH → SRes} (en : EnvR K ct m H A σ) (p : SPost K ct m H W Z (r.toS A f)) : Post K ct m H W σ r (fun a m1 h1 H1 => SPost K ct m1 H1 W Z (f a h1)) := by
  cases r with
  | ok a h1 => exact fun m' H' e hr => (show SPost K ct m H W Z (f a h1) from p).later e
  | exc x h1 => exact fun m' H' cls d e hr xr => p m' H' σ cls d e hr (en.ext e) xr
  | stuck => exact p
theorem EnvR.set {A : AEnv} {σ : St} {d : D} {v : V} (en : EnvR K ct m H A σ) (i : Nat) (r : Rep K ct m H d v) : EnvR K ct m H (A.set i (some d)) (σ.set i (some v)) := by
  refine ⟨by rw [List.length_set, List.length_set]; exact en.1, fun j e h => ?_⟩
  by_cases hj : i = j
  · subst hj
    by_cases hl : i < A.length
    · rw [List.getElem?_set_self hl] at h
      cases h
      exact ⟨v, List.getElem?_set_self (by rw [← en.1]; exact hl), r⟩
    · rw [List.getElem?_eq_none (by rw [List.length_set]; omega)] at h
      cases h
  · rw [List.getElem?_set_ne hj] at h
    obtain ⟨w, q, rw'⟩ := en.2 j e h
    exact ⟨w, by rw [List.getElem?_set_ne hj]; exact q, rw'⟩
theorem EnvR.unset {A : AEnv} {σ : St} (en : EnvR K ct m H A σ) (i : Nat) : EnvR K ct m H (A.set i none) (σ.set i none) := by
  refine ⟨by rw [List.length_set, List.length_set]; exact en.1, fun j e h => ?_⟩
  by_cases hj : i = j
  · subst hj
    by_cases hl : i < A.length
    · rw [List.getElem?_set_self hl] at h
      cases h
    · rw [List.getElem?_eq_none (by rw [List.length_set]; omega)] at h
      cases h
  · rw [List.getElem?_set_ne hj] at h
    obtain ⟨w, q, rw'⟩ := en.2 j e h
    exact ⟨w, by rw [List.getElem?_set_ne hj]; exact q, rw'⟩
end

/-! ### plain statements -/
def sNil : AS := fun A h => .next A h
def sSeq (f g : AS) : AS := fun A h => match f A h with
  | .next A' h' => g A' h'
  | r => r
def sDrop (f : AE) : AS := fun A h => (f A h).toS A fun _ h1 => .next A h1
def sRet (f : AE) : AS := fun A h => (f A h).toS A fun d h1 => .ret d h1
def sRetN : AS := fun _ h => .ret .non h
def sBrk : AS := fun A h => .brk A h
def sCont : AS := fun A h => .cont A h
def sIf (c : AT) (f g : AS) : AS := fun A h => (c A h).toS A fun b h1 => match b with
  | true => f A h1
  | false => g A h1
def sSet (i : Nat) (f : AE) : AS := fun A h => (f A h).toS A fun d h1 => .next (A.set i (some d)) h1

section
variable {ct : CTab} {X : Cx} {W : WX} {st : Stmt} {sts p q : List Stmt} {e c : Expr} {f g : AS} {fe : AE} {tc : AT} {pos : Pos}
theorem sss_nil : SSs ct X W [] sNil := PSs.imp pss_nil fun D σ H ⟨m, A, h, hr, en, po⟩ => po m H σ (Ext.refl m H) hr en
theorem seq_imp {D : Ends} {σ : St} {H : Hp} (z : RS X.K ct W (sSeq f g) D σ H) : tSeq (RS X.K ct W f) (RS X.K ct W g) D σ H := by
  obtain ⟨m, A, h, hr, en, po⟩ := z
  refine ⟨m, A, h, hr, en, ?_⟩
  unfold sSeq at po
  cases e : f A h with
  | next A' h' =>
    rw [e] at po
    exact fun m' H' σ' e' hr' en' => ⟨m', A', h', hr', en', SPost.later e' po⟩
  | ret d h' => rw [e] at po; exact po
  | brk A' h' => rw [e] at po; exact po
  | cont A' h' => rw [e] at po; exact po
  | exc x A' h' => rw [e] at po; exact po
  | stuck => rw [e] at po; exact po
theorem sss_cons (h1 : SS ct X W st f) (h2 : SSs ct X W sts g) : SSs ct X W (st :: sts) (sSeq f g) := PSs.imp (pss_cons h1 h2) fun _ _ _ z => seq_imp z
theorem sss_one (h1 : SS ct X W st f) : SSs ct X W [st] f := pss_one h1
theorem ss_pass : SS ct X W (.Pass pos) sNil := PS.imp ps_pass fun D σ H ⟨m, A, h, hr, en, po⟩ => po m H σ (Ext.refl m H) hr en
theorem ss_break : SS ct X W (.Break pos) sBrk := PS.imp ps_break fun D σ H ⟨m, A, h, hr, en, po⟩ => po m H σ (Ext.refl m H) hr en
theorem ss_cont : SS ct X W (.Continue pos) sCont := PS.imp ps_continue fun D σ H ⟨m, A, h, hr, en, po⟩ => po m H σ (Ext.refl m H) hr en
theorem ss_expr (he : SE ct X W e fe) (hs : swapsWith e none pos.line X.env = pure false := by rfl) : SS ct X W (.Expr e pos) (sDrop fe) := PS.imp (ps_expr he hs) fun D σ H ⟨m, A, h, hr, en, po⟩ =>
  ⟨m, A, h, hr, en, (SPost.ofE en po).imp fun a m1 h1 H1 e1 r1 p1 v _ => p1 m1 H1 σ (Ext.refl m1 H1) r1 (en.ext e1)⟩
theorem ss_ret (he : SE ct X W e fe) : SS ct X W (.Return (some e) pos) (sRet fe) := PS.imp (ps_ret he) fun D σ H ⟨m, A, h, hr, en, po⟩ =>
  ⟨m, A, h, hr, en, (SPost.ofE en po).imp fun a m1 h1 H1 e1 r1 p1 v rv => p1 m1 H1 v (Ext.refl m1 H1) r1 rv⟩
theorem ss_retN : SS ct X W (.Return none pos) sRetN := PS.imp ps_retN fun D σ H ⟨m, A, h, hr, en, po⟩ => po m H .non (Ext.refl m H) hr .non
theorem ss_if (hc : ST ct X W c tc) (ha : SSs ct X W p f) (hb : SSs ct X W q g) : SS ct X W (.If c p q pos) (sIf tc f g) := PS.imp (ps_if hc ha hb) fun D σ H ⟨m, A, h, hr, en, po⟩ =>
  ⟨m, A, h, hr, en, (SPost.ofE en po).imp fun a m1 h1 H1 e1 r1 p1 => by
    cases a with
    | true => exact ⟨m1, A, h1, r1, en.ext e1, p1⟩
    | false => exact ⟨m1, A, h1, r1, en.ext e1, p1⟩⟩
theorem set_imp {D : Ends} {σ : St} {H : Hp} {i : Nat} (z : RS X.K ct W (sSet i fe) D σ H) : tAsg (RE X.K ct W fe) (gName i) D σ H := by
  obtain ⟨m, A, h, hr, en, po⟩ := z
  exact ⟨m, A, h, hr, en, (SPost.ofE en po).imp fun a m1 h1 H1 e1 r1 p1 v rv => p1 m1 H1 _ (Ext.refl m1 H1) r1 ((en.ext e1).set i rv)⟩
theorem ss_set (i : Nat) {x : Str} {pos' : Pos} (he : SE ct X W e fe) (hN : X.N.Nodup) (hi : X.N[i]? = some x := by rfl) (hx : Loc X.env.scope x := by first | exact Or.inl rfl | exact Or.inr rfl)
    (hs : swapsWith e (some (.Name x pos')) pos.line X.env = pure false := by rfl) (hf : X.fn x = true ∨ X.env.scope.names.lookup x = some .local := by first | exact .inl rfl | exact .inr rfl | assumption) :
    SS ct X W (.Assign [.Name x pos'] e pos) (sSet i fe) := PS.imp (ps_set hN hi hx he hs hf) fun _ _ _ z => set_imp z
end

/-! ### while -/
def FUEL : Nat := 1000000000000
def whileN (c : AT) (b : AS) : Nat → AS
  | 0 => fun _ _ => .stuck
  | n + 1 => fun A h => (c A h).toS A fun k h1 => match k with
    | true => match b A h1 with
      | .next A' h' => whileN c b n A' h'
      | .cont A' h' => whileN c b n A' h'
      | .brk A' h' => .next A' h'
      | r => r
    | false => .next A h1
def sWhile (c : AT) (b : AS) : AS := whileN c b FUEL
section
variable {ct : CTab} {X : Cx} {W : WX} {body : List Stmt} {c : Expr} {f : AS} {tc : AT} {pos : Pos}
theorem ss_while (ok : CtxOk X W) (hc : ST ct X W c tc) (hb : SSs ct X W body f) : SS ct X W (.While c body [] pos) (sWhile tc f) := PS.imp (ps_while ok.po hc hb) fun D σ H z => by
  refine ⟨fun n σ H => RS X.K ct W (whileN tc f n) D σ H, ⟨FUEL, z⟩, fun n σ H z => ?_⟩
  obtain ⟨m, A, h, hr, en, po⟩ := z
  cases n with
  | zero => exact (show False from po).elim
  | succ n =>
    refine ⟨m, A, h, hr, en, (SPost.ofE en po).imp fun k m1 h1 H1 e1 r1 p1 => ?_⟩
    cases k with
    | false =>
      rw [if_neg Bool.false_ne_true]
      exact p1 m1 H1 σ (Ext.refl m1 H1) r1 (en.ext e1)
    | true =>
      rw [if_pos rfl]
      refine ⟨fun σ' H' => RS X.K ct W (whileN tc f n) D σ' H', fun σ' H' q => ⟨n, Nat.lt_succ_self n, q⟩, m1, A, h1, r1, en.ext e1, ?_⟩
      dsimp only at p1
      cases e : f A h1 with
      | next A' h' => rw [e] at p1; exact fun m' H' σ' e' hr' en' => ⟨m', A', h', hr', en', SPost.later e' p1⟩
      | cont A' h' => rw [e] at p1; exact fun m' H' σ' e' hr' en' => ⟨m', A', h', hr', en', SPost.later e' p1⟩
      | brk A' h' => rw [e] at p1; exact p1
      | ret d h' => rw [e] at p1; exact p1
      | exc x A' h' => rw [e] at p1; exact p1
      | stuck => rw [e] at p1; exact p1
end

/-! ### targets -/
/-- a target: what becomes of the names -/
abbrev AG := D → AEnv → AH → Option AEnv
def gN (i : Nat) : AG := fun d A _ => some (A.set i (some d))
abbrev AGs := List D → AEnv → AH → Option AEnv
def gsN : AGs := fun ds A _ => match ds with
  | [] => some A
  | _ => none
def gsC (g : AG) (gs : AGs) : AGs := fun ds A h => match ds with
  | d :: r => (g d A h).bind fun A' => gs r A' h
  | _ => none
def gT (n : Nat) (gs : AGs) : AG := fun d A h => match d with
  | .tup ds => if ds.length = n then gs ds A h else none
  | _ => none
/-- all slots but those of ws are as they were -/
def Out (ws : List Nat) (σ σ' : St) : Prop := σ'.length = σ.length ∧ ∀ i, i ∉ ws → σ'[i]? = σ[i]?
theorem Out.trans {ws ws' : List Nat} {σ σ1 σ2 : St} (a : Out ws σ σ1) (b : Out ws' σ1 σ2) : Out (ws ++ ws') σ σ2 :=
  ⟨b.1.trans a.1, fun i hi => (b.2 i fun z => hi (List.mem_append_right _ z)).trans (a.2 i fun z => hi (List.mem_append_left _ z))⟩
def RG (K : PySem.W.Frag) (ct : CTab) (g : AG) (ws : List Nat) : TG := fun v σ H Q => ∃ m A h d, HR K ct m h H ∧ EnvR K ct m H A σ ∧ Rep K ct m H d v ∧ ∃ A', g d A h = some A' ∧ ∀ σ', EnvR K ct m H A' σ' → Out ws σ σ' → Q σ' H
def RGs (K : PySem.W.Frag) (ct : CTab) (g : AGs) (ws : List Nat) : TGs := fun vs σ H Q => ∃ m A h ds, HR K ct m h H ∧ EnvR K ct m H A σ ∧ RepL K ct m H ds vs ∧ ∃ A', g ds A h = some A' ∧ ∀ σ', EnvR K ct m H A' σ' → Out ws σ σ' → Q σ' H
def SG (ct : CTab) (X : Cx) (tg : Expr) (g : AG) (ws : List Nat) : Prop := PG X tg (RG X.K ct g ws)
def SGs (ct : CTab) (X : Cx) (tgs : List Expr) (g : AGs) (ws : List Nat) : Prop := PGs X tgs (RGs X.K ct g ws)
theorem PG.imp {X : Cx} {e : Expr} {t t' : TG} (h : PG X e t) (q : ∀ v σ H Q, t' v σ H Q → t v σ H Q) : PG X e t' := ⟨fun pins s σ H v u Q I r z => h.run pins s σ H v u Q I r (q v σ H Q z)⟩
theorem PGs.imp {X : Cx} {e : List Expr} {t t' : TGs} (h : PGs X e t) (q : ∀ v σ H Q, t' v σ H Q → t v σ H Q) : PGs X e t' := ⟨fun pins s σ H v u Q I r z => h.run pins s σ H v u Q I r (q v σ H Q z)⟩
theorem RepL.length {K : PySem.W.Frag} {ct : CTab} {m : Mp} {H : Hp} : ∀ {ds : List D} {vs : List V}, RepL K ct m H ds vs → ds.length = vs.length
  | _, _, .nil => rfl
  | _, _, .cons _ t => by rw [List.length_cons, List.length_cons, RepL.length t]
section
variable {ct : CTab} {X : Cx} {W : WX} {tg : Expr} {tgs : List Expr} {g : AG} {gs : AGs} {ws ws' : List Nat} {pos : Pos}
theorem sg_name (i : Nat) {x : Str} (hN : X.N.Nodup) (hi : X.N[i]? = some x := by rfl) (hx : Loc X.env.scope x := by first | exact Or.inl rfl | exact Or.inr rfl) (hf : X.fn x = true ∨ X.env.scope.names.lookup x = some .local := by first | exact .inl rfl | exact .inr rfl | assumption) :
    SG ct X (.Name x pos) (gN i) [i] := PG.imp (pg_name hN hi hx hf) fun v σ H Q ⟨m, A, h, d, hr, en, r, A', e, q⟩ => by
  cases e
  exact q _ (en.set i r) ⟨by rw [List.length_set], fun j hj => List.getElem?_set_ne fun z => hj (by rw [← z]; exact List.mem_singleton.mpr rfl)⟩
theorem sgs_nil : SGs ct X [] gsN [] := PGs.imp pgs_nil fun v σ H Q ⟨m, A, h, d, hr, en, r, A', e, q⟩ => by
  cases r with
  | nil =>
    cases e
    exact ⟨rfl, q _ en ⟨rfl, fun _ _ => rfl⟩⟩
  | cons _ _ => cases e
theorem sgs_cons (h1 : SG ct X tg g ws) (h2 : SGs ct X tgs gs ws') (hs : (assignEach (tg :: tgs) X.env).map (·.2) = assign tg X.env :: (assignEach tgs X.env).map (·.2) := by rfl) : SGs ct X (tg :: tgs) (gsC g gs) (ws ++ ws') :=
  PGs.imp (pgs_cons h1 h2 hs) fun v σ H Q ⟨m, A, h, d, hr, en, r, A', e, q⟩ => by
    cases r with
    | nil => cases e
    | @cons d0 v0 ds vs r0 rr =>
      obtain ⟨A1, e1, e2⟩ := Option.bind_eq_some_iff.mp (show (g d0 A h).bind (fun A' => gs ds A' h) = some A' from e)
      exact ⟨v0, vs, rfl, m, A, h, d0, hr, en, r0, A1, e1, fun σ1 en1 o1 => ⟨m, A1, h, ds, hr, en1, rr, A', e2, fun σ' en' o2 => q σ' en' (o1.trans o2)⟩⟩
theorem sg_tup {k n : Nat} (h : SGs ct X tgs gs ws) (hc : X.calm = true := by rfl) (hn : (assignEach tgs X.env).length = n := by rfl) (hst : (assignEach tgs X.env).findIdx? (·.1) = none := by rfl) : SG ct X (.Tuple tgs k pos) (gT n gs) ws :=
  PG.imp (pg_tup hc h hn hst) fun v σ H Q ⟨m, A, h, d, hr, en, r, A', e, q⟩ => by
    cases r with
    | @tup ds a vs s rl =>
      unfold gT at e
      dsimp only at e
      split at e
      · rename_i hl
        exact ⟨a, vs, rfl, s, by rw [← rl.length]; exact hl, m, A, h, ds, hr, en, rl, A', e, q⟩
      · cases e
    | _ => cases e
/-- target = e, by an abstract target -/
def sAsg (g : AG) (f : AE) : AS := fun A h => (f A h).toS A fun d h1 => match g d A h1 with
  | some A' => .next A' h1
  | none => .stuck
theorem ss_asg {e : Expr} {fe : AE} (he : SE ct X W e fe) (hg : SG ct X tg g ws) (hs : swapsWithSole [tg] e pos.line X.env = pure false := by rfl) (hw : swappedStores [tg] e X.env = pure none := by rfl)
    (h1 : (assignEach [tg] X.env).map (·.2) = [assign tg X.env] := by rfl) : SS ct X W (.Assign [tg] e pos) (sAsg g fe) :=
  PS.imp (ps_asg he hg hs hw h1) fun D σ H ⟨m, A, h, hr, en, po⟩ => ⟨m, A, h, hr, en, (SPost.ofE en po).imp fun d m1 h1 H1 e1 r1 p1 v rv => by
    cases q : g d A h1 with
    | none => rw [q] at p1; exact p1.elim
    | some A' =>
      rw [q] at p1
      exact ⟨m1, A, h1, d, r1, en.ext e1, rv, A', q, fun σ' en' _ => p1 m1 H1 σ' (Ext.refl m1 H1) r1 en'⟩⟩
end

/-! ### what is walked -/
inductive Src where
  | list (n : Nat) | tup (ds : List D) | rng (lo : Int) (n : Nat) | str (x : Str) | enum (s : Src) | zip (s t : Src) | keys (n : Nat) | vals (n : Nat) | items (n : Nat)
/-- what comes at turn i: none: not told -/
def Src.nxt (h : AH) (i : Nat) : Src → Option (Option D)
  | .list n => match h[n]? with
    | some (.lst xs) => some xs[i]?
    | some (.fls xs) => some xs[i]?
    | _ => none
  | .tup ds => some ds[i]?
  | .rng lo n => some (if i < n then some (.int (lo + i)) else none)
  | .str x => some (x.cps[i]?.map fun c => .str ⟨#[c]⟩)
  | .enum s => (s.nxt h i).map fun o => o.map fun d => .tup [.int i, d]
  | .zip s t => match s.nxt h i, t.nxt h i with
    | some (some a), some (some b) => some (some (.tup [a, b]))
    | some none, _ => some none
    | some (some _), some none => some none
    | _, _ => none
  | .keys n => match h[n]? with
    | some (.fdc kvs) => some (kvs[i]?.map (·.1))
    | _ => none
  | .vals n => match h[n]? with
    | some (.fdc kvs) => some (kvs[i]?.map (·.2))
    | _ => none
  | .items n => match h[n]? with
    | some (.fdc kvs) => some (kvs[i]?.map fun p => .tup [p.1, p.2])
    | _ => none
/-- the walk J gives what the source tells, as long as it tells -/
def ItR (K : PySem.W.Frag) (ct : CTab) (m : Mp) (H : Hp) (S : Src) (J : It) : Prop := ∀ m' H' h' i, Ext m H m' H' → HR K ct m' h' H' → match S.nxt h' i with
  | some (some d) => J.go i H' ∧ ∀ x H'', J.yld i H' x H'' → ∃ m'', Ext m' H' m'' H'' ∧ HR K ct m'' h' H'' ∧ Rep K ct m'' H'' d x
  | some none => J.stop i H'
  | none => True
abbrev AI := AEnv → AH → Res Src
def RI (K : PySem.W.Frag) (ct : CTab) (W : WX) (f : AI) : TI := fun σ H R => ∃ m A h, HR K ct m h H ∧ EnvR K ct m H A σ ∧
  Post K ct m H W σ (f A h) fun S m' _ H' => ∀ J, ItR K ct m' H' S J → R J H'
def SI (ct : CTab) (X : Cx) (W : WX) (tg iter : Expr) (f : AI) : Prop := PI X tg iter (RI X.K ct W f)
theorem PI.imp {X : Cx} {tg e : Expr} {t t' : TI} (h : PI X tg e t) (q : ∀ σ H R, t' σ H R → t σ H R) : PI X tg e t' := ⟨fun pins s σ H R I z => h.run pins s σ H R I (q σ H R z)⟩

/-! ### for -/
def forN (S : Src) (g : AG) (b : AS) : Nat → Nat → AS
  | 0, _ => fun _ _ => .stuck
  | n + 1, i => fun A h => match S.nxt h i with
    | some none => .next A h
    | some (some d) => match g d A h with
      | some A1 => match b A1 h with
        | .next A' h' => forN S g b n (i + 1) A' h'
        | .cont A' h' => forN S g b n (i + 1) A' h'
        | .brk A' h' => .next A' h'
        | r => r
      | none => .stuck
    | none => .stuck
def sFor (it : AI) (g : AG) (b : AS) : AS := fun A h => (it A h).toS A fun S h1 => forN S g b FUEL 0 A h1
section
variable {ct : CTab} {X : Cx} {W : WX} {body : List Stmt} {tg iter : Expr} {f : AS} {g : AG} {ws : List Nat} {it : AI} {pos : Pos}
theorem ss_for (ok : CtxOk X W) (hi : SI ct X W tg iter it) (hg : SG ct X tg g ws) (hb : SSs ct X W body f) (hc : X.calm = true := by rfl) (hs : ∀ x, foldedSetIterable iter X.env x = pure x := by intro _; rfl) : SS ct X W (.For tg iter body [] pos) (sFor it g f) :=
  PS.imp (ps_for ok.po hc hi hg hb hs) fun D σ H z => by
    obtain ⟨m, A, h, hr, en, po⟩ := z
    refine ⟨m, A, h, hr, en, (SPost.ofE en po).imp fun S m1 h1 H1 e1 r1 p1 J hJ => ?_⟩
    refine ⟨fun i n σ H => ∃ m2 A2 h2, HR X.K ct m2 h2 H ∧ EnvR X.K ct m2 H A2 σ ∧ Ext m1 H1 m2 H ∧ SPost X.K ct m2 H W D (forN S g f n i A2 h2), ⟨FUEL, m1, A, h1, r1, en.ext e1, Ext.refl m1 H1, p1⟩, fun i n σ2 H2 z2 => ?_⟩
    obtain ⟨m2, A2, h2, r2, en2, e2, p2⟩ := z2
    cases n with
    | zero => exact (show False from p2).elim
    | succ n =>
      have hj := hJ m2 H2 h2 i e2 r2
      unfold forN at p2
      cases en' : S.nxt h2 i with
      | none => rw [en'] at p2; exact p2.elim
      | some o =>
        cases o with
        | none =>
          rw [en'] at p2 hj
          exact .inl ⟨hj, p2 m2 H2 σ2 (Ext.refl m2 H2) r2 en2⟩
        | some d =>
          rw [en'] at p2 hj
          obtain ⟨go, yl⟩ := hj
          dsimp only at p2
          cases eg : g d A2 h2 with
          | none => rw [eg] at p2; exact p2.elim
          | some A3 =>
            rw [eg] at p2
            dsimp only at p2
            refine .inr ⟨go, fun σ' H' => ∃ m' A' h', HR X.K ct m' h' H' ∧ EnvR X.K ct m' H' A' σ' ∧ Ext m1 H1 m' H' ∧ SPost X.K ct m' H' W D (forN S g f n (i + 1) A' h'), fun σ' H' q => ⟨n, Nat.lt_succ_self n, q⟩, fun x H3 y => ?_⟩
            obtain ⟨m3, e3, r3, rx⟩ := yl x H3 y
            refine ⟨m3, A2, h2, d, r3, en2.ext e3, rx, A3, eg, fun σ4 en4 _ => ⟨m3, A3, h2, r3, en4, ?_⟩⟩
            cases eb : f A3 h2 with
            | next A' h' => rw [eb] at p2; exact fun m' H' σ' e' hr' en' => ⟨m', A', h', hr', en', (e2.trans e3).trans e', SPost.later (e3.trans e') p2⟩
            | cont A' h' => rw [eb] at p2; exact fun m' H' σ' e' hr' en' => ⟨m', A', h', hr', en', (e2.trans e3).trans e', SPost.later (e3.trans e') p2⟩
            | brk A' h' => rw [eb] at p2; exact SPost.later e3 p2
            | ret d h' => rw [eb] at p2; exact SPost.later e3 p2
            | exc x A' h' => rw [eb] at p2; exact SPost.later e3 p2
            | stuck => rw [eb] at p2; exact p2
end
end Led
/-! LedHeap: new objects, changed objects, truncation; argument lists, displays; defs and their calls. -/
namespace Led
open PySem L2

section
variable {K : PySem.W.Frag} {ct : CTab} {m m' : Mp} {H H' : Hp} {h h' : AH}
theorem HR.live (hr : HR K ct m h H) {n : Nat} {a : Addr} (e : m[n]? = some (some a)) : ∃ o, h[n]? = some o ∧ o ≠ .gone ∧ ORep K ct m H a o := by
  have hl : n < h.length := by rw [← hr.len]; exact (List.getElem?_eq_some_iff.mp e).1
  refine ⟨h[n], List.getElem?_eq_getElem hl, ?_⟩
  have q : h[n]? = some h[n] := List.getElem?_eq_getElem hl
  have ng : h[n] ≠ .gone := fun z => by
    rw [z] at q
    rw [hr.gone n q] at e
    cases e
  obtain ⟨a', e', o⟩ := hr.obj n _ q ng
  rw [e] at e'
  cases e'
  exact ⟨ng, o⟩
theorem ORep.some {a : Addr} {o : AO} (r : ORep K ct m H a o) : ∃ u, H a = some u ∧ ∀ xs, ¬ Rd H a (.tup xs) := by
  cases o with
  | lst xs => obtain ⟨vs, e, _⟩ := r; exact ⟨_, e, fun ys z => by rcases z with z | ⟨o, z⟩ <;> (rw [e] at z; cases z)⟩
  | fls xs => obtain ⟨o, vs, e, _⟩ := r; exact ⟨_, e, fun ys z => by rcases z with z | ⟨o, z⟩ <;> (rw [e] at z; cases z)⟩
  | ins c fs => obtain ⟨dx, vs, e, _⟩ := r; exact ⟨_, e, fun ys z => by rcases z with z | ⟨o, z⟩ <;> (rw [e] at z; cases z)⟩
  | dic _ =>
    obtain ⟨es, e, _⟩ := r
    refine ⟨_, e, fun ys z => ?_⟩
    have ne : ∀ u, rawD a es ≠ .tup u := fun u q => by
      have q' : HO.ext _ = HO.tup u := q
      cases q'
    have ne2 : ∀ o u, rawD a es ≠ .frz o u := fun o u q => by
      have q' : HO.ext _ = HO.frz o u := q
      cases q'
    rcases z with z | ⟨o, z⟩
    · rw [e] at z; exact ne _ (Option.some.inj z)
    · rw [e] at z; exact ne2 _ _ (Option.some.inj z)
  | fdc _ =>
    obtain ⟨o0, es, ep, e, _⟩ := r
    refine ⟨_, e, fun ys z => ?_⟩
    rcases z with z | ⟨o, z⟩
    · rw [e] at z; cases z
    · rw [e] at z
      have q : HO.frz o0 (rawD a es) = HO.frz o (.tup ys) := Option.some.inj z
      injection q with _ q
      have q' : HO.ext _ = HO.tup ys := q
      cases q'
  | gone => exact r.elim
theorem DRep.imp {m' : Mp} {H' : Hp} : ∀ {kvs : List (D × D)} {es : List DictEntry}, (∀ p ∈ kvs, ∀ d, (d = p.1 ∨ d = p.2) → ∀ v, Rep K ct m H d v → Rep K ct m' H' d v) → DRep K ct m H kvs es → DRep K ct m' H' kvs es
  | _, _, _, .nil => .nil
  | _, _, q, .cons r t => .cons ⟨r.hash, let ⟨v, a, b⟩ := r.key; ⟨v, a, q _ List.mem_cons_self _ (.inl rfl) _ b⟩, let ⟨v, a, b⟩ := r.val; ⟨v, a, q _ List.mem_cons_self _ (.inr rfl) _ b⟩⟩ (DRep.imp (fun p hp => q p (List.mem_cons_of_mem _ hp)) t)
theorem DRep.ext0 {kvs : List (D × D)} {es : List DictEntry} (e : Ext0 m H m' H') (r : DRep K ct m H kvs es) : DRep K ct m' H' kvs es := DRep.imp (fun _ _ _ _ _ q => q.ext0 e) r
theorem DRep.ext {kvs : List (D × D)} {es : List DictEntry} (e : Ext m H m' H') (r : DRep K ct m H kvs es) : DRep K ct m' H' kvs es := DRep.imp (fun _ _ _ _ _ q => q.ext e) r
theorem HR.notIn (hr : HR K ct m h H) {p : Addr} (e : H p = none) : some p ∉ m := fun z => by
  obtain ⟨n, hn, en⟩ := List.mem_iff_getElem.mp z
  obtain ⟨o, _, _, r⟩ := hr.live (n := n) (a := p) (by rw [List.getElem?_eq_getElem hn, en])
  obtain ⟨u, q, _⟩ := r.some
  rw [e] at q
  cases q
theorem ORep.ext0 {a : Addr} {o : AO} (e : Ext0 m H m' H') (ea : H' a = H a) (r : ORep K ct m H a o) : ORep K ct m' H' a o := by
  cases o with
  | lst xs => obtain ⟨vs, q, rl⟩ := r; exact ⟨vs, ea.trans q, rl.ext0 e⟩
  | fls xs => obtain ⟨o, vs, q, rl⟩ := r; exact ⟨o, vs, ea.trans q, rl.ext0 e⟩
  | ins c fs => obtain ⟨dx, vs, q, rl⟩ := r; exact ⟨dx, vs, ea.trans q, rl.ext0 e⟩
  | dic _ => obtain ⟨es, q, rl, nd⟩ := r; exact ⟨es, ea.trans q, DRep.ext0 e rl, nd⟩
  | fdc _ => obtain ⟨o, es, ep, q, hd, rl, nd⟩ := r; exact ⟨o, es, ep, ea.trans q, hd, DRep.ext0 e rl, nd⟩
  | gone => exact r.elim
theorem ORep.ext {a : Addr} {o : AO} (e : Ext m H m' H') (ea : H' a = H a) (r : ORep K ct m H a o) : ORep K ct m' H' a o := by
  cases o with
  | lst xs => obtain ⟨vs, q, rl⟩ := r; exact ⟨vs, ea.trans q, rl.ext e⟩
  | fls xs => obtain ⟨o, vs, q, rl⟩ := r; exact ⟨o, vs, ea.trans q, rl.ext e⟩
  | ins c fs => obtain ⟨dx, vs, q, rl⟩ := r; exact ⟨dx, vs, ea.trans q, rl.ext e⟩
  | dic _ => obtain ⟨es, q, rl, nd⟩ := r; exact ⟨es, ea.trans q, DRep.ext e rl, nd⟩
  | fdc _ => obtain ⟨o, es, ep, q, hd, rl, nd⟩ := r; exact ⟨o, es, ep, ea.trans q, hd, DRep.ext e rl, nd⟩
  | gone => exact r.elim
/-- a new living object -/
theorem Ext.alloc {p : Addr} {o : HO} (e : H p = none) : Ext m H (m ++ [some p]) (upd H p o) where
  tup := fun b xs z => by
    rcases z with z | ⟨o', z⟩
    · exact .inl (by rw [upd_ne (ne_of_none z e)]; exact z)
    · exact .inr ⟨o', by rw [upd_ne (ne_of_none z e)]; exact z⟩
  fix := fun b u z n => ⟨by rw [upd_ne (ne_of_none z e)]; exact z, fun q => by
    rcases List.mem_append.mp q with q | q
    · exact n q
    · rw [List.mem_singleton] at q
      cases q
      rw [e] at z; cases z⟩
  ref := fun n x z => .inl (by rw [List.getElem?_append_left (List.getElem?_eq_some_iff.mp z).1]; exact z)
  frz := fun a o u z => by rw [upd_ne (ne_of_none z e)]; exact z
/-- a new object that is not of the abstract heap: a tuple -/
theorem Ext.new {p : Addr} {o : HO} (hr : HR K ct m h H) (e : H p = none) : Ext m H m (upd H p o) where
  tup := fun b xs z => by
    rcases z with z | ⟨o', z⟩
    · exact .inl (by rw [upd_ne (ne_of_none z e)]; exact z)
    · exact .inr ⟨o', by rw [upd_ne (ne_of_none z e)]; exact z⟩
  fix := fun b u z n => ⟨by rw [upd_ne (ne_of_none z e)]; exact z, n⟩
  ref := fun n x z => .inl z
  frz := fun a o u z => by rw [upd_ne (ne_of_none z e)]; exact z
theorem HR.keep (hr : HR K ct m h H) (e : Ext m H m H') (k : ∀ a u, H a = some u → H' a = some u) : HR K ct m h H' where
  len := hr.len
  gone := hr.gone
  obj := fun n o q ng => by
    obtain ⟨a, ea, r⟩ := hr.obj n o q ng
    obtain ⟨u, eu, _⟩ := r.some
    exact ⟨a, ea, r.ext e (by rw [eu]; exact k a u eu)⟩
  inj := hr.inj
theorem HR.new {p : Addr} {o : HO} (hr : HR K ct m h H) (e : H p = none) : HR K ct m h (upd H p o) := hr.keep (Ext.new hr e) fun a u q => by rw [upd_ne (ne_of_none q e)]; exact q
theorem HR.alloc {p : Addr} {o : HO} {ao : AO} (hr : HR K ct m h H) (e : H p = none) (ng : ao ≠ .gone) (r : ORep K ct (m ++ [some p]) (upd H p o) p ao) : HR K ct (m ++ [some p]) (h ++ [ao]) (upd H p o) where
  len := by rw [List.length_append, List.length_append, hr.len]; rfl
  gone := fun n q => by
    by_cases hn : n < h.length
    · rw [List.getElem?_append_left hn] at q
      rw [List.getElem?_append_left (by rw [hr.len]; exact hn)]
      exact hr.gone n q
    · rw [List.getElem?_append_right (by omega)] at q
      cases hk : n - h.length with
      | zero => rw [hk] at q; cases q; exact (ng rfl).elim
      | succ k => rw [hk] at q; cases q
  obj := fun n u q nu => by
    by_cases hn : n < h.length
    · rw [List.getElem?_append_left hn] at q
      obtain ⟨a, ea, ra⟩ := hr.obj n u q nu
      obtain ⟨w, ew, _⟩ := ra.some
      exact ⟨a, by rw [List.getElem?_append_left (by rw [hr.len]; exact hn)]; exact ea, ra.ext (Ext.alloc e) (upd_ne (ne_of_none ew e))⟩
    · rw [List.getElem?_append_right (by omega)] at q
      cases hk : n - h.length with
      | succ k => rw [hk] at q; cases q
      | zero =>
        rw [hk] at q
        cases q
        have en : n = m.length := by have := hr.len; omega
        exact ⟨p, by rw [en, List.getElem?_append_right (Nat.le_refl _), Nat.sub_self]; rfl, r⟩
  inj := fun n n' a q q' => by
    have key : ∀ (n : Nat), (m ++ [some p])[n]? = some (some a) → (m[n]? = some (some a) ∧ a ≠ p) ∨ (n = m.length ∧ a = p) := fun n q => by
      by_cases hn : n < m.length
      · rw [List.getElem?_append_left hn] at q
        refine .inl ⟨q, fun z => ?_⟩
        rw [z] at q
        exact hr.notIn e (List.mem_of_getElem? q)
      · rw [List.getElem?_append_right (by omega)] at q
        cases hk : n - m.length with
        | succ k => rw [hk] at q; cases q
        | zero =>
          rw [hk] at q
          cases q
          exact .inr ⟨by omega, rfl⟩
    rcases key n q with ⟨a1, b1⟩ | ⟨a1, b1⟩ <;> rcases key n' q' with ⟨a2, b2⟩ | ⟨a2, b2⟩
    · exact hr.inj n n' a a1 a2
    · exact (b1 b2).elim
    · exact (b2 b1).elim
    · omega
/-- a living object is changed -/
def NoFz (H : Hp) (a : Addr) : Prop := ∀ o u, H a ≠ some (.frz o u)
theorem NoFz.of {a : Addr} {u : HO} (e : H a = some u) (h : ∀ o v, u ≠ .frz o v) : NoFz H a := fun o v z => by rw [e] at z; exact h o v (Option.some.inj z)
theorem NoFz.raw {a : Addr} {es : List DictEntry} (e : H a = some (rawD a es)) : NoFz H a := NoFz.of e fun o v q => by
  have q' : HO.ext _ = HO.frz o v := q
  cases q'
theorem Ext0.upd {a : Addr} {o : HO} (n : Nat) (e : m[n]? = some (some a)) (nt : ∀ xs, ¬ Rd H a (.tup xs)) : Ext0 m H m (upd H a o) where
  tup := fun b xs z => by
    have nb : b ≠ a := fun q => by subst q; exact nt xs z
    rcases z with z | ⟨o', z⟩
    · exact .inl (by rw [upd_ne nb]; exact z)
    · exact .inr ⟨o', by rw [upd_ne nb]; exact z⟩
  fix := fun b u z nm => ⟨by rw [upd_ne (fun q => by subst q; exact nm (List.mem_of_getElem? e))]; exact z, nm⟩
  ref := fun n x z => .inl z
theorem Ext.upd {a : Addr} {o : HO} (n : Nat) (e : m[n]? = some (some a)) (nt : ∀ xs, ¬ Rd H a (.tup xs)) (nf : NoFz H a) : Ext m H m (upd H a o) where
  tup := fun b xs z => by
    have nb : b ≠ a := fun q => by subst q; exact nt xs z
    rcases z with z | ⟨o', z⟩
    · exact .inl (by rw [upd_ne nb]; exact z)
    · exact .inr ⟨o', by rw [upd_ne nb]; exact z⟩
  fix := fun b u z nm => ⟨by rw [upd_ne (fun q => by subst q; exact nm (List.mem_of_getElem? e))]; exact z, nm⟩
  ref := fun n x z => .inl z
  frz := fun b o' u z => by rw [upd_ne (fun q => by subst q; exact nf o' u z)]; exact z
theorem HR.upd0 {a : Addr} {o : HO} {ao : AO} {n : Nat} (hr : HR K ct m h H) (e : m[n]? = some (some a)) (ng : ao ≠ .gone) (r : ORep K ct m (L2.upd H a o) a ao) : HR K ct m (h.set n ao) (L2.upd H a o) ∧ Ext0 m H m (L2.upd H a o) := by
  obtain ⟨o0, e0, n0, r0⟩ := hr.live e
  obtain ⟨u0, eu0, nt⟩ := r0.some
  have ex : Ext0 m H m (L2.upd H a o) := Ext0.upd n e nt
  refine ⟨⟨by rw [List.length_set]; exact hr.len, fun n' q => ?_, fun n' o' q ng' => ?_, hr.inj⟩, ex⟩
  · by_cases hn : n = n'
    · subst hn
      rw [List.getElem?_set_self (List.getElem?_eq_some_iff.mp e0).1] at q
      cases q
      exact (ng rfl).elim
    · rw [List.getElem?_set_ne hn] at q
      exact hr.gone n' q
  · by_cases hn : n = n'
    · subst hn
      rw [List.getElem?_set_self (List.getElem?_eq_some_iff.mp e0).1] at q
      cases q
      exact ⟨a, e, r⟩
    · rw [List.getElem?_set_ne hn] at q
      obtain ⟨a', ea', ra'⟩ := hr.obj n' o' q ng'
      have na : a' ≠ a := fun z => by subst z; exact hn (hr.inj n n' _ e ea')
      exact ⟨a', ea', ra'.ext0 ex (upd_ne na)⟩
theorem HR.upd {a : Addr} {o : HO} {ao : AO} {n : Nat} (hr : HR K ct m h H) (e : m[n]? = some (some a)) (ng : ao ≠ .gone) (nf : NoFz H a) (r : ORep K ct m (L2.upd H a o) a ao) : HR K ct m (h.set n ao) (L2.upd H a o) ∧ Ext m H m (L2.upd H a o) := by
  obtain ⟨o0, e0, n0, r0⟩ := hr.live e
  obtain ⟨u0, eu0, nt⟩ := r0.some
  exact ⟨(hr.upd0 e ng r).1, Ext.upd n e nt nf⟩
end

/-! ### closed data: all numbers lie below k -/
mutual
inductive Cl (k : Nat) : D → Prop
  | non : Cl k .non
  | bl {b} : Cl k (.bl b)
  | int {i} : Cl k (.int i)
  | str {x} : Cl k (.str x)
  | ty {n} : Cl k (.ty n)
  | cls {c} : Cl k (.cls c)
  | tup {ds} : ClL k ds → Cl k (.tup ds)
  | obj {c fs} : ClF k fs → Cl k (.obj c fs)
  | ref {n} : n < k → Cl k (.ref n)
inductive ClL (k : Nat) : List D → Prop
  | nil : ClL k []
  | cons {d ds} : Cl k d → ClL k ds → ClL k (d :: ds)
inductive ClF (k : Nat) : List (Str × D) → Prop
  | nil : ClF k []
  | cons {x d ds} : Cl k d → ClF k ds → ClF k ((x, d) :: ds)
end
def ClP (k : Nat) (l : List (D × D)) : Prop := ∀ p ∈ l, Cl k p.1 ∧ Cl k p.2
def ClO (k : Nat) : AO → Prop
  | .lst xs => ClL k xs
  | .fls xs => ClL k xs
  | .dic kvs => ClP k kvs
  | .fdc kvs => ClP k kvs
  | .ins _ fs => ClF k fs
  | .gone => True
section
variable {K : PySem.W.Frag} {ct : CTab} {m m' : Mp} {H H' : Hp} {h h' : AH} {k : Nat}
theorem lt_of_get {α : Type} {l : List α} {n : Nat} {x : α} (e : l[n]? = some x) : n < l.length := (List.getElem?_eq_some_iff.mp e).1
mutual
theorem Rep.cl : ∀ {d : D} {v : V}, Rep K ct m H d v → Cl m.length d
  | _, _, .non => .non
  | _, _, .bl => .bl
  | _, _, .int => .int
  | _, _, .str => .str
  | _, _, .ty => .ty
  | _, _, .cls => .cls
  | _, _, .tup s r => .tup (RepL.cl r)
  | _, _, .obj h n r => .obj (RepF.cl r)
  | _, _, .ref h => .ref (lt_of_get h)
  | _, _, .lost h => .ref (lt_of_get h)
theorem RepL.cl : ∀ {ds : List D} {vs : List V}, RepL K ct m H ds vs → ClL m.length ds
  | _, _, .nil => .nil
  | _, _, .cons r t => .cons (Rep.cl r) (RepL.cl t)
theorem RepF.cl : ∀ {ds : List (Str × D)} {vs : List (Str × V)}, RepF K ct m H ds vs → ClF m.length ds
  | _, _, .nil => .nil
  | _, _, .cons r t => .cons (Rep.cl r) (RepF.cl t)
end
theorem DRep.cl : ∀ {kvs : List (D × D)} {es : List DictEntry}, DRep K ct m H kvs es → ClP m.length kvs
  | _, _, .nil => fun _ h => by cases h
  | _, _, .cons r t => fun p hp => by
    rcases List.mem_cons.mp hp with e | hp
    · subst e
      obtain ⟨_, _, a⟩ := r.key
      obtain ⟨_, _, b⟩ := r.val
      exact ⟨a.cl, b.cl⟩
    · exact DRep.cl t p hp
theorem ORep.cl {a : Addr} {o : AO} (r : ORep K ct m H a o) : ClO m.length o := by
  cases o with
  | lst xs => obtain ⟨vs, q, rl⟩ := r; exact rl.cl
  | fls xs => obtain ⟨o, vs, q, rl⟩ := r; exact rl.cl
  | ins c fs => obtain ⟨dx, vs, q, rl⟩ := r; exact rl.cl
  | dic _ => obtain ⟨es, q, rl, nd⟩ := r; exact DRep.cl rl
  | fdc _ => obtain ⟨o, es, ep, q, hd, rl, nd⟩ := r; exact DRep.cl rl
  | gone => trivial
mutual
theorem Cl.mono {j k : Nat} (l : j ≤ k) : ∀ {d : D}, Cl j d → Cl k d
  | _, .non => .non
  | _, .bl => .bl
  | _, .int => .int
  | _, .str => .str
  | _, .ty => .ty
  | _, .cls => .cls
  | _, .tup s => .tup (ClL.mono l s)
  | _, .obj s => .obj (ClF.mono l s)
  | _, .ref h => .ref (Nat.lt_of_lt_of_le h l)
theorem ClL.mono {j k : Nat} (l : j ≤ k) : ∀ {ds : List D}, ClL j ds → ClL k ds
  | _, .nil => .nil
  | _, .cons r t => .cons (Cl.mono l r) (ClL.mono l t)
theorem ClF.mono {j k : Nat} (l : j ≤ k) : ∀ {ds : List (Str × D)}, ClF j ds → ClF k ds
  | _, .nil => .nil
  | _, .cons r t => .cons (Cl.mono l r) (ClF.mono l t)
end
theorem ClO.mono {j k : Nat} (l : j ≤ k) {o : AO} (c : ClO j o) : ClO k o := by
  cases o with
  | lst xs => exact ClL.mono l c
  | fls xs => exact ClL.mono l c
  | dic kvs => exact fun p hp => ⟨(c p hp).1.mono l, (c p hp).2.mono l⟩
  | fdc kvs => exact fun p hp => ⟨(c p hp).1.mono l, (c p hp).2.mono l⟩
  | ins c' fs => exact ClF.mono l c
  | gone => trivial
mutual
theorem Rep.take : ∀ {d : D} {v : V}, Cl k d → Rep K ct m H d v → Rep K ct (m.take k) H d v
  | _, _, _, .non => .non
  | _, _, _, .bl => .bl
  | _, _, _, .int => .int
  | _, _, _, .str => .str
  | _, _, _, .ty => .ty
  | _, _, _, .cls => .cls
  | _, _, .tup c, .tup s r => .tup s (RepL.take c r)
  | _, _, .obj c, .obj h n r => .obj h (fun z => n (List.mem_of_mem_take z)) (RepF.take c r)
  | _, _, .ref l, .ref h => .ref (by rw [List.getElem?_take_of_lt l]; exact h)
  | _, _, .ref l, .lost h => .lost (by rw [List.getElem?_take_of_lt l]; exact h)
theorem RepL.take : ∀ {ds : List D} {vs : List V}, ClL k ds → RepL K ct m H ds vs → RepL K ct (m.take k) H ds vs
  | _, _, _, .nil => .nil
  | _, _, .cons c cs, .cons r t => .cons (Rep.take c r) (RepL.take cs t)
theorem RepF.take : ∀ {ds : List (Str × D)} {vs : List (Str × V)}, ClF k ds → RepF K ct m H ds vs → RepF K ct (m.take k) H ds vs
  | _, _, _, .nil => .nil
  | _, _, .cons c cs, .cons r t => .cons (Rep.take c r) (RepF.take cs t)
end
theorem ORep.take {a : Addr} {o : AO} (c : ClO k o) (r : ORep K ct m H a o) : ORep K ct (m.take k) H a o := by
  cases o with
  | lst xs => obtain ⟨vs, q, rl⟩ := r; exact ⟨vs, q, rl.take c⟩
  | fls xs => obtain ⟨o, vs, q, rl⟩ := r; exact ⟨o, vs, q, rl.take c⟩
  | ins c' fs => obtain ⟨dx, vs, q, rl⟩ := r; exact ⟨dx, vs, q, rl.take c⟩
  | dic _ =>
    obtain ⟨es, q, rl, nd⟩ := r
    refine ⟨es, q, DRep.imp (fun p hp d hd v rv => rv.take ?_) rl, nd⟩
    rcases hd with rfl | rfl
    · exact (c p hp).1
    · exact (c p hp).2
  | fdc _ =>
    obtain ⟨o, es, ep, q, hd, rl, nd⟩ := r
    refine ⟨o, es, ep, q, hd, DRep.imp (fun p hp d hd v rv => rv.take ?_) rl, nd⟩
    rcases hd with rfl | rfl
    · exact (c p hp).1
    · exact (c p hp).2
  | gone => exact r.elim
end

/-- h2 is what is kept of h1, which came of h0 -/
structure Tr (h0 h1 h2 : AH) : Prop where
  pre : h2 <+: h1
  le : h0.length ≤ h2.length
  cl : ∀ (i : Nat) o, h2[i]? = some o → h0[i]? = some o ∨ ClO h2.length o
theorem Tr.refl_of {h0 h1 : AH} (p : h0 <+: h1) : Tr h0 h1 h0 := ⟨p, Nat.le_refl _, fun i o e => .inl e⟩
section
variable {K : PySem.W.Frag} {ct : CTab} {m m1 : Mp} {H H1 : Hp} {h0 h1 h2 : AH}
theorem HR.trunc (hr0 : HR K ct m h0 H) (e : Ext m H m1 H1) (hr1 : HR K ct m1 h1 H1) (t : Tr h0 h1 h2) : HR K ct (m1.take h2.length) h2 H1 ∧ Ext m H (m1.take h2.length) H1 := by
  obtain ⟨tl, et⟩ := t.pre
  have hl : h2.length ≤ h1.length := by rw [← et, List.length_append]; omega
  have get : ∀ i, i < h2.length → h1[i]? = h2[i]? := fun i hi => by rw [← et, List.getElem?_append_left hi]
  refine ⟨⟨by rw [List.length_take, hr1.len]; omega, fun n q => ?_, fun n o q ng => ?_, fun n n' a q q' => ?_⟩, ⟨⟨e.tup, fun a o z nm => ?_, fun n x z => ?_⟩, e.frz⟩⟩
  · have hn := lt_of_get q
    rw [List.getElem?_take_of_lt hn]
    exact hr1.gone n (by rw [get n hn]; exact q)
  · have hn := lt_of_get q
    obtain ⟨a, ea, r⟩ := hr1.obj n o (by rw [get n hn]; exact q) ng
    refine ⟨a, by rw [List.getElem?_take_of_lt hn]; exact ea, r.take ?_⟩
    rcases t.cl n o q with z | z
    · obtain ⟨a0, _, r0⟩ := hr0.obj n o z ng
      exact r0.cl.mono (by rw [hr0.len]; exact t.le)
    · exact z
  · have take : ∀ (n : Nat), (m1.take h2.length)[n]? = some (some a) → m1[n]? = some (some a) := fun n q => by
      have hn := lt_of_get q
      rw [List.length_take] at hn
      rw [List.getElem?_take_of_lt (by omega)] at q
      exact q
    exact hr1.inj n n' a (take n q) (take n' q')
  · exact ⟨(e.fix a o z nm).1, fun q => (e.fix a o z nm).2 (List.mem_of_mem_take q)⟩
  · have hn := lt_of_get z
    rw [List.getElem?_take_of_lt (by have := hr0.len; have := t.le; omega)]
    exact e.ref n x z
end

/-! ### argument lists, displays -/
def aNil : AA := fun _ h => .ok [] h
def aCons (f : AE) (g : AA) : AA := fun A h => (f A h).bind fun d h1 => (g A h1).bind fun ds h2 => .ok (d :: ds) h2
def eTup (f : AA) : AE := fun A h => (f A h).bind fun ds h1 => if ds.length ≤ sizeLine then .ok (.tup ds) h1 else .stuck
def eLst (f : AA) : AE := fun A h => (f A h).bind fun ds h1 => if ds.length ≤ sizeLine then .ok (.ref h1.length) (h1 ++ [.lst ds]) else .stuck
section
variable {ct : CTab} {X : Cx} {W : WX} {e : Expr} {es : List Expr} {f : AE} {g : AA} {pos : Pos}
theorem Post.vals {K : PySem.W.Frag} {ct : CTab} {m : Mp} {H : Hp} {W : WX} {σ : St} {d : List D} {h : AH} {Q : List V → Hp → Prop} {v : List V} (q : Post K ct m H W σ (.ok d h) fun d m' _ H' => ∀ v, RepL K ct m' H' d v → Q v H') (hr : HR K ct m h H) (r : RepL K ct m H d v) : Q v H :=
  q m H (Ext.refl m H) hr v r
theorem sa_nil : SA ct X W [] aNil := PA.imp pa_nil fun σ H Q ⟨m, A, h, hr, en, po⟩ => Post.vals (d := []) po hr .nil
theorem sa_cons (h1 : SE ct X W e f) (h2 : SA ct X W es g) (hs : starEach (e :: es) X.env = (false, eval e X.env) :: starEach es X.env := by rfl) : SA ct X W (e :: es) (aCons f g) :=
  PA.imp (pa_cons h1 h2 hs) fun σ H Q ⟨m, A, h, hr, en, po⟩ => ⟨m, A, h, hr, en, po.bind.imp fun d m1 h1 H1 e1 r1 p1 v rv => ⟨m1, A, h1, r1, en.ext e1, (Post.bind p1).imp fun ds m2 h2 H2 e2 r2 p2 vs rvs =>
    Post.vals (d := d :: ds) p2 r2 (.cons (rv.ext e2) rvs)⟩⟩
theorem se_tup {x1} (h : SA ct X W es g) : SE ct X W (.Tuple es x1 pos) (eTup g) := PE.imp (pe_tup h) fun σ H Q ⟨m, A, h, hr, en, po⟩ => ⟨m, A, h, hr, en, po.bind.imp fun ds m1 h1 H1 e1 r1 p1 vs rvs => by
  split at p1
  · rename_i hl
    exact ⟨by rw [← rvs.length]; exact hl, fun p hp => p1 m1 _ (Ext.new r1 hp) (r1.new hp) _ (.tup (.inl (.inl upd_same)) (rvs.ext (Ext.new r1 hp)))⟩
  · exact (show False from p1).elim⟩
theorem se_lst (h : SA ct X W es g) : SE ct X W (.List es pos) (eLst g) := PE.imp (pe_lst h) fun σ H Q ⟨m, A, h, hr, en, po⟩ => ⟨m, A, h, hr, en, po.bind.imp fun ds m1 h1 H1 e1 r1 p1 vs rvs => by
  split at p1
  · rename_i hl
    refine ⟨by rw [← rvs.length]; exact hl, fun p hp => p1 (m1 ++ [some p]) _ (Ext.alloc hp) (r1.alloc hp (by intro z; cases z) ⟨vs, upd_same, rvs.ext (Ext.alloc hp)⟩) _ (.ref ?_)⟩
    rw [← r1.len, List.getElem?_append_right (Nat.le_refl _), Nat.sub_self]; rfl
  · exact (show False from p1).elim⟩
end

/-! ### defs -/
abbrev AF := List D → AH → Res D
def spA (K : PySem.W.Frag) (ct : CTab) (n : Nat) (F : AF) : Sp := fun vs H Q E => vs.length = n ∧ ∃ m h ds, HR K ct m h H ∧ RepL K ct m H ds vs ∧
  Post K ct m H (fun c d _ H => E c d H) [] (F ds h) fun d m' _ H' => ∀ v, Rep K ct m' H' d v → Q v H'
/-- the def at f means F -/
structure Fn (P : Program) (w : World) (K : PySem.W.Frag) (mg : Str → Option Value) (base : Heap) (ct : CTab) (k : Nat) (f : Addr) (n : Nat) (F : AF) : Prop where
  ok : ∃ fd ps, ps.length = n ∧ FnOk P w K mg base (L2.CX P w) k f fd ps (spA K ct n F) ∧ Binds K fd ps []
  kp : PySem.W.keepIn K (.ref f) = true
  len : ∀ ds h, F ds h ≠ .stuck → ds.length = n
/-- the body's meaning as a function; c: how many names there are -/
def fnA (n c : Nat) (f : AS) : AF := fun ds h => if ds.length = n then match f (ds.map some ++ List.replicate (c - n) none) h with
    | .next _ h' => .ok .non h'
    | .ret d h' => .ok d h'
    | .exc x _ h' => .exc x h'
    | _ => .stuck
  else .stuck
section
variable {P : Program} {w : World} {K : PySem.W.Frag} {mg : Str → Option Value} {base : Heap} {ct : CTab}
theorem RepL.env0 {m : Mp} {H : Hp} {j : Nat} {d : D} : ∀ {ds : List D} {vs : List V} (i : Nat), RepL K ct m H ds vs → (ds.map some ++ List.replicate j none)[i]? = some (some d) → ∃ v, (vs.map some ++ List.replicate j none)[i]? = some (some v) ∧ Rep K ct m H d v
  | _, _, i, .nil, e => by
    rw [List.map_nil, List.nil_append, List.getElem?_replicate] at e
    split at e <;> cases e
  | _, _, 0, .cons r0 rr, e => by
    cases e
    exact ⟨_, rfl, r0⟩
  | _, _, i + 1, .cons r0 rr, e => RepL.env0 i rr e
theorem RepL.env {m : Mp} {H : Hp} {j : Nat} {ds : List D} {vs : List V} (r : RepL K ct m H ds vs) : EnvR K ct m H (ds.map some ++ List.replicate j none) (vs.map some ++ List.replicate j none) :=
  ⟨by simp [r.length], fun i d e => RepL.env0 i r e⟩
theorem fn_mk {x qual : Str} {st : Stmt} {f : Addr} {fd : FuncData} {N ps : List Str} {k n c : Nat} {g : AS} (F : Fun K x qual st f fd) (S : FnScope N ps (defScope st)) (hn : ps.length = n) (hc : N.length = c) (hb : Binds K fd ps [])
    (hbody : ∀ (cdv : Value) (A : Around) (outer : List Env) (s : Shared) (H : Hp) (E : XK), Room k (A.deeper (PyProof.Rows.envOfC qual (defScope st) s.heap.objs.size f cdv)) →
      CtxOk (cxOf (L2.CX P w) P w K mg base N qual (defScope st) f cdv A outer s H E) (fun cls d _ H => E cls d H) →
      SSs ct (cxOf (L2.CX P w) P w K mg base N qual (defScope st) f cdv A outer s H E) (fun cls d _ H => E cls d H) (defBody st) g) : Fn P w K mg base ct (k + 1) f n (fnA n c g) where
  ok := by
    refine ⟨fd, ps, hn, F.okX S (fun vs H Q E h => h.1.trans hn.symm) (fun cdv A outer s H vs Q E hr h => ?_), hb⟩
    refine ⟨_, hbody cdv A outer s H E hr ⟨takes_of rfl rfl rfl rfl, passes_of rfl⟩, ?_⟩
    obtain ⟨hl, m, h, ds, hr, rl, po⟩ := h
    have hd : ds.length = n := rl.length.trans hl
    unfold fnA at po
    rw [if_pos hd] at po
    refine ⟨m, ds.map some ++ List.replicate (c - n) none, h, hr, ?_, ?_⟩
    · unfold L2.start
      rw [hc, hl]
      exact rl.env
    · cases e : g (ds.map some ++ List.replicate (c - n) none) h with
      | next A' h' => rw [e] at po; exact fun m' H' σ' ex hr' en => po m' H' ex hr' _ .non
      | ret d h' => rw [e] at po; exact fun m' H' v ex hr' rv => po m' H' ex hr' v rv
      | exc x A' h' => rw [e] at po; exact fun m' H' σ' cls d ex hr' en xr => po m' H' cls d ex hr' xr
      | brk A' h' => rw [e] at po; exact po.elim
      | cont A' h' => rw [e] at po; exact po.elim
      | stuck => rw [e] at po; exact po.elim
  kp := F.kp
  len := fun ds h q => by
    unfold fnA at q
    split at q
    · assumption
    · exact (q rfl).elim

/-- F does at least what F' tells, but for what is dropped at the end -/
def Sim (F F' : AF) : Prop := ∀ ds h, match F' ds h with
  | .ok d h2 => ∃ h1, F ds h = .ok d h1 ∧ Tr h h1 h2 ∧ Cl h2.length d
  | .exc x h2 => ∃ h1, F ds h = .exc x h1 ∧ Tr h h1 h2 ∧ ClF h2.length x.fs
  | .stuck => True
theorem XRep.take {m : Mp} {H : Hp} {k : Nat} {x : Exc} {cls : Value} {d : Option Addr} (c : ClF k x.fs) (r : XRep K ct m H x cls d) : XRep K ct (m.take k) H x cls d := by
  obtain ⟨e, r⟩ := r
  refine ⟨e, ?_⟩
  rcases r with r | ⟨da, vs, e1, e2, n, rf⟩
  · exact .inl r
  · exact .inr ⟨da, vs, e1, e2, fun z => n (List.mem_of_mem_take z), rf.take c⟩
theorem Sim.post {F F' : AF} (s : Sim F F') {m : Mp} {H : Hp} {W : WX} {σ : St} {ds : List D} {h : AH} {Q : VK} (hr : HR K ct m h H)
    (p : Post K ct m H W σ (F' ds h) fun d m' _ H' => ∀ v, Rep K ct m' H' d v → Q v H') : Post K ct m H W σ (F ds h) fun d m' _ H' => ∀ v, Rep K ct m' H' d v → Q v H' := by
  have q := s ds h
  cases e : F' ds h with
  | ok d h2 =>
    rw [e] at p q
    obtain ⟨h1, e1, t, c⟩ := q
    rw [e1]
    intro m' H' ex hr' v rv
    obtain ⟨a, b⟩ := hr.trunc ex hr' t
    exact p _ _ b a v (rv.take c)
  | exc x h2 =>
    rw [e] at p q
    obtain ⟨h1, e1, t, c⟩ := q
    rw [e1]
    intro m' H' cls d ex hr' xr
    obtain ⟨a, b⟩ := hr.trunc ex hr' t
    exact p _ _ cls d b a (xr.take c)
  | stuck => rw [e] at p; exact p.elim
theorem Fn.sim {k n : Nat} {f : Addr} {F F' : AF} (a : Fn P w K mg base ct k f n F) (s : Sim F F') : Fn P w K mg base ct k f n F' where
  ok := by
    obtain ⟨fd, ps, hl, ok, hb⟩ := a.ok
    refine ⟨fd, ps, hl, ok.imp fun vs H Q E h => ?_, hb⟩
    obtain ⟨hv, m, h, ds, hr, rl, po⟩ := h
    exact ⟨hv, m, h, ds, hr, rl, s.post hr po⟩
  kp := a.kp
  len := fun ds h q => a.len ds h fun z => by
    have y := s ds h
    rw [z] at y
    cases e : F' ds h with
    | ok d h2 => rw [e] at y; obtain ⟨_, y, _⟩ := y; cases y
    | exc x h2 => rw [e] at y; obtain ⟨_, y, _⟩ := y; cases y
    | stuck => exact q e
theorem Fn.mono {j k n : Nat} {f : Addr} {F : AF} (a : Fn P w K mg base ct j f n F) (h : j ≤ k) : Fn P w K mg base ct k f n F :=
  ⟨let ⟨fd, ps, hl, ok, hb⟩ := a.ok; ⟨fd, ps, hl, ok.mono h, hb⟩, a.kp, a.len⟩
end

/-! ### calls -/
def eCall (F : AF) (g : AA) : AE := fun A h => (g A h).bind fun ds h1 => F ds h1
section
variable {ct : CTab} {X : Cx} {W : WX} {e : Expr} {es : List Expr} {g : AA} {x : Str} {p pos : Pos} {k n : Nat} {f : Addr} {F : AF}
theorem Post.wish {K : PySem.W.Frag} {m : Mp} {H : Hp} {σ : St} {α : Type} {r : Res α} {P : α → Mp → AH → Hp → Prop} (q : Post K ct m H W σ r P) : Post K ct m H (fun c d _ H => WE W σ c d H) [] r P := by
  cases r with
  | ok a h => exact q
  | exc x h => exact q
  | stuck => exact q
theorem Post.ne {K : PySem.W.Frag} {m : Mp} {H : Hp} {σ : St} {α : Type} {r : Res α} {P : α → Mp → AH → Hp → Prop} (q : Post K ct m H W σ r P) : r ≠ .stuck := fun z => by rw [z] at q; exact q
theorem se_call (ok : CtxOk X W) (hf : Fn X.prog X.w X.K X.mg X.base ct k f n F) (hr : Room k X.A) (hm : X.mg x = some (.ref f)) (ha : SA ct X W (e :: es) g) (hg : Gl X x := by rfl) (hdb : (x == ("__debug__" : Str)) = false := by decide)
    (he : starEach (e :: es) X.env = (false, eval e X.env) :: starEach es X.env := by rfl) (hpl : (backTo pos (starEach es X.env)).any (·.1) = false := by rfl) : SE ct X W (.Call (.Name x p) (e :: es) [] pos) (eCall F g) := by
  obtain ⟨fd, ps, hl, fo, hb⟩ := hf.ok
  refine PE.imp (pe_callS fo hr hg hm hf.kp hb (fun σ => passAt ok.tk σ) ha hdb he hpl) fun σ H Q ⟨m, A, h, hr, en, po⟩ => ⟨m, A, h, hr, en, po.bind.imp fun ds m1 h1 H1 e1 r1 p1 vs rvs => ?_⟩
  exact ⟨by rw [← rvs.length]; exact hf.len ds h1 p1.ne, m1, h1, ds, r1, rvs, p1.wish⟩
end
end Led
/-! LedOps: operators, comparisons, subscripts, slices on abstract values. -/
namespace Led
open PySem L2

def lstOf : AO → Option (List D)
  | .lst xs => some xs
  | .fls xs => some xs
  | _ => none
def getL (h : AH) (n : Nat) : Option (List D) := match h[n]? with
  | some o => lstOf o
  | none => none
section
variable {K : PySem.W.Frag} {ct : CTab} {m : Mp} {H : Hp} {h : AH}
theorem HR.at (hr : HR K ct m h H) {n : Nat} {o : AO} {v : V} (e : h[n]? = some o) (ng : o ≠ .gone) (r : Rep K ct m H (.ref n) v) : ∃ a, v = .ref a ∧ m[n]? = some (some a) ∧ ORep K ct m H a o := by
  obtain ⟨a, ea, ro⟩ := hr.obj n o e ng
  cases r with
  | ref q => rw [ea] at q; cases q; exact ⟨a, rfl, ea, ro⟩
  | lost q => rw [ea] at q; cases q
theorem HR.getL (hr : HR K ct m h H) {n : Nat} {xs : List D} {v : V} (e : getL h n = some xs) (r : Rep K ct m H (.ref n) v) : ∃ a vs, v = .ref a ∧ m[n]? = some (some a) ∧ Rd H a (.lst vs) ∧ RepL K ct m H xs vs := by
  unfold Led.getL at e
  split at e
  · rename_i o eo
    cases o with
    | lst ys =>
      cases e
      obtain ⟨a, ev, ea, vs, q, rl⟩ := hr.at eo (by intro z; cases z) r
      exact ⟨a, vs, ev, ea, .inl q, rl⟩
    | fls ys =>
      cases e
      obtain ⟨a, ev, ea, o, vs, q, rl⟩ := hr.at eo (by intro z; cases z) r
      exact ⟨a, vs, ev, ea, .inr ⟨o, q⟩, rl⟩
    | _ => cases e
  · cases e
theorem HR.lst (hr : HR K ct m h H) {n : Nat} {xs : List D} {v : V} (e : h[n]? = some (.lst xs)) (r : Rep K ct m H (.ref n) v) : ∃ a vs, v = .ref a ∧ m[n]? = some (some a) ∧ H a = some (.lst vs) ∧ RepL K ct m H xs vs := by
  obtain ⟨a, ev, ea, vs, q, rl⟩ := hr.at e (by intro z; cases z) r
  exact ⟨a, vs, ev, ea, q, rl⟩
theorem RepL.append : ∀ {xs ys : List D} {vs ws : List V}, RepL K ct m H xs vs → RepL K ct m H ys ws → RepL K ct m H (xs ++ ys) (vs ++ ws)
  | _, _, _, _, .nil, s => s
  | _, _, _, _, .cons r t, s => .cons r (RepL.append t s)
theorem RepL.drop : ∀ (n : Nat) {xs : List D} {vs : List V}, RepL K ct m H xs vs → RepL K ct m H (xs.drop n) (vs.drop n)
  | 0, _, _, r => r
  | _ + 1, _, _, .nil => .nil
  | n + 1, _, _, .cons _ t => RepL.drop n t
theorem RepL.takeN : ∀ (n : Nat) {xs : List D} {vs : List V}, RepL K ct m H xs vs → RepL K ct m H (xs.take n) (vs.take n)
  | 0, _, _, _ => .nil
  | _ + 1, _, _, .nil => .nil
  | n + 1, _, _, .cons r t => .cons r (RepL.takeN n t)
theorem RepL.get : ∀ (n : Nat) {xs : List D} {vs : List V} {d : D}, RepL K ct m H xs vs → xs[n]? = some d → ∃ v, vs[n]? = some v ∧ Rep K ct m H d v
  | _, _, _, _, .nil, e => by simp at e
  | 0, _, _, _, .cons r _, e => by cases e; exact ⟨_, rfl, r⟩
  | n + 1, _, _, _, .cons _ t, e => RepL.get n t e
theorem RepL.get' : ∀ (n : Nat) {xs : List D} {vs : List V} {v : V}, RepL K ct m H xs vs → vs[n]? = some v → ∃ d, xs[n]? = some d ∧ Rep K ct m H d v
  | _, _, _, _, .nil, e => by simp at e
  | 0, _, _, _, .cons r _, e => by cases e; exact ⟨_, rfl, r⟩
  | n + 1, _, _, _, .cons _ t, e => RepL.get' n t e
theorem RepL.set : ∀ (n : Nat) {xs : List D} {vs : List V} {d : D} {v : V}, Rep K ct m H d v → RepL K ct m H xs vs → RepL K ct m H (xs.set n d) (vs.set n v)
  | _, _, _, _, _, _, .nil => .nil
  | 0, _, _, _, _, q, .cons _ t => .cons q t
  | n + 1, _, _, _, _, q, .cons r t => .cons r (RepL.set n q t)
theorem RepL.rep (r : RepL K ct m H xs vs) : ∀ n : Nat, RepL K ct m H (List.replicate n xs).flatten (List.replicate n vs).flatten
  | 0 => .nil
  | n + 1 => by rw [List.replicate_succ, List.replicate_succ, List.flatten_cons, List.flatten_cons]; exact r.append (RepL.rep r n)
theorem Post.alloc {W : WX} {σ : St} {ao : AO} {Q : VK} {p : Addr} {o : HO} (hr : HR K ct m h H) (hp : H p = none) (ng : ao ≠ .gone) (r : ORep K ct (m ++ [some p]) (upd H p o) p ao)
    (q : Post K ct m H W σ (.ok (.ref h.length) (h ++ [ao])) fun d m' _ H' => ∀ v, Rep K ct m' H' d v → Q v H') : Q (.ref p) (upd H p o) := by
  refine q _ _ (Ext.alloc hp) (hr.alloc hp ng r) _ (.ref ?_)
  rw [← hr.len, List.getElem?_append_right (Nat.le_refl _), Nat.sub_self]; rfl
theorem Post.newLst {W : WX} {σ : St} {ds : List D} {vs : List V} {Q : VK} {p : Addr} (hr : HR K ct m h H) (hp : H p = none) (r : RepL K ct m H ds vs)
    (q : Post K ct m H W σ (.ok (.ref h.length) (h ++ [.lst ds])) fun d m' _ H' => ∀ v, Rep K ct m' H' d v → Q v H') : Q (.ref p) (upd H p (.lst vs)) :=
  Post.alloc (ao := .lst ds) hr hp (by intro z; cases z) ⟨_, upd_same, r.ext (Ext.alloc hp)⟩ q
theorem Post.newTup {W : WX} {σ : St} {ds : List D} {vs : List V} {Q : VK} {p : Addr} (hr : HR K ct m h H) (hp : H p = none) (r : RepL K ct m H ds vs)
    (q : Post K ct m H W σ (.ok (.tup ds) h) fun d m' _ H' => ∀ v, Rep K ct m' H' d v → Q v H') : Q (.ref p) (upd H p (.tup vs)) :=
  q m _ (Ext.new hr hp) (hr.new hp) _ (.tup (.inl (.inl upd_same)) (r.ext (Ext.new hr hp)))
end

/-! ### lists read: tracked or locked -/
section
variable {X : Cx} {pins : List (Addr × Obj)} {σ : St} {H : Hp} {s : Shared}
theorem lstR (I : Inv X pins σ H s) {l : Addr} {xs : List V} (hH : Rd H l (.lst xs)) : xs.length ≤ sizeLine ∧ ∃ (its : List Value) (n : Nat), Vals xs its ∧ xs.length = its.length ∧ s.heap.get? l = some { cls := .type "list", data := .seq its.toArray n } := by
  obtain ⟨z, its, n, r, e⟩ := hH.ok I.hok
  exact ⟨z, its, n, r, r.length, e⟩
def rCatR : R2 := fun x y H Q => ∃ l b xs zs, x = .ref l ∧ y = .ref b ∧ Rd H l (.lst xs) ∧ Rd H b (.lst zs) ∧ xs.length + zs.length ≤ sizeLine ∧ ∀ p, H p = none → Q (.ref p) (upd H p (.lst (xs ++ zs)))
theorem op_catR : OpR X (binaryOp .Add) rCatR := by
  intro pins s σ H x y v u Q I rx ry h
  obtain ⟨l, b, xs, zs, rfl, rfl, hH, hB, hz, q⟩ := h
  cases rx
  cases ry
  obtain ⟨z, its, n, r, hl, e⟩ := lstR I hH
  obtain ⟨z2, its2, n2, r2, hl2, e2⟩ := lstR I hB
  refine PySem.P.add_list e e2 ?_ (by rw [List.size_toArray, List.size_toArray]; omega)
  have ea : its.toArray ++ its2.toArray = (its ++ its2).toArray := by simp
  rw [ea]
  exact ⟨.ref _, _, I.lnew (t' := s.toks) (r.append r2) (by rw [List.length_append]; omega), rfl, q _ I.fresh⟩
end

/-! ### + -/
def addA : D → D → AH → Res D
  | .int i, .int j, h => .ok (.int (i + j)) h
  | .str x, .str y, h => if x.length + y.length ≤ sizeLine then .ok (.str (x ++ y)) h else .stuck
  | .tup xs, .tup ys, h => if xs.length + ys.length ≤ sizeLine then .ok (.tup (xs ++ ys)) h else .stuck
  | .ref a, .ref b, h => match getL h a, getL h b with
    | some xs, some ys => if xs.length + ys.length ≤ sizeLine then .ok (.ref h.length) (h ++ [.lst (xs ++ ys)]) else .stuck
    | _, _ => .stuck
  | _, _, _ => .stuck
abbrev rInt (g : Int → Int → Int) : R2 := rI0 fun i j => .int (g i j)
abbrev rAddS : R2 := fun x y H Q => ∃ i j, x = .str i ∧ y = .str j ∧ i.length + j.length ≤ sizeLine ∧ Q (.str (i ++ j)) H
def rAddA (K : PySem.W.Frag) : R2 := fun x y H Q => rInt (· + ·) x y H Q ∨ rAddS x y H Q ∨ rCatA K x y H Q ∨ rCatR x y H Q
section
variable {X : Cx} {ct : CTab}
theorem op_addA : OpR X (binaryOp .Add) (rAddA X.K) := op_add.or (op_add_str.or (op_catA.or op_catR))
theorem os_add {K : PySem.W.Frag} : OpS K ct (rAddA K) addA := by
  intro m H h x y vx vy Q W σ hr rx ry p
  unfold addA at p
  split at p
  · cases rx; cases ry
    exact .inl ⟨_, _, rfl, rfl, Post.val p hr .int⟩
  · cases rx; cases ry
    split at p
    · rename_i hl
      exact .inr (.inl ⟨_, _, rfl, rfl, hl, Post.val p hr .str⟩)
    · exact (show False from p).elim
  · rename_i xs ys
    cases rx with
    | tup sx lx =>
      cases ry with
      | tup sy ly =>
        split at p
        · rename_i hl
          refine .inr (.inr (.inl ⟨_, _, _, _, rfl, rfl, sx, sy, by rw [← lx.length, ← ly.length]; exact hl, fun e => ?_, fun _ e => ?_, fun _ _ p' hp => ?_⟩))
          · subst e
            cases lx
            exact Post.val (d := .tup ([] ++ ys)) p hr (.tup sy ly)
          · subst e
            cases ly
            rw [List.append_nil] at p
            exact Post.val p hr (.tup sx lx)
          · exact Post.newTup hr hp (lx.append ly) p
        · exact (show False from p).elim
  · rename_i a b
    split at p
    · rename_i xs ys ex ey
      split at p
      · rename_i hl
        obtain ⟨la, va, rfl, _, ra, rla⟩ := hr.getL ex rx
        obtain ⟨lb, vb, rfl, _, rb, rlb⟩ := hr.getL ey ry
        refine .inr (.inr (.inr ⟨la, lb, va, vb, rfl, rfl, ra, rb, by rw [← rla.length, ← rlb.length]; exact hl, fun q hq => ?_⟩))
        exact Post.newLst hr hq (rla.append rlb) p
      · exact (show False from p).elim
    · exact (show False from p).elim
  · exact (show False from p).elim
end

/-! ### the other operators on whole numbers, and repeated sequences -/
def subA : D → D → AH → Res D
  | .int i, .int j, h => .ok (.int (i - j)) h
  | _, _, _ => .stuck
def mulA : D → D → AH → Res D
  | .int i, .int j, h => if ((-(2 ^ 64) < i ∧ i < 2 ^ 64) ∨ (-(2 ^ 64) < j ∧ j < 2 ^ 64)) then .ok (.int (i * j)) h else .stuck
  | .ref a, .int k, h => match h[a]? with
    | some (.lst xs) => if -(2 ^ 63) ≤ k ∧ k < 2 ^ 63 ∧ xs.length * k.toNat ≤ sizeLine then .ok (.ref h.length) (h ++ [.lst (List.replicate k.toNat xs).flatten]) else .stuck
    | _ => .stuck
  | .tup xs, .int k, h => if xs ≠ [] ∧ 2 ≤ k ∧ k ≤ 1000 ∧ xs.length ≤ 1000 then .ok (.tup (List.replicate k.toNat xs).flatten) h else .stuck
  | _, _, _ => .stuck
def fdivA : D → D → AH → Res D
  | .int i, .int j, h => if 0 < j ∧ j < 1073741824 then .ok (.int (i / j)) h else .stuck
  | _, _, _ => .stuck
def modA : D → D → AH → Res D
  | .int i, .int j, h => if 0 < j then .ok (.int (i % j)) h else .stuck
  | _, _, _ => .stuck
def powA : D → D → AH → Res D
  | .int i, .int j, h => if 0 ≤ j ∧ j ≤ 1000000 ∧ i.natAbs < 2 ^ 64 then .ok (.int (i ^ j.toNat)) h else .stuck
  | _, _, _ => .stuck
def negA : D → AH → Res D
  | .int i, h => .ok (.int (-i)) h
  | _, _ => .stuck
def rMulA (K : PySem.W.Frag) : R2 := fun x y H Q => rI CMul (fun i j => .int (i * j)) x y H Q ∨ rRep x y H Q ∨ rRepT K x y H Q
section
variable {X : Cx} {ct : CTab} {K : PySem.W.Frag}
theorem os_sub : OpS K ct (rInt (· - ·)) subA := by
  intro m H h x y vx vy Q W σ hr rx ry p
  unfold subA at p
  split at p
  · cases rx; cases ry
    exact ⟨_, _, rfl, rfl, Post.val p hr .int⟩
  · exact (show False from p).elim
theorem op_mulA : OpR X (binaryOp .Mult) (rMulA X.K) := op_mul.or (op_rep.or op_repT)
theorem os_mul : OpS K ct (rMulA K) mulA := by
  intro m H h x y vx vy Q W σ hr rx ry p
  unfold mulA at p
  split at p
  · cases rx; cases ry
    split at p
    · rename_i hc
      exact .inl ⟨_, _, rfl, rfl, hc, Post.val p hr .int⟩
    · exact (show False from p).elim
  · cases ry
    split at p
    · rename_i xs ex
      split at p
      · rename_i hc
        obtain ⟨a, vs, rfl, ea, e, rl⟩ := hr.lst ex rx
        exact .inr (.inl ⟨a, _, vs, rfl, rfl, e, hc.1, hc.2.1, by rw [← rl.length]; exact hc.2.2, fun q hq => Post.newLst hr hq (rl.rep _) p⟩)
      · exact (show False from p).elim
    · exact (show False from p).elim
  · rename_i xs k
    cases ry
    cases rx with
    | tup sx lx =>
      split at p
      · rename_i hc
        refine .inr (.inr ⟨_, _, _, rfl, rfl, sx, fun z => ?_, hc.2.1, hc.2.2.1, by rw [← lx.length]; exact hc.2.2.2, fun q hq => Post.newTup hr hq (lx.rep _) p⟩)
        subst z
        cases lx
        exact hc.1 rfl
      · exact (show False from p).elim
  · exact (show False from p).elim
theorem os_fdiv : OpS K ct (rI CDiv fun i j => .int (i / j)) fdivA := by
  intro m H h x y vx vy Q W σ hr rx ry p
  unfold fdivA at p
  split at p
  · cases rx; cases ry
    split at p
    · rename_i hc
      exact ⟨_, _, rfl, rfl, hc, Post.val p hr .int⟩
    · exact (show False from p).elim
  · exact (show False from p).elim
theorem os_mod : OpS K ct (rI (fun _ j => 0 < j) fun i j => .int (i % j)) modA := by
  intro m H h x y vx vy Q W σ hr rx ry p
  unfold modA at p
  split at p
  · cases rx; cases ry
    split at p
    · rename_i hc
      exact ⟨_, _, rfl, rfl, hc, Post.val p hr .int⟩
    · exact (show False from p).elim
  · exact (show False from p).elim
theorem os_pow : OpS K ct (rI CPow fun i j => .int (i ^ j.toNat)) powA := by
  intro m H h x y vx vy Q W σ hr rx ry p
  unfold powA at p
  split at p
  · cases rx; cases ry
    split at p
    · rename_i hc
      exact ⟨_, _, rfl, rfl, hc, Post.val p hr .int⟩
    · exact (show False from p).elim
  · exact (show False from p).elim
theorem us_neg : UnS K ct (rU fun i => .int (-i)) negA := by
  intro m H h x vx Q W σ hr rx p
  unfold negA at p
  split at p
  · cases rx
    exact ⟨_, rfl, Post.val p hr .int⟩
  · exact (show False from p).elim
end

/-! ### order of whole numbers, is None -/
def cmpI (g : Int → Int → Bool) : D → D → AH → Res D
  | .int i, .int j, h => .ok (.bl (g i j)) h
  | _, _, _ => .stuck
def isNA : D → D → AH → Res D
  | x, .non, h => match x with
    | .non => .ok (.bl true) h
    | .ref n => match h[n]? with
      | some .gone => .stuck
      | some _ => .ok (.bl false) h
      | none => .stuck
    | _ => .ok (.bl false) h
  | _, _, _ => .stuck
def isNotNA : D → D → AH → Res D := fun x y h => (isNA x y h).bind fun d h1 => match d with
  | .bl b => .ok (.bl (!b)) h1
  | _ => .stuck
section
variable {X : Cx} {ct : CTab} {K : PySem.W.Frag}
theorem os_cmpI {g : Int → Int → Bool} : OpS K ct (rI0 fun i j => .bl (g i j)) (cmpI g) := by
  intro m H h x y vx vy Q W σ hr rx ry p
  unfold cmpI at p
  split at p
  · cases rx; cases ry
    exact ⟨_, _, rfl, rfl, Post.val p hr .bl⟩
  · exact (show False from p).elim
theorem isN_val {m : Mp} {H : Hp} {h : AH} {x y : D} {vx vy : V} (hr : HR K ct m h H) (rx : Rep K ct m H x vx) (ry : Rep K ct m H y vy) {r : Res D} (e : isNA x y h = r) (ns : r ≠ .stuck) : vy = .non ∧ r = .ok (.bl (decide (vx = .non))) h := by
  subst e
  unfold isNA at ns ⊢
  split at ns
  · cases ry
    refine ⟨rfl, ?_⟩
    split at ns
    · cases rx; rfl
    · split at ns
      · exact (ns rfl).elim
      · rename_i o' ng eo
        obtain ⟨a, rfl, _⟩ := hr.at eo ng rx
        rfl
      · exact (ns rfl).elim
    · rename_i z1 z2 z3
      cases rx with
      | non => exact (z2 rfl).elim
      | ref _ => exact (z3 _ rfl).elim
      | lost _ => exact (z3 _ rfl).elim
      | _ => rfl
  · exact (ns rfl).elim
theorem os_isN : OpS K ct (fun x y H Q => y = .non ∧ Q (.bl (decide (x = .non))) H) isNA := by
  intro m H h x y vx vy Q W σ hr rx ry p
  obtain ⟨e1, e2⟩ := isN_val hr rx ry rfl p.ne
  rw [e2] at p
  exact ⟨e1, Post.val p hr .bl⟩
theorem os_notN : OpS K ct (fun x y H Q => y = .non ∧ Q (.bl (!decide (x = .non))) H) isNotNA := by
  intro m H h x y vx vy Q W σ hr rx ry p
  unfold isNotNA at p
  obtain ⟨e1, e2⟩ := isN_val hr rx ry rfl (by intro z; rw [z] at p; exact p)
  rw [e2] at p
  exact ⟨e1, Post.val (d := .bl (!decide (vx = .non))) p hr .bl⟩
end

/-! ### data: == and in -/
def toPyL (f : D → Option PyData) : List D → Option (List PyData)
  | [] => some []
  | d :: ds => (f d).bind fun p => (toPyL f ds).bind fun ps => some (p :: ps)
def toPy (h : AH) : Nat → D → Option PyData
  | _, .non => some .none
  | _, .bl b => some (.bool b)
  | _, .int i => some (.int i)
  | _, .str x => some (.str x)
  | n + 1, .tup ds => (toPyL (toPy h n) ds).map .tuple
  | n + 1, .ref a => match getL h a with
    | some xs => (toPyL (toPy h n) xs).map .list
    | none => none
  | _, _ => none
section
variable {K : PySem.W.Frag} {ct : CTab} {m : Mp} {H : Hp} {h : AH}
theorem toPyL_dp {f : D → Option PyData} (ih : ∀ d v p, f d = some p → Rep K ct m H d v → Dp K H v p) : ∀ {ds : List D} {vs : List V} {ps : List PyData}, toPyL f ds = some ps → RepL K ct m H ds vs → DpAll K H vs ps
  | _, _, _, e, .nil => by cases e; exact .nil
  | _, _, _, e, .cons r t => by
    obtain ⟨p, e1, e2⟩ := Option.bind_eq_some_iff.mp e
    obtain ⟨ps, e3, e4⟩ := Option.bind_eq_some_iff.mp e2
    cases e4
    exact .cons (ih _ _ _ e1 r) (toPyL_dp ih e3 t)
theorem toPy_dp (hr : HR K ct m h H) : ∀ (n : Nat) (d : D) (v : V) (p : PyData), toPy h n d = some p → Rep K ct m H d v → Dp K H v p
  | n, .non, v, p, e, r => by unfold toPy at e; cases e; cases r; exact .non
  | n, .bl b, v, p, e, r => by unfold toPy at e; cases e; cases r; exact .bl _
  | n, .int b, v, p, e, r => by unfold toPy at e; cases e; cases r; exact .int _
  | n, .str b, v, p, e, r => by unfold toPy at e; cases e; cases r; exact .str _
  | 0, .tup ds, v, p, e, r => by unfold toPy at e; cases e
  | n + 1, .tup ds, v, p, e, r => by
    unfold toPy at e
    obtain ⟨ps, e1, rfl⟩ := Option.map_eq_some_iff.mp e
    cases r with
    | tup s rl => exact .tup s (toPyL_dp (toPy_dp hr n) e1 rl)
  | 0, .ref a, v, p, e, r => by unfold toPy at e; cases e
  | n + 1, .ref a, v, p, e, r => by
    unfold toPy at e
    split at e
    · rename_i xs ex
      obtain ⟨ps, e1, rfl⟩ := Option.map_eq_some_iff.mp e
      obtain ⟨b, vs, rfl, _, rd, rl⟩ := hr.getL ex r
      exact .lst (.inl rd) (toPyL_dp (toPy_dp hr n) e1 rl)
    · cases e
  | n, .obj c fs, v, p, e, r => by unfold toPy at e; cases e
  | n, .ty c, v, p, e, r => by unfold toPy at e; cases e
  | n, .cls c, v, p, e, r => by unfold toPy at e; cases e
end
def py (h : AH) (d : D) : Option PyData := match toPy h 40 d with
  | some p => if SeqAt.shaped p = true then some p else none
  | none => none
def eqA : D → D → AH → Res D := fun x y h => match py h x, py h y with
  | some p, some q => .ok (.bl (PyData.eqv p q)) h
  | _, _ => .stuck
def neA : D → D → AH → Res D := fun x y h => match py h x, py h y with
  | some p, some q => .ok (.bl (!PyData.eqv p q)) h
  | _, _ => .stuck
/-- x in y -/
def inB (x y : D) (h : AH) : Option Bool := match x, y with
  | .str a, .str b => some (!(Builtin.Str.occurrences b a 0 b.length 1).isEmpty)
  | _, _ => match py h x, py h y with
    | some p, some (.list ps) => some (ps.any fun z => PyData.eqv z p)
    | some p, some (.tuple ps) => some (ps.any fun z => PyData.eqv z p)
    | _, _ => none
def inA : D → D → AH → Res D := fun x y h => match inB x y h with
  | some b => .ok (.bl b) h
  | none => .stuck
def notInA : D → D → AH → Res D := fun x y h => match inB x y h with
  | some b => .ok (.bl (!b)) h
  | none => .stuck
section
variable {K : PySem.W.Frag} {ct : CTab} {m : Mp} {H : Hp} {h : AH} {X : Cx}
theorem py_dp (hr : HR K ct m h H) {d : D} {v : V} {p : PyData} (e : py h d = some p) (r : Rep K ct m H d v) : Dp K H v p ∧ SeqAt.shaped p = true := by
  unfold py at e
  split at e
  · rename_i q eq
    split at e
    · rename_i hs
      cases e
      exact ⟨toPy_dp hr 40 d v _ eq r, hs⟩
    · cases e
  · cases e
theorem os_eq : OpS K ct (rEqD K) eqA := by
  intro m H h x y vx vy Q W σ hr rx ry p
  unfold eqA at p
  split at p
  · rename_i a b ea eb
    obtain ⟨da, sa⟩ := py_dp hr ea rx
    obtain ⟨db, sb⟩ := py_dp hr eb ry
    exact ⟨a, b, da, db, sa, sb, Post.val p hr .bl⟩
  · exact (show False from p).elim
theorem os_ne : OpS K ct (rNeD K) neA := by
  intro m H h x y vx vy Q W σ hr rx ry p
  unfold neA at p
  split at p
  · rename_i a b ea eb
    obtain ⟨da, sa⟩ := py_dp hr ea rx
    obtain ⟨db, sb⟩ := py_dp hr eb ry
    exact ⟨a, b, da, db, sa, sb, Post.val p hr .bl⟩
  · exact (show False from p).elim
def rInT (K : PySem.W.Frag) : R2 := fun x y H Q => ∃ d ds, Dp K H x d ∧ Dp K H y (.tuple ds) ∧ SeqAt.shaped d = true ∧ SeqAt.shaped (.tuple ds) = true ∧ Q (.bl (ds.any fun z => PyData.eqv z d)) H
def rNotInT (K : PySem.W.Frag) : R2 := fun x y H Q => ∃ d ds, Dp K H x d ∧ Dp K H y (.tuple ds) ∧ SeqAt.shaped d = true ∧ SeqAt.shaped (.tuple ds) = true ∧ Q (.bl (!ds.any fun z => PyData.eqv z d)) H
theorem room_t {A : Around} {d : PyData} {ds : List PyData} (sd : SeqAt.shaped d = true) (hu : A.units + 65 < cLine) : A.units + 1 + min (PyData.depthAll ds) d.depth < cLine := by
  have h1 := SeqAt.depth_of_shaped sd
  have h2 : min (PyData.depthAll ds) d.depth ≤ d.depth := Nat.min_le_right _ _
  omega
theorem op_inT (hu : X.A.units + 65 < cLine) : OpR X (compareOp .In) (rInT X.K) := by
  intro pins s σ H x y v u Q I rx ry h
  obtain ⟨d, ds, hd, he, sd, se, q⟩ := h
  obtain ⟨as, r1⟩ := Dp.reads I d x v hd rx
  obtain ⟨bs, r2⟩ := Dp.reads I (.tuple ds) y u he ry
  exact SeqAt.in_tuple_reads r2 r1 (SeqAt.canLay_of_shaped se) (SeqAt.canLay_of_shaped sd) (room_t sd hu) ⟨.bl _, H, I, rfl, q⟩
theorem op_notInT (hu : X.A.units + 65 < cLine) : OpR X (compareOp .NotIn) (rNotInT X.K) := by
  intro pins s σ H x y v u Q I rx ry h
  obtain ⟨d, ds, hd, he, sd, se, q⟩ := h
  obtain ⟨as, r1⟩ := Dp.reads I d x v hd rx
  obtain ⟨bs, r2⟩ := Dp.reads I (.tuple ds) y u he ry
  exact SeqAt.notIn_tuple_reads r2 r1 (SeqAt.canLay_of_shaped se) (SeqAt.canLay_of_shaped sd) (room_t sd hu) ⟨.bl _, H, I, rfl, q⟩
abbrev rInS : R2 := fun x y H Q => ∃ i j, x = .str i ∧ y = .str j ∧ Q (.bl (!(Builtin.Str.occurrences j i 0 j.length 1).isEmpty)) H
abbrev rNotInS : R2 := fun x y H Q => ∃ i j, x = .str i ∧ y = .str j ∧ Q (.bl (!(!(Builtin.Str.occurrences j i 0 j.length 1).isEmpty))) H
def rInA (K : PySem.W.Frag) : R2 := fun x y H Q => rInS x y H Q ∨ rInD K x y H Q ∨ rInT K x y H Q
def rNotInA (K : PySem.W.Frag) : R2 := fun x y H Q => rNotInS x y H Q ∨ rNotInD K x y H Q ∨ rNotInT K x y H Q
theorem op_inA (hu : X.A.units + 65 < cLine) : OpR X (compareOp .In) (rInA X.K) := op_in_str.or ((op_inD hu).or (op_inT hu))
theorem op_notInA (hu : X.A.units + 65 < cLine) : OpR X (compareOp .NotIn) (rNotInA X.K) := op_notin_str.or ((op_notInD hu).or (op_notInT hu))
theorem os_in : OpS K ct (rInA K) inA := by
  intro m H h x y vx vy Q W σ hr rx ry p
  unfold inA at p
  split at p
  · rename_i b eb
    unfold inB at eb
    split at eb
    · cases eb; cases rx; cases ry
      exact .inl ⟨_, _, rfl, rfl, Post.val p hr .bl⟩
    · split at eb
      · rename_i a ps ea ep
        cases eb
        obtain ⟨da, sa⟩ := py_dp hr ea rx
        obtain ⟨db, sb⟩ := py_dp hr ep ry
        exact .inr (.inl ⟨a, ps, da, db, sa, sb, Post.val p hr .bl⟩)
      · rename_i a ps ea ep
        cases eb
        obtain ⟨da, sa⟩ := py_dp hr ea rx
        obtain ⟨db, sb⟩ := py_dp hr ep ry
        exact .inr (.inr ⟨a, ps, da, db, sa, sb, Post.val p hr .bl⟩)
      · cases eb
  · exact (show False from p).elim
theorem os_notIn : OpS K ct (rNotInA K) notInA := by
  intro m H h x y vx vy Q W σ hr rx ry p
  unfold notInA at p
  split at p
  · rename_i b eb
    unfold inB at eb
    split at eb
    · cases eb; cases rx; cases ry
      exact .inl ⟨_, _, rfl, rfl, Post.val p hr .bl⟩
    · split at eb
      · rename_i a ps ea ep
        cases eb
        obtain ⟨da, sa⟩ := py_dp hr ea rx
        obtain ⟨db, sb⟩ := py_dp hr ep ry
        exact .inr (.inl ⟨a, ps, da, db, sa, sb, Post.val p hr .bl⟩)
      · rename_i a ps ea ep
        cases eb
        obtain ⟨da, sa⟩ := py_dp hr ea rx
        obtain ⟨db, sb⟩ := py_dp hr ep ry
        exact .inr (.inr ⟨a, ps, da, db, sa, sb, Post.val p hr .bl⟩)
      · cases eb
  · exact (show False from p).elim
end
end Led
/-! LedDict: dicts with keys that are whole numbers and texts, or tuples (nested). -/
namespace Led
open PySem L2

def kOf : D → Option Key
  | .int i => some (.inl i)
  | .str x => some (.inr x)
  | _ => none
def isTp : D → Bool
  | .tup _ => true
  | _ => false
def kdep (d : D) : Bool := match nkOf d with
  | some k => decide (k.depth ≤ 8)
  | none => false
/-- the key is of the dict's kind -/
def okKey (kvs : List (D × D)) (k : D) : Bool := ((kOf k).isSome && kvs.all fun p => (kOf p.1).isSome) || ((isTp k && kdep k) && kvs.all fun p => isTp p.1)
def sameK (k : D) (p : D × D) : Bool := decide (nkOf p.1 = nkOf k)
def dfind (kvs : List (D × D)) (k : D) : Option D := (kvs.find? (sameK k)).map (·.2)
def dput (kvs : List (D × D)) (k v : D) : List (D × D) := if kvs.any (sameK k) then kvs.map fun p => if sameK k p = true then (p.1, v) else p else kvs ++ [(k, v)]
def ddrop (kvs : List (D × D)) (k : D) : List (D × D) := kvs.filter fun p => !sameK k p

/-! ### pairs of lists -/
section
variable {α β : Type} {R : α → β → Prop} {f : α → Bool} {g : β → Bool}
theorem pr_find (h : ∀ a b, R a b → f a = g b) : ∀ {as : List α} {bs : List β}, Paired R as bs → (as.find? f = none ∧ bs.find? g = none) ∨ ∃ a b, as.find? f = some a ∧ bs.find? g = some b ∧ R a b
  | _, _, .nil => .inl ⟨rfl, rfl⟩
  | _, _, .cons (a := a) (b := b) r t => by
    have e := h a b r
    cases q : f a with
    | true => exact .inr ⟨a, b, by rw [List.find?_cons, q], by rw [List.find?_cons, ← e, q], r⟩
    | false =>
      rcases pr_find h t with ⟨h1, h2⟩ | ⟨a', b', h1, h2, r'⟩
      · exact .inl ⟨by rw [List.find?_cons, q]; exact h1, by rw [List.find?_cons, ← e, q]; exact h2⟩
      · exact .inr ⟨a', b', by rw [List.find?_cons, q]; exact h1, by rw [List.find?_cons, ← e, q]; exact h2, r'⟩
theorem pr_any (h : ∀ a b, R a b → f a = g b) : ∀ {as : List α} {bs : List β}, Paired R as bs → as.any f = bs.any g
  | _, _, .nil => rfl
  | _, _, .cons (a := a) (b := b) r t => by rw [List.any_cons, List.any_cons, h a b r, pr_any h t]
theorem pr_map {γ δ : Type} {S : γ → δ → Prop} {F : α → γ} {G : β → δ} (h : ∀ a b, R a b → S (F a) (G b)) : ∀ {as : List α} {bs : List β}, Paired R as bs → Paired S (as.map F) (bs.map G)
  | _, _, .nil => .nil
  | _, _, .cons r t => .cons (h _ _ r) (pr_map h t)
theorem pr_append : ∀ {as as' : List α} {bs bs' : List β}, Paired R as bs → Paired R as' bs' → Paired R (as ++ as') (bs ++ bs')
  | _, _, _, _, .nil, s => s
  | _, _, _, _, .cons r t, s => .cons r (pr_append t s)
theorem pr_filter (h : ∀ a b, R a b → f a = g b) : ∀ {as : List α} {bs : List β}, Paired R as bs → Paired R (as.filter f) (bs.filter g)
  | _, _, .nil => .nil
  | _, _, .cons (a := a) (b := b) r t => by
    have e := h a b r
    cases q : f a with
    | true => rw [List.filter_cons_of_pos q, List.filter_cons_of_pos (by rw [← e]; exact q)]; exact .cons r (pr_filter h t)
    | false => rw [List.filter_cons_of_neg (by rw [q]; exact Bool.false_ne_true), List.filter_cons_of_neg (by rw [← e, q]; exact Bool.false_ne_true)]; exact pr_filter h t
theorem pr_imp {S : α → β → Prop} : ∀ {as : List α} {bs : List β}, (∀ a ∈ as, ∀ b, R a b → S a b) → Paired R as bs → Paired S as bs
  | _, _, _, .nil => .nil
  | _, _, h, .cons r t => .cons (h _ List.mem_cons_self _ r) (pr_imp (fun a ha => h a (List.mem_cons_of_mem _ ha)) t)
end

/-! ### keys -/
theorem nk_of_k {d : D} {k : Key} (h : kOf d = some k) : nkOf d = some (match k with | .inl i => .num i | .inr x => .text x) := by
  cases d <;> first | (cases h; rfl) | cases h
def nkK : Key → NestedKey
  | .inl i => .num i
  | .inr x => .text x
theorem nkK_inj {a b : Key} (h : nkK a = nkK b) : a = b := by
  cases a <;> cases b <;> first | (cases h; rfl) | cases h
theorem nkOf_k {d : D} {k : Key} (h : kOf d = some k) : nkOf d = some (nkK k) := by
  cases d <;> first | (cases h; rfl) | cases h
theorem hash_k (w : World) (k : Key) : (nkK k).hash w = keyH w k := by cases k <;> rfl
section
variable {K : PySem.W.Frag} {ct : CTab} {m : Mp} {H : Hp}
theorem rep_k {d : D} {k : Key} {v : V} (h : kOf d = some k) (r : Rep K ct m H d v) : v = kV k := by
  cases d <;> first | (cases h; cases r; rfl) | cases h
theorem rep_kV {d : D} {k : Key} (h : kOf d = some k) : Rep K ct m H d (kV k) := by
  cases d <;> first | (cases h; first | exact .int | exact .str) | cases h
end

/-! ### the two views -/
section
variable (K : PySem.W.Frag) (ct : CTab) (m : Mp) (H : Hp)
abbrev SV : List (D × D) → List (Key × Value) → Prop := Paired fun p q => kOf p.1 = some q.1 ∧ ∃ v, RelV v q.2 ∧ Rep K ct m H p.2 v
abbrev TV : List (D × D) → List (NestedKey × Addr × Value) → Prop := Paired fun p x => nkOf p.1 = some x.1 ∧ x.1.depth ≤ 8 ∧ isTp p.1 = true ∧ Rep K ct m H p.1 (.ref x.2.1) ∧ ∃ v, RelV v x.2.2 ∧ Rep K ct m H p.2 v
end
section
variable {K : PySem.W.Frag} {ct : CTab} {m : Mp} {H : Hp} {kvs : List (D × D)}
theorem SV.same {k : D} {kk : Key} (hk : kOf k = some kk) {p : D × D} {q : Key × Value} (r : kOf p.1 = some q.1) : sameK k p = decide (q.1 = kk) := by
  unfold sameK
  rw [nkOf_k r, nkOf_k hk]
  by_cases e : q.1 = kk
  · rw [decide_eq_true e, e]; exact decide_eq_true rfl
  · rw [decide_eq_false e]; exact decide_eq_false fun z => e (nkK_inj (Option.some.inj z))
theorem TV.same {k : D} {kk : NestedKey} (hk : nkOf k = some kk) {p : D × D} {x : NestedKey} (r : nkOf p.1 = some x) : sameK k p = decide (x = kk) := by
  unfold sameK
  rw [r, hk]
  by_cases e : x = kk
  · rw [decide_eq_true e, e]; exact decide_eq_true rfl
  · rw [decide_eq_false e]; exact decide_eq_false fun z => e (Option.some.inj z)
/-- what is found -/
theorem SV.find {vs : List (Key × Value)} {k : D} {kk : Key} (hk : kOf k = some kk) (r : SV K ct m H kvs vs) :
    (dfind kvs k = none ∧ valueAt vs kk = none) ∨ ∃ d u v, dfind kvs k = some d ∧ valueAt vs kk = some u ∧ RelV v u ∧ Rep K ct m H d v := by
  rcases pr_find (f := sameK k) (g := fun q : Key × Value => decide (q.1 = kk)) (fun a b q => SV.same hk q.1) r with ⟨h1, h2⟩ | ⟨a, b, h1, h2, q, v, rv, rp⟩
  · exact .inl ⟨by unfold dfind; rw [h1]; rfl, by unfold valueAt; rw [h2]; rfl⟩
  · exact .inr ⟨a.2, b.2, v, by unfold dfind; rw [h1]; rfl, by unfold valueAt; rw [h2]; rfl, rv, rp⟩
theorem TV.find {xs : List (NestedKey × Addr × Value)} {k : D} {kk : NestedKey} (hk : nkOf k = some kk) (r : TV K ct m H kvs xs) :
    (dfind kvs k = none ∧ atKey xs kk = none) ∨ ∃ d p v, dfind kvs k = some d ∧ atKey xs kk = some p ∧ RelV v p.2 ∧ Rep K ct m H d v := by
  rcases pr_find (f := sameK k) (g := fun q : NestedKey × Addr × Value => decide (q.1 = kk)) (fun a b q => TV.same hk q.1) r with ⟨h1, h2⟩ | ⟨a, b, h1, h2, q, _, _, _, v, rv, rp⟩
  · exact .inl ⟨by unfold dfind; rw [h1]; rfl, by unfold atKey; rw [h2]; rfl⟩
  · exact .inr ⟨a.2, b.2, v, by unfold dfind; rw [h1]; rfl, by unfold atKey; rw [h2]; rfl, rv, rp⟩
theorem SV.put {vs : List (Key × Value)} {k d : D} {kk : Key} {v : V} {u : Value} (hk : kOf k = some kk) (ru : RelV v u) (rd : Rep K ct m H d v) (r : SV K ct m H kvs vs) : SV K ct m H (dput kvs k d) (stored vs kk u) := by
  unfold dput stored
  rw [pr_any (f := sameK k) (g := fun q : Key × Value => decide (q.1 = kk)) (fun a b q => SV.same hk q.1) r]
  split
  · refine pr_map (fun a b q => ?_) r
    have e := SV.same hk q.1
    by_cases z : b.1 = kk
    · rw [decide_eq_true z] at e
      rw [if_pos e, if_pos z]
      exact ⟨q.1, v, ru, rd⟩
    · rw [decide_eq_false z] at e
      rw [if_neg (by rw [e]; exact Bool.false_ne_true), if_neg z]
      exact q
  · exact pr_append r (.cons ⟨hk, v, ru, rd⟩ .nil)
theorem TV.put {xs : List (NestedKey × Addr × Value)} {k d : D} {kk : NestedKey} {b : Addr} {v : V} {u : Value} (hk : nkOf k = some kk) (hd : kk.depth ≤ 8) (ht : isTp k = true) (rk : Rep K ct m H k (.ref b)) (ru : RelV v u) (rd : Rep K ct m H d v)
    (r : TV K ct m H kvs xs) : TV K ct m H (dput kvs k d) (storedH xs kk b u) := by
  unfold dput storedH
  have ha : kvs.any (sameK k) = (atKey xs kk).isSome := by
    rw [pr_any (f := sameK k) (g := fun q : NestedKey × Addr × Value => decide (q.1 = kk)) (fun a b q => TV.same hk q.1) r]
    unfold atKey
    rw [Option.isSome_map, List.isSome_find?]
  rw [ha]
  split
  · refine pr_map (fun a x q => ?_) r
    have e := TV.same hk q.1
    unfold putAt
    by_cases z : x.1 = kk
    · rw [decide_eq_true z] at e
      rw [if_pos e, if_pos z]
      exact ⟨q.1, q.2.1, q.2.2.1, q.2.2.2.1, v, ru, rd⟩
    · rw [decide_eq_false z] at e
      rw [if_neg (by rw [e]; exact Bool.false_ne_true), if_neg z]
      exact q
  · exact pr_append r (.cons ⟨hk, hd, ht, rk, v, ru, rd⟩ .nil)
theorem SV.ext {m' : Mp} {H' : Hp} {vs : List (Key × Value)} (e : Ext m H m' H') (r : SV K ct m H kvs vs) : SV K ct m' H' kvs vs := pr_imp (fun a _ b q => ⟨q.1, let ⟨v, x, y⟩ := q.2; ⟨v, x, y.ext e⟩⟩) r
theorem TV.ext {m' : Mp} {H' : Hp} {xs : List (NestedKey × Addr × Value)} (e : Ext m H m' H') (r : TV K ct m H kvs xs) : TV K ct m' H' kvs xs :=
  pr_imp (fun a _ b q => ⟨q.1, q.2.1, q.2.2.1, q.2.2.2.1.ext e, let ⟨v, x, y⟩ := q.2.2.2.2; ⟨v, x, y.ext e⟩⟩) r
end

/-! ### from the entries to the views and back -/
section
variable {K : PySem.W.Frag} {ct : CTab} {m : Mp} {H : Hp} {P : Program}
theorem key_of_rel {d : D} {k : Key} {v : V} {u : Value} (h : kOf d = some k) (r : Rep K ct m H d v) (ru : RelV v u) : keyIs k u = true := by
  rw [rep_k h r] at ru
  cases k with
  | inl i => obtain ⟨t, rfl⟩ := (show ∃ t, u = Value.int i t from ru); exact keyIs_int i t
  | inr x => obtain ⟨t, rfl⟩ := (show ∃ t, u = Value.str x t from ru); exact keyIs_str x t
theorem SV.of : ∀ {kvs : List (D × D)} {es : List DictEntry}, DRep K ct m H kvs es → (kvs.all fun p => (kOf p.1).isSome) = true →
    ∃ vs, SV K ct m H kvs vs ∧ Pairs (mixKind P ct.w) es vs ∧ (∀ e ∈ es, ∃ k, keyIs k e.key = true ∧ e.hash = keyH ct.w k)
  | _, _, .nil, _ => ⟨[], .nil, .nil, fun _ h => by cases h⟩
  | _, _, .cons (a := p) (b := e) r t, h => by
    rw [List.all_cons, Bool.and_eq_true] at h
    obtain ⟨kk, hk⟩ := Option.isSome_iff_exists.mp h.1
    obtain ⟨vs, s, ps, ks⟩ := SV.of t h.2
    obtain ⟨nk, hn, hh, _⟩ := r.hash
    obtain ⟨vk, rk1, rk2⟩ := r.key
    obtain ⟨vv, rv1, rv2⟩ := r.val
    rw [nkOf_k hk] at hn
    have ki := key_of_rel hk rk2 rk1
    refine ⟨(kk, e.val) :: vs, .cons ⟨hk, vv, rv1, rv2⟩ s, .cons ki rfl ps, fun x hx => ?_⟩
    rcases List.mem_cons.mp hx with q | q
    · subst q
      exact ⟨kk, ki, by rw [hh, ← Option.some.inj hn, hash_k]⟩
    · exact ks x q
theorem SV.back : ∀ {kvs : List (D × D)} {es : List DictEntry} {vs : List (Key × Value)}, SV K ct m H kvs vs → Pairs (mixKind P ct.w) es vs → (∀ e ∈ es, ∃ k, keyIs k e.key = true ∧ e.hash = keyH ct.w k) → DRep K ct m H kvs es
  | _, _, _, .nil, .nil, _ => .nil
  | _, _, _, .cons (a := p) (b := q) r t, .cons (e := e) h1 h2 ps, ks => by
    refine .cons ⟨?_, ?_, ?_⟩ (SV.back t ps fun x hx => ks x (List.mem_cons_of_mem _ hx))
    · obtain ⟨k, hk, hh⟩ := ks e List.mem_cons_self
      have ek : k = q.1 := (mixKind P ct.w).inj e.key k q.1 hk h1
      exact ⟨nkK q.1, nkOf_k r.1, by rw [hh, hash_k, ek], by cases q.1 <;> exact Nat.zero_le _⟩
    · refine ⟨kV q.1, ?_, rep_kV r.1⟩
      rcases keyIs_shape (show keyIs q.1 e.key = true from h1) with ⟨i, t, a, b⟩ | ⟨i, t, a, b⟩ <;> (rw [a, b]; exact ⟨t, rfl⟩)
    · obtain ⟨v, rv, rp⟩ := r.2
      exact ⟨v, by rw [h2]; exact rv, rp⟩
theorem tp_ref {d : D} {v : V} (h : isTp d = true) (r : Rep K ct m H d v) : ∃ b, v = .ref b := by
  cases d with
  | tup ds => cases r; exact ⟨_, rfl⟩
  | _ => cases h
theorem TV.of : ∀ {kvs : List (D × D)} {es : List DictEntry}, DRep K ct m H kvs es → (kvs.all fun p => isTp p.1) = true →
    ∃ xs, TV K ct m H kvs xs ∧ es = xs.map (entryOfKey (nestedKind P ct.w))
  | _, _, .nil, _ => ⟨[], .nil, rfl⟩
  | _, _, .cons (a := p) (b := e) r t, h => by
    rw [List.all_cons, Bool.and_eq_true] at h
    obtain ⟨xs, s, es⟩ := TV.of t h.2
    obtain ⟨nk, hn, hh, hd⟩ := r.hash
    obtain ⟨vk, rk1, rk2⟩ := r.key
    obtain ⟨vv, rv1, rv2⟩ := r.val
    obtain ⟨b, rfl⟩ := tp_ref h.1 rk2
    refine ⟨(nk, b, e.val) :: xs, .cons ⟨hn, hd, h.1, rk2, vv, rv1, rv2⟩ s, ?_⟩
    rw [List.map_cons, ← es]
    have ek : e.key = .ref b := rk1
    show e :: _ = (⟨nk.hash ct.w, .ref b, e.val⟩ : DictEntry) :: _
    rw [← hh, ← ek]
theorem TV.back : ∀ {kvs : List (D × D)} {xs : List (NestedKey × Addr × Value)}, TV K ct m H kvs xs → DRep K ct m H kvs (xs.map (entryOfKey (nestedKind P ct.w)))
  | _, _, .nil => .nil
  | _, _, .cons (a := p) (b := x) r t => .cons ⟨⟨x.1, r.1, rfl, r.2.1⟩, ⟨.ref x.2.1, rfl, r.2.2.2.1⟩, r.2.2.2.2⟩ (TV.back t)
end
/-! ### a key in the heap -/
section
variable {X : Cx} {ct : CTab} {m : Mp} {pins : List (Addr × Obj)} {σ : St} {H : Hp} {s : Shared}
mutual
theorem nis (I : Inv X pins σ H s) : ∀ {d : D} {v : V} {u : Value} {k : NestedKey}, nkOf d = some k → Rep X.K ct m H d v → RelV v u → NestedIs s.heap k u
  | _, _, _, _, e, .non, ru => by cases e; cases ru; exact .none
  | _, _, _, _, e, .bl, ru => by cases e; cases ru; exact .bool rfl
  | _, _, _, _, e, .int, ru => by cases e; obtain ⟨t, rfl⟩ := ru; exact .int _ _
  | _, _, _, _, e, .str, ru => by cases e; obtain ⟨t, rfl⟩ := ru; exact .text _ _
  | _, _, _, _, e, .tup sq rl, ru => by
    obtain ⟨ks, e1, rfl⟩ := Option.map_eq_some_iff.mp (show (nkAll _).map NestedKey.tup = some _ from e)
    obtain ⟨its, rv, ⟨o, ho, hc, n, hd⟩, _⟩ := I.tuple sq
    cases ru
    exact .tup ho hc hd (by have := nisL I e1 rl rv; simpa using this)
  | _, _, _, _, e, .obj _ _ _, ru => by cases e
  | _, _, _, _, e, .ref _, ru => by cases e
  | _, _, _, _, e, .lost _, ru => by cases e
  | _, _, _, _, e, .ty, ru => by cases e
  | _, _, _, _, e, .cls, ru => by cases e
theorem nisL (I : Inv X pins σ H s) : ∀ {ds : List D} {vs : List V} {us : List Value} {ks : List NestedKey}, nkAll ds = some ks → RepL X.K ct m H ds vs → Vals vs us → NestedAll s.heap ks us
  | _, _, _, _, e, .nil, ru => by cases e; cases ru; exact .nil
  | _, _, _, _, e, .cons r t, ru => by
    unfold nkAll at e
    split at e
    · rename_i k ks e1 e2
      cases e
      cases ru with
      | cons r1 r2 => exact .cons (nis I e1 r r1) (nisL I e2 t r2)
    · cases e
end
/-- the dict's object, by its view -/
theorem d_raw (I : Inv X pins σ H s) {a : Addr} {es : List DictEntry} (e : Rd H a (rawD a es)) : (a == sysModules) = false ∧ es.length ≤ sizeLine ∧ ∃ o ep, s.heap.get? a = some o ∧ o.ExactDict ∧ o.data = .dict es.toArray ep := by
  have x : ObjOk X.prog X.w H s.heap a (.ext fun h => (a == sysModules) = false ∧ es.length ≤ sizeLine ∧ ∃ o ep, h.get? a = some o ∧ o.ExactDict ∧ o.data = .dict es.toArray ep) := e.ok I.hok
  exact x.1
theorem raw_ok {P : Program} {w : World} {H : Hp} {h : Heap} {a : Addr} {es : List DictEntry} {o : Obj} {ep : Nat} (h1 : (a == sysModules) = false) (h2 : es.length ≤ sizeLine) (ho : h.get? a = some o) (hx : o.ExactDict) (hd : o.data = .dict es.toArray ep) : ObjOk P w H h a (rawD a es) :=
  ⟨⟨h1, h2, o, ep, ho, hx, hd⟩, ⟨o, ho⟩, fun h1 h2 z k => by
    obtain ⟨q1, q2, o, ep, q3, q4, q5⟩ := z
    exact ⟨q1, q2, o, ep, k _ q3, q4, q5⟩⟩
theorem keys_nd {kvs : List (D × D)} {α : Type} {zs : List α} {g : α → Option NestedKey} {R : D × D → α → Prop} (h : ∀ p z, R p z → nkOf p.1 = g z) (r : Paired R kvs zs) : (kvs.map fun p => nkOf p.1) = zs.map g := by
  induction r with
  | nil => rfl
  | cons q t ih => rw [List.map_cons, List.map_cons, h _ _ q, ih]
end
end Led
/-! LedDict2: what is done with dicts. -/
namespace Led
open PySem L2

section
variable {X : Cx} {ct : CTab} {m : Mp} {h : AH} {pins : List (Addr × Obj)} {σ : St} {H : Hp} {s : Shared} {A : Around} {E : Value → Shared → Prop} {a : Addr} {n : Nat} {kvs : List (D × D)} {es : List DictEntry} {k : D} {vk : V} {u : Value}

theorem nd_of_map {α β : Type} {f : α → β} {l : List α} (h : (l.map f).Nodup) : l.Nodup := List.Pairwise.of_map f (fun _ _ hne e => hne (by rw [e])) h
theorem d_view (hw : ct.w = X.w) (I : Inv X pins σ H s) (eH : Rd H a (rawD a es)) (rel : DRep X.K ct m H kvs es) (nd : (kvs.map fun p => nkOf p.1).Nodup) (ok : okKey kvs k = true) :
    (∃ kk vs, kOf k = some kk ∧ SV X.K ct m H kvs vs ∧ s.heap.DictOf (mixKind X.prog X.w) a vs) ∨
    (∃ nk xs, nkOf k = some nk ∧ nk.depth ≤ 8 ∧ isTp k = true ∧ TV X.K ct m H kvs xs ∧ s.heap.DictOfH (nestedKind X.prog X.w) a xs) := by
  obtain ⟨hs, hl, o, ep, ho, hx, hd⟩ := d_raw I eH
  unfold okKey at ok
  rw [Bool.or_eq_true, Bool.and_eq_true, Bool.and_eq_true, Bool.and_eq_true] at ok
  rcases ok with ⟨h1, h2⟩ | ⟨⟨h1, h1'⟩, h2⟩
  · obtain ⟨kk, hk⟩ := Option.isSome_iff_exists.mp h1
    obtain ⟨vs, sv, ps, ks⟩ := SV.of (P := X.prog) rel h2
    refine .inl ⟨kk, vs, hk, sv, o, es.toArray, ep, ho, hx, hd, ?_, ?_, ?_⟩
    · intro e he
      obtain ⟨k', a1, a2⟩ := ks e (by simpa using he)
      exact ⟨k', a1, by rw [← hw]; exact a2⟩
    · rw [← hw]; simpa using ps
    · have e := keys_nd (g := fun q : Key × Value => some (nkK q.1)) (fun p z r => nkOf_k r.1) sv
      rw [e] at nd
      rw [show (fun q : Key × Value => some (nkK q.1)) = (fun k : Key => some (nkK k)) ∘ (fun q : Key × Value => q.1) from rfl, ← List.map_map] at nd
      exact nd_of_map nd
  · obtain ⟨xs, tv, ee⟩ := TV.of (P := X.prog) rel h2
    unfold kdep at h1'
    split at h1'
    · rename_i nk hn
      refine .inr ⟨nk, xs, hn, of_decide_eq_true h1', h1, tv, o, es.toArray, ep, ho, hx, hd, ?_, fun x hx => ?_, ?_⟩
      · rw [← hw]; exact ee
      · have all : ∀ {l : List (D × D)} {z : List (NestedKey × Addr × Value)}, TV X.K ct m H l z → ∀ x ∈ z, (nestedKind X.prog X.w).is s.heap x.1 x.2.1 := by
          intro l z q
          induction q with
          | nil => intro x hx; exact nomatch hx
          | cons r t ih =>
            intro x hx
            rcases List.mem_cons.mp hx with e | hx
            · subst e
              exact ⟨nis I r.1 r.2.2.2.1 rfl, r.2.1⟩
            · exact ih x hx
        exact all tv x hx
      · have e := keys_nd (g := fun q : NestedKey × Addr × Value => some q.1) (fun p z r => r.1) tv
        rw [e] at nd
        rw [show (fun q : NestedKey × Addr × Value => some q.1) = (fun k : NestedKey => some k) ∘ (fun q : NestedKey × Addr × Value => q.1) from rfl, ← List.map_map] at nd
        exact nd_of_map nd
    · cases h1'
/-- the key is there as a tuple -/
theorem d_key {nk : NestedKey} (I : Inv X pins σ H s) (hn : nkOf k = some nk) (hd : nk.depth ≤ 8) (ht : isTp k = true) (rk : Rep X.K ct m H k vk) (ru : RelV vk u) : ∃ b, vk = .ref b ∧ u = .ref b ∧ (nestedKind X.prog X.w).is s.heap nk b := by
  obtain ⟨b, rfl⟩ := tp_ref ht rk
  cases (show u = Value.ref b from ru)
  exact ⟨b, rfl, rfl, nis I hn rk rfl, hd⟩
theorem d_room (hu : A.units + 9 < cLine) : (nestedKind X.prog X.w).room A.in1 := by show A.units + 1 + 8 < cLine; omega

theorem d_getItem' {Q : Value → Shared → Prop} {d : D} (hu : A.units + 9 < cLine) (hw : ct.w = X.w) (I : Inv X pins σ H s) (eH : Rd H a (rawD a es)) (rel : DRep X.K ct m H kvs es) (nd : (kvs.map fun p => nkOf p.1).Nodup) (ok : okKey kvs k = true)
    (rk : Rep X.K ct m H k vk) (ru : RelV vk u) (hf : dfind kvs k = some d) (hq : ∀ v r s', Inv X pins σ H s' → RelV v r → Rep X.K ct m H d v → Q r s') : s.TypeIs (.ref a) "dict" ∧ wpAny (model X.prog X.w) A (getItem (.ref a) u) Q E s := by
  rcases d_view hw I eH rel nd ok with ⟨kk, vs, hk, sv, dd⟩ | ⟨nk, xs, hn, hd, ht, tv, dd⟩
  · rcases sv.find hk with ⟨h1, _⟩ | ⟨d', u', v', h1, h2, r1, r2⟩
    · rw [hf] at h1; cases h1
    · rw [hf] at h1; cases h1
      exact ⟨dd.typeIs, wpAny_getItem_of (key_of_rel hk rk ru) dd.mapOf h2 (hq _ _ _ (I.tok _) r1 r2)⟩
  · obtain ⟨b, rfl, rfl, is⟩ := d_key I hn hd ht rk ru
    rcases tv.find hn with ⟨h1, _⟩ | ⟨d', p, v', h1, h2, r1, r2⟩
    · rw [hf] at h1; cases h1
    · rw [hf] at h1; cases h1
      exact ⟨dd.typeIs, wpAny_getItem_heap (d_room hu) is dd h2 (hq _ _ _ (I.tok _) r1 r2)⟩
theorem d_in' {Q : Value → Shared → Prop} (hu : A.units + 9 < cLine) (hw : ct.w = X.w) (I : Inv X pins σ H s) (eH : Rd H a (rawD a es)) (rel : DRep X.K ct m H kvs es) (nd : (kvs.map fun p => nkOf p.1).Nodup) (ok : okKey kvs k = true)
    (rk : Rep X.K ct m H k vk) (ru : RelV vk u) (hq : ∀ s', Inv X pins σ H s' → Q (.bool (dfind kvs k).isSome) s') : wpAny (model X.prog X.w) A (compareOp .In u (.ref a)) Q E s := by
  have hs := (d_raw I eH).1
  rcases d_view hw I eH rel nd ok with ⟨kk, vs, hk, sv, dd⟩ | ⟨nk, xs, hn, hd, ht, tv, dd⟩
  · refine wpAny_in_of (key_of_rel hk rk ru) hs dd.mapOf ?_
    rcases sv.find hk with ⟨h1, h2⟩ | ⟨d', u', v', h1, h2, r1, r2⟩ <;> (rw [h2]; rw [h1] at hq; exact hq _ (I.tok _))
  · obtain ⟨b, rfl, rfl, is⟩ := d_key I hn hd ht rk ru
    refine wpAny_in_heap (d_room hu) is hs dd ?_
    rcases tv.find hn with ⟨h1, h2⟩ | ⟨d', u', v', h1, h2, r1, r2⟩ <;> (rw [h2]; rw [h1] at hq; exact hq _ (I.tok _))
theorem d_notIn' {Q : Value → Shared → Prop} (hu : A.units + 9 < cLine) (hw : ct.w = X.w) (I : Inv X pins σ H s) (eH : Rd H a (rawD a es)) (rel : DRep X.K ct m H kvs es) (nd : (kvs.map fun p => nkOf p.1).Nodup) (ok : okKey kvs k = true)
    (rk : Rep X.K ct m H k vk) (ru : RelV vk u) (hq : ∀ s', Inv X pins σ H s' → Q (.bool (!(dfind kvs k).isSome)) s') : wpAny (model X.prog X.w) A (compareOp .NotIn u (.ref a)) Q E s := by
  have hs := (d_raw I eH).1
  rcases d_view hw I eH rel nd ok with ⟨kk, vs, hk, sv, dd⟩ | ⟨nk, xs, hn, hd, ht, tv, dd⟩
  · refine wpAny_notIn_of (key_of_rel hk rk ru) hs dd.mapOf ?_
    rcases sv.find hk with ⟨h1, h2⟩ | ⟨d', u', v', h1, h2, r1, r2⟩ <;> (rw [h2]; rw [h1] at hq; exact hq _ (I.tok _))
  · obtain ⟨b, rfl, rfl, is⟩ := d_key I hn hd ht rk ru
    refine notIn_keyed (d_room hu) is hs ⟨xs, dd, rfl⟩ ?_
    rw [valueAt_pairsH, Option.isSome_map]
    rcases tv.find hn with ⟨h1, h2⟩ | ⟨d', u', v', h1, h2, r1, r2⟩ <;> (rw [h2]; rw [h1] at hq; exact hq _ (I.tok _))
theorem d_get2' {Q : Value → Shared → Prop} {d : D} {vd : V} {r : Value} (hu : A.units + 9 < cLine) (hw : ct.w = X.w) (I : Inv X pins σ H s) (eH : Rd H a (rawD a es)) (rel : DRep X.K ct m H kvs es) (nd : (kvs.map fun p => nkOf p.1).Nodup) (ok : okKey kvs k = true)
    (rk : Rep X.K ct m H k vk) (ru : RelV vk u) (rd : Rep X.K ct m H d vd) (rr : RelV vd r) (hq : ∀ v r' s', Inv X pins σ H s' → RelV v r' → Rep X.K ct m H ((dfind kvs k).getD d) v → Q r' s') : wpAny (model X.prog X.w) A (call (.builtin "dict.get") [.ref a, u, r]) Q E s := by
  have hs := (d_raw I eH).1
  rcases d_view hw I eH rel nd ok with ⟨kk, vs, hk, sv, dd⟩ | ⟨nk, xs, hn, hd, ht, tv, dd⟩
  · refine call_meetsIn PySem.F.slot_dict_get dd.typeIs PySem.F.entry_dict_get (PySem.F.args_dict_get_3 _ _ _) (meets_dict_get_default (mixKind X.prog X.w) a (key_of_rel hk rk ru) hs r) ⟨_, dd.mapOf, ?_⟩
    rcases sv.find hk with ⟨h1, h2⟩ | ⟨d', u', v', h1, h2, r1, r2⟩
    · rw [h2]; rw [h1] at hq; exact hq vd _ _ (I.tok _) rr rd
    · rw [h2]; rw [h1] at hq; exact hq v' _ _ (I.tok _) r1 r2
  · obtain ⟨b, rfl, rfl, is⟩ := d_key I hn hd ht rk ru
    refine call_meetsIn PySem.F.slot_dict_get dd.typeIs PySem.F.entry_dict_get (PySem.F.args_dict_get_3 _ _ _) (meetsH_dict_get_default (nestedKind X.prog X.w) a b hs r) ⟨d_room hu, nk, xs, is, dd, ?_⟩
    rcases tv.find hn with ⟨h1, h2⟩ | ⟨d', u', v', h1, h2, r1, r2⟩
    · rw [h2]; rw [h1] at hq; exact hq vd _ _ (I.tok _) rr rd
    · rw [h2]; rw [h1] at hq; exact hq v' _ _ (I.tok _) r1 r2

/-! ### writing -/
theorem raw_mut {H : Hp} (e : H a = some (rawD a es)) : Mut (H a) := by rw [e]; exact True.intro
theorem dput_nd : ∀ {kvs : List (D × D)} {k v : D}, (kvs.map fun p => nkOf p.1).Nodup → ((dput kvs k v).map fun p => nkOf p.1).Nodup := fun {kvs k v} nd => by
  unfold dput
  split
  · rw [List.map_map]
    have e : ((fun p : D × D => nkOf p.1) ∘ fun p : D × D => if sameK k p = true then (p.1, v) else p) = fun p : D × D => nkOf p.1 := by
      funext p
      show nkOf (if sameK k p = true then (p.1, v) else p).1 = nkOf p.1
      split <;> rfl
    rw [e]; exact nd
  · rename_i hn
    rw [List.map_append, List.map_cons, List.map_nil]
    refine List.nodup_append.mpr ⟨nd, by simp, fun x hx y hy e => hn ?_⟩
    rw [List.mem_singleton] at hy
    subst hy
    subst e
    obtain ⟨p, hp, ep⟩ := List.mem_map.mp hx
    exact List.any_eq_true.mpr ⟨p, hp, decide_eq_true ep⟩
theorem dput_len (kvs : List (D × D)) (k v : D) : (dput kvs k v).length ≤ kvs.length + 1 := by
  unfold dput
  split
  · rw [List.length_map]; omega
  · rw [List.length_append]; exact Nat.le_refl _
theorem paired_len {α β : Type} {R : α → β → Prop} : ∀ {as : List α} {bs : List β}, Paired R as bs → as.length = bs.length
  | _, _, .nil => rfl
  | _, _, .cons _ t => by rw [List.length_cons, List.length_cons, paired_len t]
theorem ddrop_nd {kvs : List (D × D)} {k : D} (nd : (kvs.map fun p => nkOf p.1).Nodup) : ((ddrop kvs k).map fun p => nkOf p.1).Nodup := nd.sublist (List.filter_sublist.map _)

theorem d_set' {Q : Unit → Shared → Prop} {d : D} {vd : V} {r : Value} (hu : A.units + 9 < cLine) (hw : ct.w = X.w) (I : Inv X pins σ H s) (hr : HR X.K ct m h H) (ea : m[n]? = some (some a)) (eH : H a = some (rawD a es)) (rel : DRep X.K ct m H kvs es)
    (nd : (kvs.map fun p => nkOf p.1).Nodup) (ok : okKey kvs k = true) (hl : kvs.length < sizeLine) (rk : Rep X.K ct m H k vk) (ru : RelV vk u) (rd : Rep X.K ct m H d vd) (rr : RelV vd r)
    (hq : ∀ H' s', Inv X pins σ H' s' → HR X.K ct m (h.set n (.dic (dput kvs k d))) H' → Ext m H m H' → Q () s') : wpAny (model X.prog X.w) A (setItem (.ref a) u r) Q E s := by
  have eR : Rd H a (rawD a es) := .inl eH
  have hs := (d_raw I eR).1
  have lz := (d_raw I eR).2.1
  have ekl : kvs.length = es.length := paired_len rel
  have nt : ∀ xs, ¬ Rd H a (.tup xs) := by
    obtain ⟨o0, e0, n0, r0⟩ := hr.live ea
    exact r0.some.choose_spec.2
  have fin : ∀ {h' : Heap} {es' : List DictEntry} {o : Obj} {ep t' : Nat}, Heap.SameBut a s.heap h' → h'.get? a = some o → o.ExactDict → o.data = .dict es'.toArray ep → es'.length ≤ sizeLine → DRep X.K ct m (upd H a (rawD a es')) (dput kvs k d) es' → Q () { s with heap := h', toks := t' } := fun {h' es' o ep t'} sb ho hx hd hl' rel' => by
    have I' : Inv X pins σ (upd H a (rawD a es')) { s with heap := h', toks := t' } := d_write I (raw_mut eH) sb ⟨o, ho⟩ (raw_ok hs hl' ho hx hd)
    obtain ⟨hr', ex⟩ := hr.upd (o := rawD a es') (ao := .dic (dput kvs k d)) ea (by intro z; cases z) (NoFz.raw eH) ⟨es', upd_same, rel', dput_nd nd⟩
    exact hq _ _ I' hr' ex
  rcases d_view hw I eR rel nd ok with ⟨kk, vs, hk, sv, dd⟩ | ⟨nk, xs, hn, hd, ht, tv, dd⟩
  · have lv : vs.length = kvs.length := (paired_len sv).symm
    refine wpAny_setItem_pairs (hsz := by omega) (key_of_rel hk rk ru) dd fun h' dd' sb => ?_
    obtain ⟨o, es', ep, ho, hx, hd, ks, ps, nd'⟩ := dd'
    have sv' := sv.put hk rr rd
    have ll : es'.toList.length = (dput kvs k d).length := by rw [ps.length]; exact (paired_len sv').symm
    refine fin (es' := es'.toList) sb ho hx (by rw [Array.toArray_toList]; exact hd) (by have := dput_len kvs k d; omega) ?_
    refine SV.back (P := X.prog) (sv'.ext (Ext.upd n ea nt (NoFz.raw eH))) (by rw [hw]; exact ps) fun e he => ?_
    obtain ⟨k', a1, a2⟩ := ks e (by simpa using he)
    exact ⟨k', a1, by rw [hw]; exact a2⟩
  · obtain ⟨b, rfl, rfl, is⟩ := d_key I hn hd ht rk ru
    have lv : xs.length = kvs.length := (paired_len tv).symm
    refine wpAny_setItem_heap (hsz := by omega) (d_room hu) is dd fun h' dd' sb => ?_
    obtain ⟨o, es', ep, ho, hx, hd', he, _, _⟩ := dd'
    have tv' := tv.put hn hd ht rk rr rd
    have ll : es'.toList.length = (dput kvs k d).length := by rw [he, List.length_map]; exact (paired_len tv').symm
    refine fin (es' := es'.toList) sb ho hx (by rw [Array.toArray_toList]; exact hd') (by have := dput_len kvs k d; omega) ?_
    rw [he, ← hw]
    exact TV.back (P := X.prog) (tv'.ext (Ext.upd n ea nt (NoFz.raw eH)))
end
end Led
/-! LedObj: instances: fields, making, methods; isinstance. -/
namespace Led
open PySem L2

/-- a type as isinstance sees it -/
inductive Ty where
  | b (n : String) | c (n : Nat)
deriving DecidableEq
/-- what is known of the classes of the text -/
structure Tabs where
  isC : Nat → Bool
  flds : Nat → List Str
  isi : Ty → Ty → Option Bool
def tyV (ct : CTab) : Ty → Value
  | .b n => .type n
  | .c n => .ref (ct.ad n)
structure InsF (K : PySem.W.Frag) (C : Addr) : Prop where
  cl : Cls K C
  ha : PySem.W.findIn K (.ref C) "__class__" = some (some (.builtin "object.__class__"))
  hn : PySem.W.specialIn K (.builtin "object.__class__") "__get__" = some (some (.builtin "getset_descriptor.__get__"))
  htk : PySem.W.takesIn K (.builtin "object.__class__") = some true
  hm : PySem.W.mroIn K C (.type "object") = some true
structure TabOk (K : PySem.W.Frag) (ct : CTab) (T : Tabs) : Prop where
  cls : ∀ c, T.isC c = true → InsF K (ct.ad c)
  fld : ∀ c f, (T.flds c).contains f = true → NoAttr K (ct.ad c) f
  isi : ∀ t u b, T.isi t u = some b → PySem.W.kitOne K (tyV ct t) (tyV ct u) = some b

/-- the class and the fields of an instance -/
def insOf (h : AH) : D → Option (Nat × List (Str × D))
  | .obj c fs => some (c, fs)
  | .ref n => match h[n]? with
    | some (.ins c fs) => some (c, fs)
    | _ => none
  | _ => none
section
variable {K : PySem.W.Frag} {ct : CTab} {m : Mp} {H : Hp} {h : AH}
theorem HR.ins (hr : HR K ct m h H) {d : D} {v : V} {c : Nat} {fs : List (Str × D)} (e : insOf h d = some (c, fs)) (r : Rep K ct m H d v) : ∃ a dx vs, v = .ref a ∧ H a = some (.ins (ct.ad c) dx vs) ∧ RepF K ct m H fs vs := by
  cases d with
  | obj c' fs' =>
    cases e
    cases r with
    | obj e1 _ rf => exact ⟨_, _, _, rfl, e1, rf⟩
  | ref n =>
    unfold insOf at e
    dsimp only at e
    split at e
    · rename_i c' fs' en
      cases e
      obtain ⟨a, rfl, _, dx, vs, e1, rf⟩ := hr.at en (by intro z; cases z) r
      exact ⟨a, dx, vs, rfl, e1, rf⟩
    · cases e
  | _ => cases e
theorem RepF.look {f : Str} : ∀ {fs : List (Str × D)} {vs : List (Str × V)}, RepF K ct m H fs vs → (fs.lookup f = none ∧ vs.lookup f = none) ∨ ∃ d v, fs.lookup f = some d ∧ vs.lookup f = some v ∧ Rep K ct m H d v
  | _, _, .nil => .inl ⟨rfl, rfl⟩
  | _, _, .cons (x := x) (d := d) (v := v) r t => by
    by_cases e : f = x
    · subst e
      exact .inr ⟨d, v, by simp [List.lookup], by simp [List.lookup], r⟩
    · have e' : (f == x) = false := by simpa using e
      rcases RepF.look (f := f) t with ⟨h1, h2⟩ | ⟨d', v', h1, h2, r'⟩
      · exact .inl ⟨by simp [List.lookup, e', h1], by simp [List.lookup, e', h2]⟩
      · exact .inr ⟨d', v', by simp [List.lookup, e', h1], by simp [List.lookup, e', h2], r'⟩
def putD (f : Str) (v : D) : List (Str × D) → List (Str × D)
  | [] => [(f, v)]
  | (g, w) :: r => if g = f then (g, v) :: r else (g, w) :: putD f v r
theorem RepF.put {f : Str} {d : D} {v : V} (rd : Rep K ct m H d v) : ∀ {fs : List (Str × D)} {vs : List (Str × V)}, RepF K ct m H fs vs → RepF K ct m H (putD f d fs) (putF f v vs)
  | _, _, .nil => .cons rd .nil
  | _, _, .cons (x := x) (d := d') (v := v') (ds := ds) (vs := vs) r t => by
    show RepF K ct m H (if x = f then (x, d) :: ds else (x, d') :: putD f d ds) (if x = f then (x, v) :: vs else (x, v') :: putF f v vs)
    split
    · exact .cons rd t
    · exact .cons r (RepF.put rd t)
theorem RepF.length : ∀ {fs : List (Str × D)} {vs : List (Str × V)}, RepF K ct m H fs vs → fs.length = vs.length
  | _, _, .nil => rfl
  | _, _, .cons _ t => by rw [List.length_cons, List.length_cons, RepF.length t]
end

/-! ### fields -/
def fldA (T : Tabs) (f : Str) : D → AH → Res D := fun d h => match insOf h d with
  | some (c, fs) => if T.isC c = true ∧ (T.flds c).contains f = true then match fs.lookup f with
      | some v => .ok v h
      | none => .stuck
    else .stuck
  | none => .stuck
def eFld (T : Tabs) (f : Str) (fo : AE) : AE := fun A h => (fo A h).bind fun d h1 => fldA T f d h1
def setFA (T : Tabs) (f : Str) : D → D → AH → Option AH := fun o d h => match o with
  | .ref n => match h[n]? with
    | some (.ins c fs) => if T.isC c = true ∧ (T.flds c).contains f = true ∧ fs.length < 1000 then some (h.set n (.ins c (putD f d fs))) else none
    | _ => none
  | _ => none
def sFldA (T : Tabs) (f : Str) (fo fv : AE) : AS := fun A h => (fv A h).toS A fun d h1 => (fo A h1).toS A fun o h2 => match setFA T f o d h2 with
  | some h3 => .next A h3
  | none => .stuck
section
variable {ct : CTab} {X : Cx} {W : WX} {T : Tabs} {o e : Expr} {fo fe : AE} {f : Str} {pos pos' : Pos}
theorem se_fld (tk : TabOk X.K ct T) (ho : SE ct X W o fo) (hb : attributeBase o f X.env (eval o X.env) = eval o X.env := by rfl) : SE ct X W (.Attribute o f pos) (eFld T f fo) :=
  PE.imp (pe_fld ho hb) fun σ H Q ⟨m, A, h, hr, en, po⟩ => ⟨m, A, h, hr, en, po.bind.imp fun d m1 h1 H1 e1 r1 p1 v rv => by
    unfold fldA at p1
    split at p1
    · rename_i c fs ei
      split at p1
      · rename_i hc
        obtain ⟨a, dx, vs, rfl, ea, rf⟩ := r1.ins ei rv
        split at p1
        · rename_i dv ef
          rcases rf.look (f := f) with ⟨h1, _⟩ | ⟨d', v', h1, h2, r'⟩
          · rw [ef] at h1; cases h1
          · rw [ef] at h1; cases h1
            exact ⟨a, _, dx, vs, v', rfl, ea, (tk.cls c hc.1).cl, tk.fld c f hc.2, h2, Post.val p1 r1 r'⟩
        · exact (show False from p1).elim
      · exact (show False from p1).elim
    · exact (show False from p1).elim⟩
theorem setF_post {K : PySem.W.Frag} {m : Mp} {h h' : AH} {H : Hp} {x y : D} {vx vy : V} (tk : TabOk K ct T) (hr : HR K ct m h H) (rx : Rep K ct m H x vx) (ry : Rep K ct m H y vy) (e : setFA T f x y h = some h') :
    ∃ a C dx fs, vx = .ref a ∧ H a = some (.ins C dx fs) ∧ Cls K C ∧ NoAttr K C f ∧ fs.length < 1000 ∧ HR K ct m h' (upd H a (.ins C dx (putF f vy fs))) ∧ Ext m H m (upd H a (.ins C dx (putF f vy fs))) := by
  unfold setFA at e
  split at e
  · rename_i n
    split at e
    · rename_i c fs en
      split at e
      · rename_i hc
        cases e
        obtain ⟨a, rfl, ea, dx, vs, eH, rf⟩ := hr.at en (by intro z; cases z) rx
        obtain ⟨o0, e0, n0, r0⟩ := hr.live ea
        obtain ⟨u0, eu0, nt⟩ := r0.some
        have nf : NoFz H a := NoFz.of eH fun _ _ z => by cases z
        have ex : Ext m H m (upd H a (.ins (ct.ad c) dx (putF f vy vs))) := Ext.upd n ea nt nf
        obtain ⟨hr', ex'⟩ := hr.upd (o := .ins (ct.ad c) dx (putF f vy vs)) (ao := .ins c (putD f y fs)) ea (by intro z; cases z) nf ⟨dx, _, upd_same, (rf.put ry).ext ex⟩
        exact ⟨a, _, dx, vs, rfl, eH, (tk.cls c hc.1).cl, tk.fld c f hc.2.1, by rw [← rf.length]; exact hc.2.2, hr', ex'⟩
      · cases e
    · cases e
  · cases e
theorem ss_fld (tk : TabOk X.K ct T) (ho : SE ct X W o fo) (he : SE ct X W e fe) (hs : swapsWith e (some (.Attribute o f pos')) pos.line X.env = pure false := by rfl) : SS ct X W (.Assign [.Attribute o f pos'] e pos) (sFldA T f fo fe) :=
  PS.imp (ps_fld ho he hs) fun En σ H ⟨m, A, h, hr, en, po⟩ => ⟨m, A, h, hr, en, (SPost.ofE en po).imp fun d m1 h1 H1 e1 r1 p1 vd rd =>
    ⟨m1, A, h1, r1, en.ext e1, (SPost.ofE (en.ext e1) p1).imp fun x m2 h2 H2 e2 r2 p2 vx rx => by
      cases q : setFA T f x d h2 with
      | none => rw [q] at p2; exact (show False from p2).elim
      | some h3 =>
        rw [q] at p2
        obtain ⟨a, C, dx, fs, e1', e2', c, nA, l, hr', ex'⟩ := setF_post tk r2 rx (rd.ext e2) q
        exact ⟨a, C, dx, fs, e1', e2', c, nA, l, p2 m2 _ σ ex' hr' (((en.ext e1).ext e2).ext ex')⟩⟩⟩
end

/-! ### a finished instance becomes a plain value -/
section
variable {K : PySem.W.Frag} {ct : CTab} {m : Mp} {H : Hp} {h : AH}
theorem Ext.freeze (n : Nat) : Ext m H (m.set n none) H where
  tup := fun _ _ z => z
  fix := fun a o z nm => ⟨z, fun q => by
    obtain ⟨i, hi, ei⟩ := List.mem_iff_getElem.mp q
    have e : (m.set n none)[i]? = some (some a) := by rw [List.getElem?_eq_getElem hi, ei]
    by_cases hn : n = i
    · subst hn
      rw [List.getElem?_set_self (by rw [List.length_set] at hi; exact hi)] at e
      cases e
    · rw [List.getElem?_set_ne hn] at e
      exact nm (List.mem_of_getElem? e)⟩
  ref := fun i x z => by
    by_cases hn : n = i
    · subst hn
      exact .inr (List.getElem?_set_self (lt_of_get z))
    · exact .inl (by rw [List.getElem?_set_ne hn]; exact z)
  frz := fun _ _ _ z => z
theorem HR.freeze (hr : HR K ct m h H) {n : Nat} {a : Addr} (e : m[n]? = some (some a)) : HR K ct (m.set n none) (h.set n .gone) H ∧ some a ∉ m.set n none := by
  have hl := lt_of_get e
  refine ⟨⟨by rw [List.length_set, List.length_set]; exact hr.len, fun i q => ?_, fun i o q ng => ?_, fun i i' b q q' => ?_⟩, fun q => ?_⟩
  · by_cases hn : n = i
    · subst hn; exact List.getElem?_set_self hl
    · rw [List.getElem?_set_ne hn] at q
      rw [List.getElem?_set_ne hn]
      exact hr.gone i q
  · by_cases hn : n = i
    · subst hn
      rw [List.getElem?_set_self (by rw [← hr.len]; exact hl)] at q
      cases q
      exact (ng rfl).elim
    · rw [List.getElem?_set_ne hn] at q
      obtain ⟨b, eb, r⟩ := hr.obj i o q ng
      exact ⟨b, by rw [List.getElem?_set_ne hn]; exact eb, r.ext (Ext.freeze n) rfl⟩
  · have key : ∀ (i : Nat), (m.set n none)[i]? = some (some b) → m[i]? = some (some b) := fun i q => by
      by_cases hn : n = i
      · subst hn
        rw [List.getElem?_set_self hl] at q
        cases q
      · rw [List.getElem?_set_ne hn] at q
        exact q
    exact hr.inj i i' b (key i q) (key i' q')
  · obtain ⟨i, hi, ei⟩ := List.mem_iff_getElem.mp q
    have q' : (m.set n none)[i]? = some (some a) := by rw [List.getElem?_eq_getElem hi, ei]
    by_cases hn : n = i
    · subst hn
      rw [List.getElem?_set_self hl] at q'
      cases q'
    · rw [List.getElem?_set_ne hn] at q'
      exact hn (hr.inj n i a e q')
end

/-- M may stand for F -/
structure SimQ (F M : AF) : Prop where
  post : ∀ {K : PySem.W.Frag} {ct : CTab} {m : Mp} {H : Hp} {W : WX} {σ : St} {ds : List D} {h : AH} {Q : VK}, HR K ct m h H → (Post K ct m H W σ (M ds h) fun d m' _ H' => ∀ v, Rep K ct m' H' d v → Q v H') → Post K ct m H W σ (F ds h) fun d m' _ H' => ∀ v, Rep K ct m' H' d v → Q v H'
  ne : ∀ ds h, M ds h ≠ .stuck → F ds h ≠ .stuck
theorem SimQ.rfl' {F : AF} : SimQ F F := ⟨fun _ p => p, fun _ _ h => h⟩
theorem Sim.q {F M : AF} (s : Sim F M) : SimQ F M := ⟨fun hr p => s.post hr p, fun ds h q z => by
  have y := s ds h
  rw [z] at y
  cases e : M ds h with
  | ok d h2 => rw [e] at y; obtain ⟨_, y, _⟩ := y; cases y
  | exc x h2 => rw [e] at y; obtain ⟨_, y, _⟩ := y; cases y
  | stuck => exact q e⟩
theorem SimQ.trans {F G M : AF} (a : SimQ F G) (b : SimQ G M) : SimQ F M := ⟨fun hr p => a.post hr (b.post hr p), fun ds h q => a.ne ds h (b.ne ds h q)⟩
theorem Fn.simQ {P : Program} {w : World} {K : PySem.W.Frag} {mg : Str → Option Value} {base : Heap} {ct : CTab} {k n : Nat} {f : Addr} {F F' : AF} (a : Fn P w K mg base ct k f n F) (s : SimQ F F') : Fn P w K mg base ct k f n F' where
  ok := by
    obtain ⟨fd, ps, hl, ok, hb⟩ := a.ok
    refine ⟨fd, ps, hl, ok.imp fun vs H Q E h => ?_, hb⟩
    obtain ⟨hv, m, h, ds, hr, rl, po⟩ := h
    exact ⟨hv, m, h, ds, hr, rl, s.post hr po⟩
  kp := a.kp
  len := fun ds h q => a.len ds h (s.ne ds h q)
/-! ### making -/
/-- C(..): a new instance, its __init__; fz: it is a plain value from then on -/
def mkA (c : Nat) (fz : Bool) (F : AF) : AF := fun ds h => (F (.ref h.length :: ds) (h ++ [.ins c []])).bind fun r h2 => match r with
  | .non => match fz with
    | true => match h2[h.length]? with
      | some (.ins c' fs) => .ok (.obj c' fs) (h2.set h.length .gone)
      | _ => .stuck
    | false => .ok (.ref h.length) h2
  | _ => .stuck
section
variable {ct : CTab} {X : Cx} {W : WX} {e : Expr} {es : List Expr} {g : AA} {x : Str} {p pos : Pos} {k n c : Nat} {f : Addr} {F M : AF} {fz : Bool}
theorem Ext.alloc2 {m : Mp} {H : Hp} {x dx : Addr} {o u : HO} (hx : H x = none) (hd : H dx = none) (ne : dx ≠ x) : Ext m H (m ++ [some x]) (L2.upd (L2.upd H dx u) x o) where
  tup := fun b xs z => by
    rcases z with z | ⟨o', z⟩
    · exact .inl (by rw [upd_ne (ne_of_none z hx), upd_ne (ne_of_none z hd)]; exact z)
    · exact .inr ⟨o', by rw [upd_ne (ne_of_none z hx), upd_ne (ne_of_none z hd)]; exact z⟩
  fix := fun b u z n => ⟨by rw [upd_ne (ne_of_none z hx), upd_ne (ne_of_none z hd)]; exact z, fun q => by
    rcases List.mem_append.mp q with q | q
    · exact n q
    · rw [List.mem_singleton] at q
      cases q
      rw [hx] at z; cases z⟩
  ref := fun n x z => .inl (by rw [List.getElem?_append_left (lt_of_get z)]; exact z)
  frz := fun b o u z => by rw [upd_ne (ne_of_none z hx), upd_ne (ne_of_none z hd)]; exact z
theorem Post.later {K : PySem.W.Frag} {α : Type} {m m1 : Mp} {H H1 : Hp} {σ : St} {r : Res α} {P : α → Mp → AH → Hp → Prop} (ex : Ext m H m1 H1) (po : Post K ct m H W σ r P) : Post K ct m1 H1 W σ r P := by
  cases r with
  | ok d h2 => exact fun m' H' e' hr' => po m' H' (ex.trans e') hr'
  | exc x h2 => exact fun m' H' cls d e' hr' xr => po m' H' cls d (ex.trans e') hr' xr
  | stuck => exact po
theorem mk_post {m : Mp} {h : AH} {H : Hp} {σ : St} {ds : List D} {vs : List V} {Q : VK} {a dx : Addr} (hr : HR X.K ct m h H) (rl : RepL X.K ct m H ds vs) (ha : H a = none) (hd : H dx = none) (ne : dx ≠ a)
    (po : Post X.K ct m H W σ (mkA c fz F ds h) fun d m' _ H' => ∀ v, Rep X.K ct m' H' d v → Q v H') :
    ∃ m1, HR X.K ct m1 (h ++ [.ins c []]) (upd (upd H dx (.own a)) a (.ins (ct.ad c) dx [])) ∧ RepL X.K ct m1 (upd (upd H dx (.own a)) a (.ins (ct.ad c) dx [])) (.ref h.length :: ds) (.ref a :: vs) ∧
      Post X.K ct m1 (upd (upd H dx (.own a)) a (.ins (ct.ad c) dx [])) (fun cl d _ H => WE W σ cl d H) [] (F (.ref h.length :: ds) (h ++ [.ins c []])) fun d m' _ H' => ∀ v, Rep X.K ct m' H' d v → v = .non ∧ Q (.ref a) H' := by
  have hr0 : HR X.K ct m h (upd H dx (.own a)) := hr.new hd
  have ha0 : upd H dx (.own a) a = none := by rw [upd_ne (Ne.symm ne)]; exact ha
  have hr1 : HR X.K ct (m ++ [some a]) (h ++ [.ins c []]) (upd (upd H dx (.own a)) a (.ins (ct.ad c) dx [])) := hr0.alloc ha0 (by intro z; cases z) ⟨dx, [], upd_same, .nil⟩
  have ex : Ext m H (m ++ [some a]) (upd (upd H dx (.own a)) a (.ins (ct.ad c) dx [])) := Ext.alloc2 ha hd ne
  have en : (m ++ [some a])[h.length]? = some (some a) := by rw [← hr.len, List.getElem?_append_right (Nat.le_refl _), Nat.sub_self]; rfl
  refine ⟨m ++ [some a], hr1, .cons (.ref en) (rl.ext ex), ?_⟩
  unfold mkA at po
  have po' := Post.later ex po
  refine Post.wish ((Post.bind po').imp fun r m2 h2 H2 e2 r2 p2 v rv => ?_)
  cases r with
  | non =>
    refine ⟨rv.nonv, ?_⟩
    have here : m2[h.length]? = some (some a) ∨ m2[h.length]? = some none := e2.ref _ _ en
    cases fz with
    | true =>
      dsimp only at p2
      split at p2
      · rename_i c' fs ei
        obtain ⟨a', ea', dx', vs', eH', rf'⟩ := r2.obj _ _ ei (by intro z; cases z)
        have eq : a' = a := by
          rcases here with z | z
          · rw [ea'] at z; cases z; rfl
          · rw [ea'] at z; cases z
        subst eq
        obtain ⟨hr3, nm⟩ := r2.freeze ea'
        exact p2 _ _ (Ext.freeze h.length) hr3 _ (.obj eH' nm (rf'.ext (Ext.freeze h.length)))
      · exact (show False from p2).elim
    | false =>
      rcases here with z | z
      · exact Post.val (d := .ref h.length) p2 r2 (.ref z)
      · exact Post.val (d := .ref h.length) p2 r2 (.lost z)
  | _ => exact (show False from p2).elim
theorem run_makeS {CX : CXT} {C : Addr} {fd : FuncData} {ps : List Str} {sp : Sp} {E : St → XK} {pins : List (Addr × Obj)} {σ : St} {H : Hp} {s : Shared} {Q : VK} {us : List Value} {vs : List V} (M : Mk X.K C f) (F : FnOk X.prog X.w X.K X.mg X.base CX k f fd ps sp) (hr : Room (k + 1) X.A) (hb : Binds X.K fd ps [])
    (hx : PassesAt CX X σ (E σ)) (I : Inv X pins σ H s) (r : Vals vs us)
    (h : ∀ x dx, H x = none → H dx = none → dx ≠ x → sp (.ref x :: vs) (upd (upd H dx (.own x)) x (.ins C dx [])) (fun v H2 => v = .non ∧ Q (.ref x) H2) (E σ)) :
    wpAny (model X.prog X.w) X.A (call (.ref C) us) (EP X pins σ Q) X.xe s := by
  have hq := h (s.heap.objs.size + 1) s.heap.objs.size (I.hok.fresh (Nat.le_succ _)) (I.hok.fresh (Nat.le_refl _)) (Nat.ne_of_lt (Nat.lt_succ_self _))
  have I2 := Inv.made (C := C) I
  have r2 : Vals (V.ref (s.heap.objs.size + 1) :: vs) (Value.ref (s.heap.objs.size + 1) :: us) := .cons rfl r
  have hl : (Value.ref (s.heap.objs.size + 1) :: us).length = ps.length := by
    have e := r2.length
    rw [F.len _ _ _ _ hq] at e
    exact e.symm
  have b := hb { s with heap := (s.heap.push _).push _ } (Value.ref (s.heap.objs.size + 1) :: us) I2.kIn (by rw [List.append_nil]; exact hl)
  rw [List.append_nil] at b
  refine wpAny_call (make_map (f := f) I.kIn M.makes M.init (beq_iff_eq.mp M.fn) (codeAny_mono (F.run _ X.stack _ _ ⟨Value.ref (s.heap.objs.size + 1) :: us, []⟩ (Value.ref (s.heap.objs.size + 1) :: us) _ _ (E σ) (hr.make C us [])
    (I2.env0.make C us []) b r2 hq) fun r s' hq' => ?_))
  cases r with
  | error e => exact hx pins _ _ e s' I2 hq'
  | ok fl =>
    cases fl with
    | ret u =>
      obtain ⟨v, H', I3, rv, ev, q3⟩ := I2.after hq'
      subst ev
      exact ⟨rv, ⟨V.ref (s.heap.objs.size + 1), H', I3, rfl, q3⟩⟩
    | next => exact False.elim hq'
    | brk => exact False.elim hq'
    | cont => exact False.elim hq'
theorem se_make (ok : CtxOk X W) (hM : Mk X.K (ct.ad c) f) (hf : Fn X.prog X.w X.K X.mg X.base ct k f n F) (sim : SimQ (mkA c fz F) M) (hr : Room (k + 1) X.A) (hm : X.mg x = some (.ref (ct.ad c))) (ha : SA ct X W (e :: es) g) (hg : Gl X x := by rfl)
    (hdb : (x == ("__debug__" : Str)) = false := by decide) (he : starEach (e :: es) X.env = (false, eval e X.env) :: starEach es X.env := by rfl) (hpl : (backTo pos (starEach es X.env)).any (·.1) = false := by rfl) :
    SE ct X W (.Call (.Name x p) (e :: es) [] pos) (eCall M g) := by
  obtain ⟨fd, ps, hl, fo, hb⟩ := hf.ok
  refine ⟨fun pins s σ H Q I z => ?_⟩
  obtain ⟨m, A, h, hr0, en, po⟩ := z
  refine wpAny_Call_Name_kw (ld_glob I hg hm ?_ hdb)
  refine PySem.W.callWith_K (h₀ := X.base) I.ok.mod.kin hM.kp (thn (ha.run pos pins s σ H (fun vs H1 => ∀ x dx, H1 x = none → H1 dx = none → dx ≠ x → spA X.K ct n F (.ref x :: vs) (upd (upd H1 dx (.own x)) x (.ins (ct.ad c) dx [])) (fun v H2 => v = .non ∧ Q (.ref x) H2) (WE W σ)) I ?_) fun us s1 ⟨vs, H1, I1, r, q⟩ => ⟨I1.kIn, ?_⟩) he hpl
  · refine ⟨m, A, h, hr0, en, po.bind.imp fun ds m1 h1 H1 e1 r1 p1 vs rvs y dx hy hd ne => ?_⟩
    obtain ⟨m2, hr2, rl2, po2⟩ := mk_post r1 rvs hy hd ne (sim.post r1 p1)
    exact ⟨by rw [← rl2.length]; exact hf.len _ _ po2.ne, m2, _, _, hr2, rl2, po2⟩
  · exact run_makeS hM fo hr hb (passAt ok.tk σ) I1 r q
theorem se_make0 (ok : CtxOk X W) (hM : Mk X.K (ct.ad c) f) (hf : Fn X.prog X.w X.K X.mg X.base ct k f n F) (sim : SimQ (mkA c fz F) M) (hr : Room (k + 1) X.A) (hm : X.mg x = some (.ref (ct.ad c))) (hg : Gl X x := by rfl)
    (hdb : (x == ("__debug__" : Str)) = false := by decide) : SE ct X W (.Call (.Name x p) [] [] pos) (eCall M aNil) := by
  obtain ⟨fd, ps, hl, fo, hb⟩ := hf.ok
  refine ⟨fun pins s σ H Q I z => ?_⟩
  obtain ⟨m, A, h, hr0, en, po⟩ := z
  refine wpAny_Call_Name_kw (ld_glob I hg hm ?_ hdb)
  refine PySem.W.callWith_K0 I.kIn hM.kp (run_makeS (us := []) (vs := []) hM fo hr hb (passAt ok.tk σ) I .nil fun y dx hy hd ne => ?_)
  obtain ⟨m2, hr2, rl2, po2⟩ := mk_post hr0 .nil hy hd ne (sim.post hr0 (show Post X.K ct m H W σ (M [] h) _ from po))
  exact ⟨by rw [← rl2.length]; exact hf.len _ _ po2.ne, m2, _, _, hr2, rl2, po2⟩
end

/-! ### methods -/
/-- the method m of the classes in the table mt -/
def MethOk (X : Cx) (ct : CTab) (k : Nat) (m : Str) (mt : Nat → Option AF) : Prop := ∀ c F, mt c = some F → Cls X.K (ct.ad c) ∧ ∃ f n, Meth X.K (ct.ad c) m f ∧ Fn X.prog X.w X.K X.mg X.base ct k f n F
def eMeth (m : Str) (mt : Nat → Option AF) (fo : AE) (g : AA) : AE := fun A h => (fo A h).bind fun o h1 => match insOf h1 o with
  | some (c, fs) => match fs.lookup m, mt c with
    | none, some F => (g A h1).bind fun ds h2 => F (o :: ds) h2
    | _, _ => .stuck
  | none => .stuck
section
variable {ct : CTab} {X : Cx} {W : WX} {o e : Expr} {es : List Expr} {fo : AE} {g : AA} {m : Str} {apos pos : Pos} {k : Nat} {mt : Nat → Option AF}
theorem se_meth {pl : Sem Bool} (ok : CtxOk X W) (mo : MethOk X ct k m mt) (hr : Room k X.A) (ho : SE ct X W o fo) (ha : SA ct X W (e :: es) g)
    (hst : starEach (e :: es) X.env = (false, eval e X.env) :: starEach es X.env := by rfl) (hpl : (backTo pos (starEach es X.env)).any (·.1) = false := by rfl)
    (ht : eval (.Call (.Attribute o m apos) (e :: es) [] pos) X.env = (do
      let ov ← eval o X.env
      standAt apos.atName
      let (f, first) ← holding [ov] (getMethod ov m pl)
      callWith pos f first (backTo pos (starEach (e :: es) X.env)) (backToKw pos (keywordEach [] X.env))) := by rfl) :
    SE ct X W (.Call (.Attribute o m apos) (e :: es) [] pos) (eMeth m mt fo g) := by
  refine ⟨fun pins s σ H Q I z => ?_⟩
  obtain ⟨mp, A, h, hr0, en, po⟩ := z
  refine PySem.W.methodCall_KW (pl := pl) (thn (ho.run pins s σ H (fun v H1 => ∃ c fs' a dx fs F ds0, v = .ref a ∧ H1 a = some (.ins (ct.ad c) dx fs) ∧ fs.lookup m = none ∧ mt c = some F ∧
      (RA X.K ct W g σ H1 fun vs H2 => ∃ m2 h2 ds, HR X.K ct m2 h2 H2 ∧ RepL X.K ct m2 H2 ds (.ref a :: vs) ∧ Post X.K ct m2 H2 W σ (F ds h2) fun d m' _ H' => ∀ v, Rep X.K ct m' H' d v → Q v H') ∧ fs' = fs ∧ ds0 = c) I ?_) fun u s1 hu => ?_) ht
  · refine ⟨mp, A, h, hr0, en, po.bind.imp fun d m1 h1 H1 e1 r1 p1 v rv => ?_⟩
    split at p1
    · rename_i c fs ei
      split at p1
      · rename_i F ef eF
        obtain ⟨a, dx, vs, rfl, ea, rf⟩ := r1.ins ei rv
        rcases rf.look (f := m) with ⟨l1, l2⟩ | ⟨d', v', l1, _⟩
        · refine ⟨c, vs, a, dx, vs, F, c, rfl, ea, l2, eF, ⟨m1, A, h1, r1, en.ext e1, (Post.bind p1).imp fun ds m2 h2 H2 e2 r2 p2 vs2 rvs => ⟨m2, h2, d :: ds, r2, .cons (rv.ext e2) rvs, p2⟩⟩, rfl, rfl⟩
        · rw [ef] at l1; cases l1
      · exact (show False from p1).elim
    · exact (show False from p1).elim
  · obtain ⟨x, H1, I1, rx, c, _, a, dx, fs, F, _, rfl, ea, l, eF, q, _, _⟩ := hu
    obtain rfl : u = Value.ref a := rx
    obtain ⟨cl, f, n, hm, hf⟩ := mo c F eF
    obtain ⟨fd, ps, hl, fo, hb⟩ := hf.ok
    refine getmeth_ok I1 ea cl hm l ?_
    refine PySem.W.callWith_K (first := [.ref a]) (h₀ := X.base) I.ok.mod.kin hm.kp (thn (ha.run pos pins s1 σ H1 _ I1 q) fun us s2 ⟨vs, H2, I2, r, m2, h2, ds, hr2, rl2, p2⟩ => ⟨I2.kIn, ?_⟩) hst hpl
    exact run_fnS (us := .ref a :: us) (vs := .ref a :: vs) fo hr hb (passAt ok.tk σ) I2 (.cons rfl r) ⟨by rw [← rl2.length]; exact hf.len _ _ p2.ne, m2, h2, ds, hr2, rl2, p2.wish⟩
theorem se_meth0 {pl : Sem Bool} (ok : CtxOk X W) (mo : MethOk X ct k m mt) (hr : Room k X.A) (ho : SE ct X W o fo)
    (ht : eval (.Call (.Attribute o m apos) [] [] pos) X.env = (do
      let ov ← eval o X.env
      standAt apos.atName
      let (f, first) ← holding [ov] (getMethod ov m pl)
      callWith pos f first (backTo pos (starEach [] X.env)) (backToKw pos (keywordEach [] X.env))) := by rfl) :
    SE ct X W (.Call (.Attribute o m apos) [] [] pos) (eMeth m mt fo aNil) := by
  refine ⟨fun pins s σ H Q I z => ?_⟩
  obtain ⟨mp, A, h, hr0, en, po⟩ := z
  refine PySem.W.methodCall_KW (pl := pl) (thn (ho.run pins s σ H (fun v H1 => ∃ c a dx fs F d m1 h1, v = .ref a ∧ H1 a = some (.ins (ct.ad c) dx fs) ∧ fs.lookup m = none ∧ mt c = some F ∧
      HR X.K ct m1 h1 H1 ∧ Rep X.K ct m1 H1 d v ∧ Post X.K ct m1 H1 W σ (F [d] h1) fun d m' _ H' => ∀ v, Rep X.K ct m' H' d v → Q v H') I ?_) fun u s1 hu => ?_) ht
  · refine ⟨mp, A, h, hr0, en, po.bind.imp fun d m1 h1 H1 e1 r1 p1 v rv => ?_⟩
    split at p1
    · rename_i c fs ei
      split at p1
      · rename_i F ef eF
        obtain ⟨a, dx, vs, rfl, ea, rf⟩ := r1.ins ei rv
        rcases rf.look (f := m) with ⟨l1, l2⟩ | ⟨d', v', l1, _⟩
        · exact ⟨c, a, dx, vs, F, d, m1, h1, rfl, ea, l2, eF, r1, rv, p1⟩
        · rw [ef] at l1; cases l1
      · exact (show False from p1).elim
    · exact (show False from p1).elim
  · obtain ⟨x, H1, I1, rx, c, a, dx, fs, F, d, m1, h1, rfl, ea, l, eF, hr1, rd, p1⟩ := hu
    obtain rfl : u = Value.ref a := rx
    obtain ⟨cl, f, n, hm, hf⟩ := mo c F eF
    obtain ⟨fd, ps, hl, fo, hb⟩ := hf.ok
    refine getmeth_ok I1 ea cl hm l ?_
    have rl : RepL X.K ct m1 H1 [d] [.ref a] := .cons rd .nil
    exact PySem.W.callWith_K0 (first := [.ref a]) I1.kIn hm.kp (run_fnS (us := [.ref a]) (vs := [.ref a]) fo hr hb (passAt ok.tk σ) I1 (.cons rfl .nil) ⟨by rw [← rl.length]; exact hf.len _ _ p1.ne, m1, h1, [d], hr1, rl, p1.wish⟩)
end
end Led
/-! LedSeq: globals, subscripts, slices, built-in calls, what is walked, comprehensions. -/
namespace Led
open PySem L2

/-! ### names of the module -/
section
variable {ct : CTab} {X : Cx} {W : WX} {x : Str} {pos : Pos}
theorem se_glob {u : Value} {v : V} {d : D} (hm : X.mg x = some u) (ru : RelV v u) (rep : ∀ m H, Rep X.K ct m H d v) (hg : Gl X x := by rfl) (hd : (x == ("__debug__" : Str)) = false := by decide) : SE ct X W (.Name x pos) (eC d) :=
  se_const (pe_glob hg hm ru hd) rep
theorem se_cls {c : Nat} (hm : X.mg x = some (.ref (ct.ad c))) (hg : Gl X x := by rfl) (hd : (x == ("__debug__" : Str)) = false := by decide) : SE ct X W (.Name x pos) (eC (.cls c)) :=
  se_glob (v := .ref (ct.ad c)) hm rfl (fun _ _ => .cls) hg hd
theorem se_ty {n : String} (hm : X.mg x = none) (hv : bootBuiltins x = some (.type n)) (hg : Gl X x := by rfl) (hn : x ≠ "__name__" := by decide) (hd : (x == ("__debug__" : Str)) = false := by decide) : SE ct X W (.Name x pos) (eC (.ty n)) :=
  se_const (pe_bltn hg hm hv (v := .ty n) rfl hn hd) fun _ _ => .ty
end

/-! ### a[i] -/
def atR {α : Type} (xs : List α) (i : Int) (f : α → D) (h : AH) : Res D := match atI xs i with
  | some d => .ok (f d) h
  | none => .stuck
def ixA : D → D → AH → Res D := fun x y h => match x with
  | .tup xs => match y with
    | .int i => atR xs i id h
    | _ => .stuck
  | .str z => match y with
    | .int i => if z.length ≤ sizeLine then atR z.cps.toList i (fun c => .str ⟨#[c]⟩) h else .stuck
    | _ => .stuck
  | .ref n => match h[n]? with
    | some (.dic kvs) => if okKey kvs y = true then match dfind kvs y with
        | some d => .ok d h
        | none => .stuck
      else .stuck
    | some (.fdc kvs) => if okKey kvs y = true then match dfind kvs y with
        | some d => .ok d h
        | none => .stuck
      else .stuck
    | some (.lst xs) => match y with
      | .int i => atR xs i id h
      | _ => .stuck
    | some (.fls xs) => match y with
      | .int i => atR xs i id h
      | _ => .stuck
    | _ => .stuck
  | _ => .stuck
def rIxDA (K : PySem.W.Frag) (ct : CTab) : R2 := fun x y H Q => ∃ m a es kvs k d, x = .ref a ∧ Rd H a (rawD a es) ∧ DRep K ct m H kvs es ∧ (kvs.map fun p => nkOf p.1).Nodup ∧ okKey kvs k = true ∧ Rep K ct m H k y ∧ dfind kvs k = some d ∧ ∀ v, Rep K ct m H d v → Q v H
def rIxA (K : PySem.W.Frag) (ct : CTab) : R2 := fun x y H Q => rIx K x y H Q ∨ rIxDA K ct x y H Q
section
variable {X : Cx} {ct : CTab} {W : WX} {a b : Expr} {fa fb : AE} {pos : Pos}
theorem ix_dictA (hu : X.A.units + 9 < cLine) (hw : ct.w = X.w) : IxR X (rIxDA X.K ct) := by
  intro value slice pins s σ H x y v u Q I rx ry h hs
  obtain ⟨m, a, es, kvs, k, d, rfl, eH, rel, nd, ok, rk, hf, q⟩ := h
  cases (show v = Value.ref a from rx)
  obtain ⟨ht, hwp⟩ := d_getItem' (Q := EP X pins σ Q) (E := X.xe) hu hw I eH rel nd ok rk ry hf fun v r s' I' rv rp => ⟨v, H, I', rv, q v rp⟩
  exact PyProof.Rows.tail_any ht PySem.slot_dict_getitem.lookup hwp hs
theorem atI_rep {K : PySem.W.Frag} {m : Mp} {H : Hp} {xs : List D} {vs : List V} {i : Int} {d : D} (r : RepL K ct m H xs vs) (e : atI xs i = some d) : ∃ v, atI vs i = some v ∧ Rep K ct m H d v := by
  unfold atI at e ⊢
  rw [← r.length]
  obtain ⟨j, e1, e2⟩ := Option.bind_eq_some_iff.mp e
  obtain ⟨v, e3, rv⟩ := RepL.get j r e2
  exact ⟨v, by rw [e1]; exact e3, rv⟩
theorem atR_val {K : PySem.W.Frag} {α : Type} {m : Mp} {H : Hp} {σ : St} {xs : List α} {i : Int} {f : α → D} {h : AH} {Q : VK} (p : Post K ct m H W σ (atR xs i f h) fun d m' _ H' => ∀ v, Rep K ct m' H' d v → Q v H') (hr : HR K ct m h H) :
    ∃ x, atI xs i = some x ∧ ∀ v, Rep K ct m H (f x) v → Q v H := by
  unfold atR at p
  split at p
  · rename_i d e
    exact ⟨d, e, fun v rv => Post.val p hr rv⟩
  · exact (show False from p).elim
theorem os_ix {K : PySem.W.Frag} : OpS K ct (rIxA K ct) ixA := by
  intro m H h x y vx vy Q W σ hr rx ry p
  unfold ixA at p
  split at p
  · split at p
    · cases ry
      cases rx with
      | tup s rl =>
        obtain ⟨d, e, q⟩ := atR_val p hr
        obtain ⟨v, ev, rv⟩ := atI_rep rl e
        exact .inl (.inr (.inl ⟨_, _, _, v, rfl, rfl, s, ev, q v rv⟩))
    · exact (show False from p).elim
  · split at p
    · cases ry
      cases rx
      split at p
      · rename_i hl
        obtain ⟨c, e, q⟩ := atR_val p hr
        exact .inl (.inr (.inr ⟨_, _, c, rfl, rfl, hl, e, q _ .str⟩))
      · exact (show False from p).elim
    · exact (show False from p).elim
  · split at p
    · rename_i kvs en
      split at p
      · rename_i ok
        split at p
        · rename_i d ef
          obtain ⟨a, rfl, ea, es, eH, rel, nd⟩ := hr.at en (by intro z; cases z) rx
          exact .inr ⟨m, a, es, kvs, y, d, rfl, .inl eH, rel, nd, ok, ry, ef, fun v rv => Post.val p hr rv⟩
        · exact (show False from p).elim
      · exact (show False from p).elim
    · rename_i kvs en
      split at p
      · rename_i ok
        split at p
        · rename_i d ef
          obtain ⟨a, rfl, ea, o, es, ep, eH, hd, rel, nd⟩ := hr.at en (by intro z; cases z) rx
          exact .inr ⟨m, a, es, kvs, y, d, rfl, .inr ⟨o, eH⟩, rel, nd, ok, ry, ef, fun v rv => Post.val p hr rv⟩
        · exact (show False from p).elim
      · exact (show False from p).elim
    · rename_i xs en
      split at p
      · cases ry
        obtain ⟨a, rfl, ea, vs, eH, rl⟩ := hr.at en (by intro z; cases z) rx
        obtain ⟨d, e, q⟩ := atR_val p hr
        obtain ⟨v, ev, rv⟩ := atI_rep rl e
        exact .inl (.inl ⟨a, vs, _, v, rfl, rfl, .inl (.inl eH), ev, q v rv⟩)
      · exact (show False from p).elim
    · rename_i xs en
      split at p
      · cases ry
        obtain ⟨a, rfl, ea, o, vs, eH, rl⟩ := hr.at en (by intro z; cases z) rx
        obtain ⟨d, e, q⟩ := atR_val p hr
        obtain ⟨v, ev, rv⟩ := atI_rep rl e
        exact .inl (.inl ⟨a, vs, _, v, rfl, rfl, .inl (.inr ⟨o, eH⟩), ev, q v rv⟩)
      · exact (show False from p).elim
    · exact (show False from p).elim
  · exact (show False from p).elim
theorem se_ix (hu : X.A.units + 9 < cLine) (hw : ct.w = X.w) (ha : SE ct X W a fa) (hb : SE ct X W b fb) (hs : PlainIx b := by exact fun _ _ => rfl) : SE ct X W (.Subscript a b pos) (eBin ixA fa fb) :=
  PE.imp (pe_ix (IxR.or ix_seq (ix_dictA hu hw)) ha hb hs) fun _ _ _ h => bin_imp os_ix h
end

/-! ### slices -/
abbrev AP := AEnv → AH → Res (Option Int)
def pNone : AP := fun _ h => .ok none h
def pSome (f : AE) : AP := fun A h => (f A h).bind fun d h1 => match d with
  | .int i => .ok (some i) h1
  | _ => .stuck
def cutA {α : Type} (xs : List α) (lo hi : Option Int) : List α := (xs.drop (HT.sIx xs.length 0 lo)).take (HT.sIx xs.length xs.length hi - HT.sIx xs.length 0 lo)
def slA : D → Option Int → Option Int → AH → Res D := fun x lo hi h => match x with
  | .tup xs => .ok (.tup (cutA xs lo hi)) h
  | .str z => if z.length ≤ sizeLine then .ok (.str (cutS z lo hi)) h else .stuck
  | .ref n => match getL h n with
    | some xs => .ok (.ref h.length) (h ++ [.lst (cutA xs lo hi)])
    | none => .stuck
  | _ => .stuck
def eSl (f : AE) (lo hi : AP) : AE := fun A h => (f A h).bind fun x h1 => (lo A h1).bind fun l h2 => (hi A h2).bind fun u h3 => slA x l u h3
def RP (K : PySem.W.Frag) (ct : CTab) (W : WX) (f : AP) : TO := fun σ H Q => ∃ m A h, HR K ct m h H ∧ EnvR K ct m H A σ ∧ Post K ct m H W σ (f A h) fun o _ _ H' => Q o H'
def SO (ct : CTab) (X : Cx) (W : WX) (e : Option Expr) (f : AP) : Prop := PO X e (RP X.K ct W f)
theorem PO.imp {X : Cx} {e : Option Expr} {t t' : TO} (h : PO X e t) (q : ∀ σ H Q, t' σ H Q → t σ H Q) : PO X e t' := ⟨fun pins s σ H Q I z => h.run pins s σ H Q I (q σ H Q z)⟩
section
variable {X : Cx} {ct : CTab} {W : WX} {e : Expr} {fe : AE} {lo hi : Option Expr} {fl fh : AP} {pos p2 : Pos}
theorem so_none : SO ct X W none pNone := PO.imp po_none fun σ H Q ⟨m, A, h, hr, en, po⟩ => po m H (Ext.refl m H) hr
theorem so_some (he : SE ct X W e fe) : SO ct X W (some e) (pSome fe) := PO.imp (po_some he) fun σ H Q ⟨m, A, h, hr, en, po⟩ => ⟨m, A, h, hr, en, po.bind.imp fun d m1 h1 H1 e1 r1 p1 v rv => by
  cases d with
  | int i => exact ⟨i, rv.intv, p1 m1 H1 (Ext.refl m1 H1) r1⟩
  | _ => exact (show False from p1).elim⟩
theorem RepL.cut {K : PySem.W.Frag} {m : Mp} {H : Hp} {xs : List D} {vs : List V} (lo hi : Option Int) (r : RepL K ct m H xs vs) : RepL K ct m H (cutA xs lo hi) (cutV vs lo hi) := by
  unfold cutA cutV
  rw [← r.length]
  exact RepL.takeN _ (RepL.drop _ r)
def rSlAll (K : PySem.W.Frag) : V → Option Int → Option Int → Hp → VK → Prop := fun x lo hi H Q => rSlA K x lo hi H Q ∨ rSlL K x lo hi H Q ∨ rSlS x lo hi H Q
theorem se_slice (he : SE ct X W e fe) (hl : SO ct X W lo fl) (hh : SO ct X W hi fh) : SE ct X W (.Subscript e (.Slice lo hi none p2) pos) (eSl fe fl fh) :=
  PE.imp (pe_slice (SlR.or sl_tupA (SlR.or sl_list sl_str)) he hl hh) fun σ H Q ⟨m, A, h, hr, en, po⟩ => ⟨m, A, h, hr, en, po.bind.imp fun x m1 h1 H1 e1 r1 p1 v rv => ⟨m1, A, h1, r1, en.ext e1, (Post.bind p1).imp fun l m2 h2 H2 e2 r2 p2 =>
    ⟨m2, A, h2, r2, (en.ext e1).ext e2, (Post.bind p2).imp fun u m3 h3 H3 e3 r3 p3 => by
      have rv3 := (rv.ext e2).ext e3
      unfold slA at p3
      split at p3
      · rename_i xs
        cases rv3 with
        | @tup _ a vs s rl =>
          refine .inl ⟨a, vs, rfl, s, fun hw => ?_, fun _ q hq => Post.newTup r3 hq (rl.cut l u) p3⟩
          have e : cutA xs l u = xs := by
            unfold cutA
            rw [rl.length, hw.1, hw.2, List.drop_zero, Nat.sub_zero, ← rl.length, List.take_length]
          rw [e] at p3
          exact Post.val p3 r3 (.tup s rl)
      · cases rv3
        split at p3
        · rename_i hl
          exact .inr (.inr ⟨_, rfl, hl, Post.val p3 r3 .str⟩)
        · exact (show False from p3).elim
      · split at p3
        · rename_i xs ex
          obtain ⟨a, vs, rfl, _, rd, rl⟩ := r3.getL ex rv3
          exact .inr (.inl ⟨a, vs, rfl, .inl rd, fun q hq => Post.newLst r3 hq (rl.cut l u) p3⟩)
        · exact (show False from p3).elim
      · exact (show False from p3).elim⟩⟩⟩
/-- xs[::-1], a list -/
def revA : D → AH → Res D := fun x h => match x with
  | .ref n => match getL h n with
    | some xs => .ok (.ref h.length) (h ++ [.lst xs.reverse])
    | none => .stuck
  | _ => .stuck
theorem RepL.reverse {K : PySem.W.Frag} {m : Mp} {H : Hp} : ∀ {xs : List D} {vs : List V}, RepL K ct m H xs vs → RepL K ct m H xs.reverse vs.reverse
  | _, _, .nil => .nil
  | _, _, .cons r t => by rw [List.reverse_cons, List.reverse_cons]; exact (RepL.reverse t).append (.cons r .nil)
theorem se_rev {k : Nat} {p1 p2' p3 : Pos} (he : SE ct X W e fe) : SE ct X W (.Subscript e (.Slice none none (some (.UnaryOp .USub (.Constant (.int 1) k p1) p2')) p3) pos) (eUn revA fe) :=
  PE.imp (pe_revL he) fun σ H Q ⟨m, A, h, hr, en, po⟩ => ⟨m, A, h, hr, en, po.bind.imp fun x m1 h1 H1 e1 r1 p1 v rv => by
    unfold revA at p1
    split at p1
    · split at p1
      · rename_i xs ex
        obtain ⟨a, vs, rfl, _, rd, rl⟩ := r1.getL ex rv
        exact ⟨a, vs, rfl, .inl rd, fun q hq => Post.newLst r1 hq rl.reverse p1⟩
      · exact (show False from p1).elim
    · exact (show False from p1).elim⟩
end

/-! ### o[i] = v -/
def setA : D → D → D → AH → Option AH := fun o i v h => match o with
  | .ref n => match h[n]? with
    | some (.lst xs) => match i with
      | .int k => (ixN xs.length k).map fun j => h.set n (.lst (xs.set j v))
      | _ => none
    | some (.dic kvs) => if okKey kvs i = true ∧ kvs.length < sizeLine then some (h.set n (.dic (dput kvs i v))) else none
    | _ => none
  | _ => none
def sSub (fo fi fv : AE) : AS := fun A h => (fv A h).toS A fun d h1 => (fo A h1).toS A fun o h2 => (fi A h2).toS A fun i h3 => match setA o i d h3 with
  | some h4 => .next A h4
  | none => .stuck
def tSetA (K : PySem.W.Frag) (ct : CTab) : TSet := fun o i v H Q => ∃ m h h' dO dI dV, HR K ct m h H ∧ Rep K ct m H dO o ∧ Rep K ct m H dI i ∧ Rep K ct m H dV v ∧ setA dO dI dV h = some h' ∧ ∀ H', HR K ct m h' H' → Ext m H m H' → Q H'
section
variable {X : Cx} {ct : CTab} {W : WX} {o i e : Expr} {fo fi fe : AE} {pos pos' : Pos}
theorem set_all (hu : X.A.units + 9 < cLine) (hw : ct.w = X.w) : PSet X (tSetA X.K ct) := by
  intro pins s σ H o i v ov iv u Q I ro ri rv z
  obtain ⟨m, h, h', dO, dI, dV, hr, rO, rI, rV, e, q⟩ := z
  unfold setA at e
  split at e
  · rename_i n
    split at e
    · rename_i xs en
      split at e
      · rename_i k
        obtain ⟨j, e1, rfl⟩ := Option.map_eq_some_iff.mp e
        obtain ⟨a, rfl, ea, vs, eH, rl⟩ := hr.at en (by intro z; cases z) rO
        cases rI
        obtain ⟨o0, e0, n0, r0⟩ := hr.live ea
        obtain ⟨u0, eu0, nt⟩ := r0.some
        have nf : NoFz H a := NoFz.of eH fun _ _ z => by cases z
        have ex : Ext m H m (upd H a (.lst (vs.set j v))) := Ext.upd n ea nt nf
        obtain ⟨hr', ex'⟩ := hr.upd (o := .lst (vs.set j v)) (ao := .lst (xs.set j dV)) ea (by intro z; cases z) nf ⟨_, upd_same, RepL.set j (rV.ext ex) (rl.ext ex)⟩
        exact set_list pins s σ H _ _ v ov iv u Q I ro ri rv ⟨a, vs, k, j, rfl, rfl, eH, by rw [← rl.length]; exact e1, q _ hr' ex'⟩
      · cases e
    · rename_i kvs en
      split at e
      · rename_i hc
        cases e
        obtain ⟨a, rfl, ea, es, eH, rel, nd⟩ := hr.at en (by intro z; cases z) rO
        cases (show ov = Value.ref a from ro)
        exact d_set' hu hw I hr ea eH rel nd hc.1 hc.2 rI ri rV rv fun H' s' I' hr' ex => ⟨H', I', q H' hr' ex⟩
      · cases e
    · cases e
  · cases e
theorem ss_sub (hu : X.A.units + 9 < cLine) (hw : ct.w = X.w) (ho : SE ct X W o fo) (hi : SE ct X W i fi) (he : SE ct X W e fe) (hs : swapsWithSole [.Subscript o i pos'] e pos.line X.env = pure false := by rfl) (hsw : swappedStores [.Subscript o i pos'] e X.env = pure none := by rfl)
    (h1 : (assignEach [.Subscript o i pos'] X.env).map (·.2) = [assign (.Subscript o i pos') X.env] := by rfl)
    (ha : ∀ v, assign (.Subscript o i pos') X.env v = (do
      let ov ← holding [v] (eval o X.env)
      let iv ← holding [v, ov] (eval i X.env)
      standAt pos'
      holding [v, ov, iv] (setItem ov iv v)
      release [v, ov, iv] []) := by intro _; rfl) : SS ct X W (.Assign [.Subscript o i pos'] e pos) (sSub fo fi fe) :=
  PS.imp (ps_asg he (pg_sub ho hi (set_all hu hw) ha) hs hsw h1) fun En σ H ⟨m, A, h, hr, en, po⟩ => ⟨m, A, h, hr, en, (SPost.ofE en po).imp fun d m1 h1 H1 e1 r1 p1 vd rd =>
    ⟨m1, A, h1, r1, en.ext e1, (SPost.ofE (en.ext e1) p1).imp fun x m2 h2 H2 e2 r2 p2 vx rx =>
      ⟨m2, A, h2, r2, (en.ext e1).ext e2, (SPost.ofE ((en.ext e1).ext e2) p2).imp fun y m3 h3 H3 e3 r3 p3 vy ry => by
        cases q : setA x y d h3 with
        | none => rw [q] at p3; exact (show False from p3).elim
        | some h4 =>
          rw [q] at p3
          exact ⟨m3, h3, h4, x, y, d, r3, rx.ext e3, ry, (rd.ext e2).ext e3, q, fun H' hr' ex' => p3 m3 H' σ ex' hr' ((((en.ext e1).ext e2).ext e3).ext ex')⟩⟩⟩⟩
end

/-! ### built-in calls by values -/
def CallS (K : PySem.W.Frag) (ct : CTab) (r : List V → Hp → VK → Prop) (F : AF) : Prop := ∀ m H h ds vs Q W σ, HR K ct m h H → RepL K ct m H ds vs → Post K ct m H W σ (F ds h) (fun d m' _ H' => ∀ v, Rep K ct m' H' d v → Q v H') → r vs H Q
section
variable {X : Cx} {ct : CTab} {W : WX} {e : Expr} {es : List Expr} {g : AA} {x : Str} {p pos : Pos} {id T : String} {r : List V → Hp → VK → Prop} {F : AF}
theorem cb_imp {σ : St} {H : Hp} {Q : VK} (hs : CallS X.K ct r F) (z : RE X.K ct W (eCall F g) σ H Q) : tCB r (RA X.K ct W g) σ H Q := by
  obtain ⟨m, A, h, hr, en, po⟩ := z
  exact ⟨m, A, h, hr, en, po.bind.imp fun ds m1 h1 H1 e1 r1 p1 vs rvs => hs m1 H1 h1 ds vs Q W σ r1 rvs p1⟩
theorem se_callB (hc : CallR X (.builtin id) r) (hs : CallS X.K ct r F) (hm : X.mg x = none) (hv : bootBuiltins x = some (.builtin id)) (ha : SA ct X W (e :: es) g) (hg : Gl X x := by rfl) (hn : x ≠ "__name__" := by decide) (hdb : (x == ("__debug__" : Str)) = false := by decide)
    (he : starEach (e :: es) X.env = (false, eval e X.env) :: starEach es X.env := by rfl) (hpl : (backTo pos (starEach es X.env)).any (·.1) = false := by rfl) : SE ct X W (.Call (.Name x p) (e :: es) [] pos) (eCall F g) :=
  PE.imp (pe_callB hc hg hm hv ha hn hdb he hpl) fun _ _ _ z => cb_imp hs z
theorem se_callTy (hc : CallR X (.type T) r) (hs : CallS X.K ct r F) (hm : X.mg x = none) (hv : bootBuiltins x = some (.type T)) (ha : SA ct X W (e :: es) g) (hg : Gl X x := by rfl) (hn : x ≠ "__name__" := by decide) (hdb : (x == ("__debug__" : Str)) = false := by decide)
    (he : starEach (e :: es) X.env = (false, eval e X.env) :: starEach es X.env := by rfl) (hpl : (backTo pos (starEach es X.env)).any (·.1) = false := by rfl) : SE ct X W (.Call (.Name x p) (e :: es) [] pos) (eCall F g) :=
  PE.imp (pe_callTy hc hg hm hv ha hn hdb he hpl) fun _ _ _ z => cb_imp hs z
end
end Led
/-! LedBlt: len, isinstance, tuple, list, int, abs, all, any; methods of lists; what is walked; comprehensions. -/
namespace Led
open PySem L2

def lenA : AF := fun ds h => match ds with
  | [.str z] => if z.length ≤ sizeLine then .ok (.int z.length) h else .stuck
  | [.tup xs] => .ok (.int xs.length) h
  | [.ref n] => match getL h n with
    | some xs => .ok (.int xs.length) h
    | none => .stuck
  | _ => .stuck
def rLenA (K : PySem.W.Frag) : List V → Hp → VK → Prop := fun xs H Q => (∃ p ys, xs = [.ref p] ∧ (SqL K H p ys ∨ SqT K H p ys) ∧ Q (.int ys.length) H) ∨ (∃ z, xs = [.str z] ∧ z.length ≤ sizeLine ∧ Q (.int z.length) H)
def tupleA : AF := fun ds h => match ds with
  | [.tup xs] => .ok (.tup xs) h
  | [.ref n] => match getL h n with
    | some xs => .ok (.tup xs) h
    | none => .stuck
  | _ => .stuck
def listA : AF := fun ds h => match ds with
  | [.tup xs] => .ok (.ref h.length) (h ++ [.lst xs])
  | [.ref n] => match getL h n with
    | some xs => .ok (.ref h.length) (h ++ [.lst xs])
    | none => .stuck
  | _ => .stuck
def intA : AF := fun ds h => match ds with
  | [.int i] => .ok (.int i) h
  | [.bl b] => .ok (.int (if b then 1 else 0)) h
  | _ => .stuck
def absA : AF := fun ds h => match ds with
  | [.int i] => .ok (.int (if i < 0 then -i else i)) h
  | _ => .stuck
def bools : List D → Option (List Bool)
  | [] => some []
  | .bl b :: ds => (bools ds).map (b :: ·)
  | _ => none
def allA : AF := fun ds h => match ds with
  | [.ref n] => match getL h n with
    | some xs => match bools xs with
      | some bs => .ok (.bl (bs.all id)) h
      | none => .stuck
    | none => .stuck
  | _ => .stuck
def anyA : AF := fun ds h => match ds with
  | [.ref n] => match getL h n with
    | some xs => match bools xs with
      | some bs => .ok (.bl (bs.any id)) h
      | none => .stuck
    | none => .stuck
  | _ => .stuck
theorem CallR.or {X : Cx} {f : Value} {r r' : List V → Hp → VK → Prop} (h : CallR X f r) (h' : CallR X f r') : CallR X f (fun xs H Q => r xs H Q ∨ r' xs H Q) := by
  intro pins s σ H xs us Q I rr q
  rcases q with q | q
  · exact h pins s σ H xs us Q I rr q
  · exact h' pins s σ H xs us Q I rr q
section
variable {X : Cx} {ct : CTab} {K : PySem.W.Frag}
theorem call_lenA : CallR X (.builtin "len") (rLenA X.K) := CallR.or call_len_seq call_len_str
theorem cs_len : CallS K ct (rLenA K) lenA := by
  intro m H h ds vs Q W σ hr rl p
  unfold lenA at p
  split at p
  · cases rl with
    | cons r t =>
      cases t; cases r
      split at p
      · rename_i hl
        exact .inr ⟨_, rfl, hl, Post.val p hr .int⟩
      · exact (show False from p).elim
  · cases rl with
    | cons r t =>
      cases t
      cases r with
      | tup s rl' => exact .inl ⟨_, _, rfl, .inr s, by rw [← rl'.length]; exact Post.val p hr .int⟩
  · cases rl with
    | cons r t =>
      cases t
      split at p
      · rename_i xs ex
        obtain ⟨a, vs, rfl, _, rd, rl'⟩ := hr.getL ex r
        exact .inl ⟨_, _, rfl, .inl (.inl rd), by rw [← rl'.length]; exact Post.val p hr .int⟩
      · exact (show False from p).elim
  · exact (show False from p).elim
theorem cs_tuple : CallS K ct (fun xs H Q => ∃ p ys, xs = [.ref p] ∧ ((SqL K H p ys ∧ ∀ l, H l = none → Q (.ref l) (upd H l (.tup ys))) ∨ (SqT K H p ys ∧ Q (.ref p) H))) tupleA := by
  intro m H h ds vs Q W σ hr rl p
  unfold tupleA at p
  split at p
  · cases rl with
    | cons r t =>
      cases t
      cases r with
      | tup s rl' => exact ⟨_, _, rfl, .inr ⟨s, Post.val p hr (.tup s rl')⟩⟩
  · cases rl with
    | cons r t =>
      cases t
      split at p
      · rename_i xs ex
        obtain ⟨a, vs, rfl, _, rd, rl'⟩ := hr.getL ex r
        exact ⟨_, _, rfl, .inl ⟨.inl rd, fun q hq => Post.newTup hr hq rl' p⟩⟩
      · exact (show False from p).elim
  · exact (show False from p).elim
theorem cs_list : CallS K ct (fun xs H Q => ∃ p ys, xs = [.ref p] ∧ (SqL K H p ys ∨ SqT K H p ys) ∧ ∀ l, H l = none → Q (.ref l) (upd H l (.lst ys))) listA := by
  intro m H h ds vs Q W σ hr rl p
  unfold listA at p
  split at p
  · cases rl with
    | cons r t =>
      cases t
      cases r with
      | tup s rl' => exact ⟨_, _, rfl, .inr s, fun q hq => Post.newLst hr hq rl' p⟩
  · cases rl with
    | cons r t =>
      cases t
      split at p
      · rename_i xs ex
        obtain ⟨a, vs, rfl, _, rd, rl'⟩ := hr.getL ex r
        exact ⟨_, _, rfl, .inl (.inl rd), fun q hq => Post.newLst hr hq rl' p⟩
      · exact (show False from p).elim
  · exact (show False from p).elim
theorem cs_int : CallS K ct (fun xs H Q => (∃ i, xs = [.int i] ∧ Q (.int i) H) ∨ ∃ k, xs = [.bl k] ∧ Q (.int (if k then 1 else 0)) H) intA := by
  intro m H h ds vs Q W σ hr rl p
  unfold intA at p
  split at p
  · cases rl with
    | cons r t => cases t; cases r; exact .inl ⟨_, rfl, Post.val p hr .int⟩
  · cases rl with
    | cons r t => cases t; cases r; exact .inr ⟨_, rfl, Post.val p hr .int⟩
  · exact (show False from p).elim
theorem cs_abs : CallS K ct (fun xs H Q => ∃ i, xs = [.int i] ∧ Q (.int (if i < 0 then -i else i)) H) absA := by
  intro m H h ds vs Q W σ hr rl p
  unfold absA at p
  split at p
  · cases rl with
    | cons r t => cases t; cases r; exact ⟨_, rfl, Post.val p hr .int⟩
  · exact (show False from p).elim
theorem bools_rep {m : Mp} {H : Hp} : ∀ {xs : List D} {vs : List V} {bs : List Bool}, bools xs = some bs → RepL K ct m H xs vs → vs = bs.map V.bl
  | [], _, _, e, r => by cases e; cases r; rfl
  | .bl b :: xs, _, _, e, r => by
    obtain ⟨bs, e1, rfl⟩ := Option.map_eq_some_iff.mp (show (bools xs).map (b :: ·) = some _ from e)
    cases r with
    | cons r t => cases r; rw [bools_rep e1 t]; rfl
  | .non :: _, _, _, e, _ => by cases e
  | .int _ :: _, _, _, e, _ => by cases e
  | .str _ :: _, _, _, e, _ => by cases e
  | .tup _ :: _, _, _, e, _ => by cases e
  | .obj _ _ :: _, _, _, e, _ => by cases e
  | .ref _ :: _, _, _, e, _ => by cases e
  | .ty _ :: _, _, _, e, _ => by cases e
  | .cls _ :: _, _, _, e, _ => by cases e
theorem cs_all : CallS K ct (rAll K) allA := by
  intro m H h ds vs Q W σ hr rl p
  unfold allA at p
  split at p
  · cases rl with
    | cons r t =>
      cases t
      split at p
      · rename_i xs ex
        split at p
        · rename_i bs eb
          obtain ⟨a, vs, rfl, _, rd, rl'⟩ := hr.getL ex r
          rw [bools_rep eb rl'] at rd
          exact ⟨a, bs, rfl, .inl rd, Post.val p hr .bl⟩
        · exact (show False from p).elim
      · exact (show False from p).elim
  · exact (show False from p).elim
theorem cs_any : CallS K ct (rAny K) anyA := by
  intro m H h ds vs Q W σ hr rl p
  unfold anyA at p
  split at p
  · cases rl with
    | cons r t =>
      cases t
      split at p
      · rename_i xs ex
        split at p
        · rename_i bs eb
          obtain ⟨a, vs, rfl, _, rd, rl'⟩ := hr.getL ex r
          rw [bools_rep eb rl'] at rd
          exact ⟨a, bs, rfl, .inl rd, Post.val p hr .bl⟩
        · exact (show False from p).elim
      · exact (show False from p).elim
  · exact (show False from p).elim
end

/-! ### isinstance -/
def tyOf (T : Tabs) (h : AH) : D → Option Ty
  | .non => some (.b "NoneType")
  | .bl _ => some (.b "bool")
  | .int _ => some (.b "int")
  | .str _ => some (.b "str")
  | .tup _ => some (.b "tuple")
  | .obj c _ => if T.isC c = true then some (.c c) else none
  | .ref n => match h[n]? with
    | some (.lst _) => some (.b "list")
    | some (.fls _) => some (.b "list")
    | some (.dic _) => some (.b "dict")
    | some (.fdc _) => some (.b "dict")
    | some (.ins c _) => if T.isC c = true then some (.c c) else none
    | _ => none
  | _ => none
def clsOf : D → Option Ty
  | .ty n => some (.b n)
  | .cls c => some (.c c)
  | _ => none
def isAny (T : Tabs) (t : Ty) : List D → Option Bool
  | [] => some false
  | c :: cs => match clsOf c with
    | some u => match T.isi t u with
      | some true => match isAny T t cs with
        | some _ => some true
        | none => none
      | some false => isAny T t cs
      | none => none
    | none => none
def isiA (T : Tabs) : AF := fun ds h => match ds with
  | [x, .tup cs] => match tyOf T h x with
    | some t => match isAny T t cs with
      | some b => .ok (.bl b) h
      | none => .stuck
    | none => .stuck
  | [x, c] => match tyOf T h x, clsOf c with
    | some t, some u => match T.isi t u with
      | some b => .ok (.bl b) h
      | none => .stuck
    | _, _ => .stuck
  | _ => .stuck
/-- what the library asks of the value -/
def KitV (X : Cx) (H : Hp) (x : V) (t : Value) : Prop := TyX X.K H x t ∨ ∃ a es, x = .ref a ∧ Rd H a (rawD a es) ∧ t = .type "dict"
section
variable {X : Cx} {ct : CTab} {T : Tabs}
theorem kitV_of {pins : List (Addr × Obj)} {σ : St} {H : Hp} {s : Shared} {x : V} {u t : Value} (I : Inv X pins σ H s) (rx : RelV x u) (ty : KitV X H x t) : ∃ P : Heap → Prop, PySem.W.KitX X.K u t P ∧ P s.heap ∧ u ≠ .builtin "__main__.__loader__#opaque" := by
  rcases ty with ty | ⟨a, es, rfl, e, rfl⟩
  · exact kit_of I rx ty
  · cases (show u = Value.ref a from rx)
    obtain ⟨_, _, o, ep, ho, hx, _⟩ := d_raw I e
    exact ⟨_, PySem.W.kitx_dict, ⟨o, ho, hx.1⟩, fun z => nomatch z⟩
theorem tyOf_kit {m : Mp} {H : Hp} {h : AH} {d : D} {v : V} {t : Ty} (tk : TabOk X.K ct T) (hr : HR X.K ct m h H) (e : tyOf T h d = some t) (r : Rep X.K ct m H d v) : KitV X H v (tyV ct t) := by
  cases d with
  | non => cases e; cases r; exact .inl (.base .non)
  | bl b => cases e; cases r; exact .inl (.base (.bl _))
  | int b => cases e; cases r; exact .inl (.base (.int _))
  | str b => cases e; cases r; exact .inl (.base (.str _))
  | tup ds =>
    cases e
    cases r with
    | tup s _ =>
      rcases s with (s | ⟨o, s⟩) | ⟨o, its, n, s, c, _⟩
      · exact .inl (.base (.tup s))
      · exact .inl (.fTuple s)
      · exact .inl (.kTuple s c)
  | obj c fs =>
    have e : (if T.isC c = true then some (Ty.c c) else none) = some t := e
    split at e
    · rename_i hc
      cases e
      cases r with
      | obj e1 _ _ =>
        obtain ⟨a, b, c, d, f⟩ := tk.cls _ hc
        exact .inl (.base (.ins e1 a b c d f))
    · cases e
  | ref n =>
    unfold tyOf at e
    dsimp only at e
    split at e
    · rename_i xs en
      cases e
      obtain ⟨a, rfl, _, vs, eH, _⟩ := hr.at en (by intro z; cases z) r
      exact .inl (.base (.lst eH))
    · rename_i xs en
      cases e
      obtain ⟨a, rfl, _, o, vs, eH, _⟩ := hr.at en (by intro z; cases z) r
      exact .inl (.base (.frz eH))
    · rename_i xs en
      cases e
      obtain ⟨a, rfl, _, es, eH, _⟩ := hr.at en (by intro z; cases z) r
      exact .inr ⟨a, es, rfl, .inl eH, rfl⟩
    · rename_i xs en
      cases e
      obtain ⟨a, rfl, _, o, es, ep, eH, _⟩ := hr.at en (by intro z; cases z) r
      exact .inr ⟨a, es, rfl, .inr ⟨o, eH⟩, rfl⟩
    · rename_i c fs en
      split at e
      · rename_i hc
        cases e
        obtain ⟨a, rfl, _, dx, vs, eH, _⟩ := hr.at en (by intro z; cases z) r
        obtain ⟨a1, b1, c1, d1, f1⟩ := tk.cls _ hc
        exact .inl (.base (.ins eH a1 b1 c1 d1 f1))
      · cases e
    · cases e
  | ty n => cases e
  | cls n => cases e
def rIsiA (X : Cx) : List V → Hp → VK → Prop := fun xs H Q => (∃ (x c : V) (t u : Value) (b : Bool), xs = [x, c] ∧ ClsV c u ∧ KitV X H x t ∧ PySem.W.kitOne X.K t u = some b ∧ Q (.bl b) H) ∨
  ∃ (x : V) (tp : Addr) (cs : List V) (t : Value) (us : List Value) (b : Bool), xs = [x, .ref tp] ∧ SqT X.K H tp cs ∧ Paired ClsV cs us ∧ KitV X H x t ∧ PySem.W.kitAny X.K t us = some b ∧ Q (.bl b) H
theorem call_isiA : CallR X (.builtin "isinstance") (rIsiA X) := by
  intro pins s σ H xs us Q I r h
  rcases h with ⟨x, c, t, u, b, rfl, k, ty, e, q⟩ | ⟨x, tp, cs, t, ws, b, rfl, hT, k, ty, e, q⟩
  · obtain ⟨u1, u2, rfl, r1, r2⟩ := vals2 r
    have e2 := k.eq r2
    subst e2
    obtain ⟨P, Z, p, hx⟩ := kitV_of I r1 ty
    exact PySem.W.kia_one Z I.kIn p e hx fun tk => ⟨.bl b, H, I.tok tk, rfl, q⟩
  · obtain ⟨u1, u2, rfl, r1, r2⟩ := vals2 r
    cases (show u2 = Value.ref tp from r2)
    obtain ⟨P, Z, p, hx⟩ := kitV_of I r1 ty
    obtain ⟨its, rv, ⟨o, h1, h2, n, h3⟩, _⟩ := I.tuple hT
    have e3 := ClsV.all k rv
    subst e3
    obtain ⟨oc, od, dt, sl⟩ := o
    simp only at h2 h3
    subst h2 h3
    exact PySem.W.kia_tup Z I.kIn p h1 e hx fun tk => ⟨.bl b, H, I.tok tk, rfl, q⟩
theorem clsOf_v {K : PySem.W.Frag} {m : Mp} {H : Hp} {d : D} {v : V} {u : Ty} (e : clsOf d = some u) (r : Rep K ct m H d v) : ClsV v (tyV ct u) := by
  cases d <;> first | (cases e; cases r; first | exact .ty _ | exact .own _) | cases e
theorem isAny_kit {K : PySem.W.Frag} {m : Mp} {H : Hp} {t : Ty} (tk : TabOk K ct T) : ∀ {cs : List D} {vs : List V} {b : Bool}, isAny T t cs = some b → RepL K ct m H cs vs → ∃ us, Paired ClsV vs us ∧ PySem.W.kitAny K (tyV ct t) us = some b
  | [], _, _, e, r => by cases e; cases r; exact ⟨[], .nil, rfl⟩
  | c :: cs, _, b, e, r => by
    cases r with
    | cons r rt =>
      unfold isAny at e
      split at e
      · rename_i u eu
        split at e
        · rename_i ei
          split at e
          · rename_i z ez
            cases e
            obtain ⟨us, p, _⟩ := isAny_kit tk ez rt
            exact ⟨tyV ct u :: us, .cons (clsOf_v eu r) p, kitAny_cons (tk.isi _ _ _ ei) (fun z => by cases z) fun _ => rfl⟩
          · cases e
        · rename_i ei
          obtain ⟨us, p, q⟩ := isAny_kit tk e rt
          exact ⟨tyV ct u :: us, .cons (clsOf_v eu r) p, kitAny_cons (tk.isi _ _ _ ei) (fun _ => q) fun z => by cases z⟩
        · cases e
      · cases e
theorem cs_isi (tk : TabOk X.K ct T) : CallS X.K ct (rIsiA X) (isiA T) := by
  intro m H h ds vs Q W σ hr rl p
  unfold isiA at p
  split at p
  · cases rl with
    | cons r t =>
      cases t with
      | cons r2 t2 =>
        cases t2
        cases r2 with
        | tup s rl' =>
          split at p
          · rename_i ty et
            split at p
            · rename_i b eb
              obtain ⟨us, pr, q⟩ := isAny_kit tk eb rl'
              exact .inr ⟨_, _, _, _, us, b, rfl, s, pr, tyOf_kit tk hr et r, q, Post.val p hr .bl⟩
            · exact (show False from p).elim
          · exact (show False from p).elim
  · cases rl with
    | cons r t =>
      cases t with
      | cons r2 t2 =>
        cases t2
        split at p
        · rename_i ty u et eu
          split at p
          · rename_i b eb
            exact .inl ⟨_, _, _, _, b, rfl, clsOf_v eu r2, tyOf_kit tk hr et r, tk.isi _ _ _ eb, Post.val p hr .bl⟩
          · exact (show False from p).elim
        · exact (show False from p).elim
  · exact (show False from p).elim
end

/-! ### methods of lists -/
abbrev AM := D → List D → AH → Res D
def MtS (K : PySem.W.Frag) (ct : CTab) (T : String) (r : V → List V → Hp → VK → Prop) (F : AM) : Prop := ∀ m H h x ds vx vs Q W σ, HR K ct m h H → Rep K ct m H x vx → RepL K ct m H ds vs → Post K ct m H W σ (F x ds h) (fun d m' _ H' => ∀ v, Rep K ct m' H' d v → Q v H') → r vx vs H Q
/-- the receiver is of that type when it is come to -/
def isT (T : String) (h : AH) : D → Bool
  | .str _ => T == "str"
  | .ref n => T == "list" && (getL h n).isSome
  | _ => false
def eBM (T : String) (F : AM) (fo : AE) (g : AA) : AE := fun A h => (fo A h).bind fun o h1 => if isT T h1 o = true then (g A h1).bind fun ds h2 => F o ds h2 else .stuck
section
variable {X : Cx} {ct : CTab} {W : WX} {o e : Expr} {es : List Expr} {fo : AE} {g : AA} {name : Str} {apos cpos : Pos} {T id : String} {r : V → List V → Hp → VK → Prop} {F : AM}
theorem isT_ty {K : PySem.W.Frag} {m : Mp} {H : Hp} {h : AH} {d : D} {v : V} (hr : HR K ct m h H) (e : isT T h d = true) (rv : Rep K ct m H d v) : L2.tyV K T v H := by
  cases d with
  | str z => cases rv; exact beq_iff_eq.mp e
  | ref n =>
    unfold isT at e
    rw [Bool.and_eq_true] at e
    obtain ⟨xs, ex⟩ := Option.isSome_iff_exists.mp e.2
    obtain ⟨a, vs, rfl, _, rd, _⟩ := hr.getL ex rv
    exact .inl ⟨beq_iff_eq.mp e.1, vs, .inl rd⟩
  | _ => cases e
theorem se_bm (pa : PlainAttrs T) (slot : Slot T name id) (hty : typeOf (.builtin id) = pure (.type "method_descriptor")) (hm : MtR X id r) (hs : MtS X.K ct T r F) (ho : SE ct X W o fo) (ha : SA ct X W (e :: es) g)
    (hbase : attributeBase o name X.env (eval o X.env) = eval o X.env := by rfl)
    (hfew : ((backTo cpos (starEach (e :: es) X.env)).all (fun x => !x.1) && (backToKw cpos (keywordEach [] X.env)).all (fun x => x.1.isSome)
      && decide ((e :: es).length + ([] : List Keyword).length + (if ([] : List Keyword).isEmpty then 0 else 1) < 30)) = true := by rfl)
    (hline : (apos.endLine == cpos.line) = true := by rfl) (hst : starEach (e :: es) X.env = (false, eval e X.env) :: starEach es X.env := by rfl) (hplain : (backTo cpos (starEach es X.env)).any (·.1) = false := by rfl) :
    SE ct X W (.Call (.Attribute o name apos) (e :: es) [] cpos) (eBM T F fo g) :=
  PE.imp (pe_bm pa slot hty hm ho ha hbase hfew hline hst hplain) fun σ H Q ⟨m, A, h, hr, en, po⟩ => ⟨m, A, h, hr, en, po.bind.imp fun x m1 h1 H1 e1 r1 p1 v rv => by
    split at p1
    · rename_i hT
      exact ⟨isT_ty r1 hT rv, m1, A, h1, r1, en.ext e1, (Post.bind p1).imp fun ds m2 h2 H2 e2 r2 p2 vs rvs => hs m2 H2 h2 x ds v vs Q W σ r2 (rv.ext e2) rvs p2⟩
    · exact (show False from p1).elim⟩
theorem se_bm0 (pa : PlainAttrs T) (slot : Slot T name id) (hty : typeOf (.builtin id) = pure (.type "method_descriptor")) (hm : MtR X id r) (hs : MtS X.K ct T r F) (ho : SE ct X W o fo)
    (hbase : attributeBase o name X.env (eval o X.env) = eval o X.env := by rfl) (hline : (apos.endLine == cpos.line) = true := by rfl) : SE ct X W (.Call (.Attribute o name apos) [] [] cpos) (eBM T F fo aNil) :=
  PE.imp (pe_bm0 pa slot hty hm ho hbase hline) fun σ H Q ⟨m, A, h, hr, en, po⟩ => ⟨m, A, h, hr, en, po.bind.imp fun x m1 h1 H1 e1 r1 p1 v rv => by
    split at p1
    · rename_i hT
      exact ⟨isT_ty r1 hT rv, hs m1 H1 h1 x [] v [] Q W σ r1 rv .nil p1⟩
    · exact (show False from p1).elim⟩
def appendA : AM := fun o ds h => match o, ds with
  | .ref n, [d] => match h[n]? with
    | some (.lst xs) => if xs.length < sizeLine then .ok .non (h.set n (.lst (xs ++ [d]))) else .stuck
    | _ => .stuck
  | _, _ => .stuck
def extendA : AM := fun o ds h => match o, ds with
  | .ref n, [.ref k] => match h[n]?, h[k]? with
    | some (.lst xs), some (.lst ys) => if xs.length + ys.length ≤ sizeLine then .ok .non (h.set n (.lst (xs ++ ys))) else .stuck
    | _, _ => .stuck
  | _, _ => .stuck
def popA : AM := fun o ds h => match o, ds with
  | .ref n, [] => match h[n]? with
    | some (.lst xs) => match xs[xs.length - 1]? with
      | some d => .ok d (h.set n (.lst xs.dropLast))
      | none => .stuck
    | _ => .stuck
  | _, _ => .stuck
def popAtA : AM := fun o ds h => match o, ds with
  | .ref n, [.int i] => match h[n]? with
    | some (.lst xs) => if -(2 ^ 63) ≤ i ∧ i < 2 ^ 63 then match seqIndex? i xs.length with
        | some k => match xs[k]? with
          | some d => .ok d (h.set n (.lst (xs.eraseIdx k)))
          | none => .stuck
        | none => .stuck
      else .stuck
    | _ => .stuck
  | _, _ => .stuck
theorem upd_lst {K : PySem.W.Frag} {m : Mp} {H : Hp} {h : AH} {n : Nat} {a : Addr} {ys : List D} {ws us : List V} (hr : HR K ct m h H) (ea : m[n]? = some (some a)) (eH : H a = some (.lst us)) (rl : RepL K ct m H ys ws) :
    HR K ct m (h.set n (.lst ys)) (upd H a (.lst ws)) ∧ Ext m H m (upd H a (.lst ws)) := by
  obtain ⟨o0, e0, n0, r0⟩ := hr.live ea
  obtain ⟨u0, eu0, nt⟩ := r0.some
  have nf : NoFz H a := NoFz.of eH fun _ _ z => by cases z
  have ex : Ext m H m (upd H a (.lst ws)) := Ext.upd n ea nt nf
  exact hr.upd ea (by intro z; cases z) nf ⟨_, upd_same, rl.ext ex⟩
theorem ms_append {K : PySem.W.Frag} : MtS K ct "list" rAppend appendA := by
  intro m H h x ds vx vs Q W σ hr rx rl p
  unfold appendA at p
  split at p
  · cases rl with
    | cons r t =>
      cases t
      split at p
      · rename_i xs en
        split at p
        · rename_i hl
          obtain ⟨a, rfl, ea, ws, eH, rl'⟩ := hr.at en (by intro z; cases z) rx
          obtain ⟨hr', ex⟩ := upd_lst hr ea eH (rl'.append (.cons r .nil))
          exact ⟨a, ws, _, rfl, rfl, eH, by rw [← rl'.length]; exact hl, p m _ ex hr' _ .non⟩
        · exact (show False from p).elim
      · exact (show False from p).elim
  · exact (show False from p).elim
theorem ms_extend {K : PySem.W.Frag} : MtS K ct "list" rExtend extendA := by
  intro m H h x ds vx vs Q W σ hr rx rl p
  unfold extendA at p
  split at p
  · cases rl with
    | cons r t =>
      cases t
      split at p
      · rename_i xs ys en ek
        split at p
        · rename_i hl
          obtain ⟨a, rfl, ea, ws, eH, rl'⟩ := hr.at en (by intro z; cases z) rx
          obtain ⟨b, rfl, eb, us, eK, rk'⟩ := hr.at ek (by intro z; cases z) r
          obtain ⟨hr', ex⟩ := upd_lst hr ea eH (rl'.append rk')
          exact ⟨a, b, ws, us, rfl, rfl, eH, eK, by rw [← rl'.length, ← rk'.length]; exact hl, p m _ ex hr' _ .non⟩
        · exact (show False from p).elim
      · exact (show False from p).elim
  · exact (show False from p).elim
theorem RepL.dropLast {K : PySem.W.Frag} {m : Mp} {H : Hp} {xs : List D} {vs : List V} (r : RepL K ct m H xs vs) : RepL K ct m H xs.dropLast vs.dropLast := by
  rw [List.dropLast_eq_take, List.dropLast_eq_take, ← r.length]
  exact RepL.takeN _ r
theorem RepL.erase {K : PySem.W.Frag} {m : Mp} {H : Hp} : ∀ (k : Nat) {xs : List D} {vs : List V}, RepL K ct m H xs vs → RepL K ct m H (xs.eraseIdx k) (vs.eraseIdx k)
  | _, _, _, .nil => .nil
  | 0, _, _, .cons _ t => t
  | k + 1, _, _, .cons r t => .cons r (RepL.erase k t)
theorem ms_pop {K : PySem.W.Frag} : MtS K ct "list" rPop popA := by
  intro m H h x ds vx vs Q W σ hr rx rl p
  unfold popA at p
  split at p
  · cases rl
    split at p
    · rename_i xs en
      split at p
      · rename_i d ed
        obtain ⟨a, rfl, ea, ws, eH, rl'⟩ := hr.at en (by intro z; cases z) rx
        obtain ⟨hr', ex⟩ := upd_lst hr ea eH rl'.dropLast
        obtain ⟨v, ev, rv⟩ := RepL.get _ rl' ed
        exact ⟨a, ws, v, rfl, rfl, eH, by rw [← rl'.length]; exact ev, p m _ ex hr' _ (rv.ext ex)⟩
      · exact (show False from p).elim
    · exact (show False from p).elim
  · exact (show False from p).elim
theorem ms_popAt {K : PySem.W.Frag} : MtS K ct "list" rPopAt popAtA := by
  intro m H h x ds vx vs Q W σ hr rx rl p
  unfold popAtA at p
  split at p
  · cases rl with
    | cons r t =>
      cases t
      cases r
      split at p
      · rename_i xs en
        split at p
        · rename_i hc
          split at p
          · rename_i k ek
            split at p
            · rename_i d ed
              obtain ⟨a, rfl, ea, ws, eH, rl'⟩ := hr.at en (by intro z; cases z) rx
              obtain ⟨hr', ex⟩ := upd_lst hr ea eH (RepL.erase k rl')
              obtain ⟨v, ev, rv⟩ := RepL.get _ rl' ed
              exact ⟨a, ws, _, k, v, rfl, rfl, eH, hc.1, hc.2, by rw [← rl'.length]; exact ek, ev, p m _ ex hr' _ (rv.ext ex)⟩
            · exact (show False from p).elim
          · exact (show False from p).elim
        · exact (show False from p).elim
      · exact (show False from p).elim
  · exact (show False from p).elim
end
end Led
/-! LedComp: what is walked, comprehensions. -/
namespace Led
open PySem L2

/-! ### what is walked, by values -/
def IterV (X : Cx) (tg : Expr) (r : V → Hp → (It → Hp → Prop) → Prop) : Prop := ∀ (pins : List (Addr × Obj)) (s : Shared) (σ : St) (H : Hp) (x : V) (v : Value) (R : It → Hp → Prop), Inv X pins σ H s → RelV x v → r x H R → wpAny (model X.prog X.w) X.A (pyIter v) (PIE X pins σ tg R) X.xe s
def srcOf : D → AH → Res Src := fun d h => match d with
  | .tup ds => .ok (.tup ds) h
  | .str x => .ok (.str x) h
  | .ref n => match getL h n with
    | some _ => .ok (.list n) h
    | none => .stuck
  | _ => .stuck
def iSeq (f : AE) : AI := fun A h => (f A h).bind srcOf
def rSeq (K : PySem.W.Frag) : V → Hp → (It → Hp → Prop) → Prop := fun x H R => (∃ a xs, x = .ref a ∧ SqL K H a xs ∧ R (Itl K a) H) ∨ (∃ a xs, x = .ref a ∧ SqT K H a xs ∧ R (Itt K a) H) ∨ ∃ z, x = .str z ∧ R (Its z) H
section
variable {X : Cx} {ct : CTab} {W : WX} {tg e : Expr} {fe : AE}
theorem pi_val {te : TE} {r : V → Hp → (It → Hp → Prop) → Prop} (he : PE X e te) (hv : IterV X tg r) : PI X tg e (fun σ H R => te σ H fun x H1 => r x H1 R) :=
  ⟨fun pins s σ H R I h => thn (he.run pins s σ H _ I h) fun v s1 ⟨x, H1, I1, r1, q1⟩ => hv pins s1 σ H1 x v R I1 r1 q1⟩
theorem iter_seq : IterV X tg (rSeq X.K) := by
  intro pins s σ H x v R I rx h
  rcases h with ⟨a, xs, rfl, hq, q⟩ | ⟨a, xs, rfl, hq, q⟩ | ⟨z, rfl, q⟩
  · cases rx
    obtain ⟨its, rv, p, hz⟩ := I.list hq
    exact wpAny_pyIter_list p.isList (pi_one (tk := s.toks) I _ (turn_list a _) ⟨_, Heap.get?_push_size _ rfl, rfl, rfl⟩ q)
  · cases rx
    obtain ⟨its, rv, p, hz⟩ := I.tuple hq
    exact wpAny_pyIter_tuple (show s.heap.IsTuple a its.toArray from p) (pi_one (tk := s.toks) I _ (turn_tuple a _) ⟨_, Heap.get?_push_size _ rfl, rfl, rfl⟩ q)
  · obtain ⟨t, rfl⟩ := rx
    cases ha : z.cps.all (· < 128)
    · exact wpAny_pyIter_wide ha (pi_one (tk := s.toks) I _ (turn_str _ z t "str_iterator" (.inr rfl)) ⟨_, Heap.get?_push_size _ rfl, rfl, rfl⟩ q)
    · exact wpAny_pyIter_ascii ha (pi_one (tk := s.toks) I _ (turn_str _ z t "str_ascii_iterator" (.inl rfl)) ⟨_, Heap.get?_push_size _ rfl, rfl, rfl⟩ q)
theorem getL_of {h : AH} {n : Nat} {o : AO} {xs : List D} (e : h[n]? = some o) (l : lstOf o = some xs) : getL h n = some xs := by unfold getL; rw [e]; exact l
theorem itr_list {K : PySem.W.Frag} {m : Mp} {H : Hp} {n : Nat} {a : Addr} (ra : Rep K ct m H (.ref n) (.ref a)) : ItR K ct m H (.list n) (Itl K a) := by
  intro m' H' h' i ex hr
  have ra' := ra.ext ex
  have key : ∀ xs, getL h' n = some xs → match (some xs[i]? : Option (Option D)) with
      | some (some d) => (Itl K a).go i H' ∧ ∀ x H'', (Itl K a).yld i H' x H'' → ∃ m'', Ext m' H' m'' H'' ∧ HR K ct m'' h' H'' ∧ Rep K ct m'' H'' d x
      | some none => (Itl K a).stop i H'
      | none => True := fun xs ex => by
    obtain ⟨b, vs, eb, _, rd, rl⟩ := hr.getL ex ra'
    cases eb
    cases ed : xs[i]? with
    | none => exact ⟨vs, .inl rd, by rw [← rl.length]; exact List.getElem?_eq_none_iff.mp ed⟩
    | some d =>
      obtain ⟨v, ev, rv⟩ := RepL.get i rl ed
      refine ⟨⟨vs, v, .inl rd, ev⟩, fun x H'' y => ?_⟩
      obtain ⟨e1, e2⟩ := y
      subst e1
      have e3 := e2 vs (.inl rd)
      rw [ev] at e3
      cases e3
      exact ⟨m', Ext.refl _ _, hr, rv⟩
  unfold Src.nxt
  split
  · rename_i d e
    split at e
    · rename_i xs en
      have := key xs (getL_of en rfl)
      rw [Option.some.inj e] at this
      exact this
    · rename_i xs en
      have := key xs (getL_of en rfl)
      rw [Option.some.inj e] at this
      exact this
    · cases e
  · rename_i e
    split at e
    · rename_i xs en
      have := key xs (getL_of en rfl)
      rw [Option.some.inj e] at this
      exact this
    · rename_i xs en
      have := key xs (getL_of en rfl)
      rw [Option.some.inj e] at this
      exact this
    · cases e
  · trivial
theorem itr_tup {K : PySem.W.Frag} {m : Mp} {H : Hp} {ds : List D} {a : Addr} {vs : List V} (s : SqT K H a vs) (rl : RepL K ct m H ds vs) : ItR K ct m H (.tup ds) (Itt K a) := by
  intro m' H' h' i ex hr
  have s' := SqT.ext ex s
  have rl' := rl.ext ex
  show match (some ds[i]? : Option (Option D)) with
    | some (some d) => (Itt K a).go i H' ∧ ∀ x H'', (Itt K a).yld i H' x H'' → ∃ m'', Ext m' H' m'' H'' ∧ HR K ct m'' h' H'' ∧ Rep K ct m'' H'' d x
    | some none => (Itt K a).stop i H'
    | none => True
  cases ed : ds[i]? with
  | none => exact ⟨vs, s', by rw [← rl.length]; exact List.getElem?_eq_none_iff.mp ed⟩
  | some d =>
    obtain ⟨v, ev, rv⟩ := RepL.get i rl' ed
    refine ⟨⟨vs, v, s', ev⟩, fun x H'' y => ?_⟩
    obtain ⟨e1, e2⟩ := y
    subst e1
    have e3 := e2 vs s'
    rw [ev] at e3
    cases e3
    exact ⟨m', Ext.refl _ _, hr, rv⟩
theorem itr_str {K : PySem.W.Frag} {m : Mp} {H : Hp} {z : Str} : ItR K ct m H (.str z) (Its z) := by
  intro m' H' h' i ex hr
  show match (some (z.cps[i]?.map fun c => D.str ⟨#[c]⟩) : Option (Option D)) with
    | some (some d) => (Its z).go i H' ∧ ∀ x H'', (Its z).yld i H' x H'' → ∃ m'', Ext m' H' m'' H'' ∧ HR K ct m'' h' H'' ∧ Rep K ct m'' H'' d x
    | some none => (Its z).stop i H'
    | none => True
  cases ed : z.cps[i]? with
  | none => exact Array.getElem?_eq_none_iff.mp ed
  | some c =>
    refine ⟨(Array.getElem?_eq_some_iff.mp ed).1, fun x H'' y => ?_⟩
    obtain ⟨e1, c', e2, e3⟩ := y
    subst e1
    rw [ed] at e2
    cases e2
    subst e3
    exact ⟨m', Ext.refl _ _, hr, .str⟩
theorem itr_rng {K : PySem.W.Frag} {m : Mp} {H : Hp} {lo : Int} {n : Nat} : ItR K ct m H (.rng lo n) (Itr lo n) := by
  intro m' H' h' i ex hr
  show match (some (if i < n then some (D.int (lo + i)) else none) : Option (Option D)) with
    | some (some d) => (Itr lo n).go i H' ∧ ∀ x H'', (Itr lo n).yld i H' x H'' → ∃ m'', Ext m' H' m'' H'' ∧ HR K ct m'' h' H'' ∧ Rep K ct m'' H'' d x
    | some none => (Itr lo n).stop i H'
    | none => True
  by_cases hi : i < n
  · rw [if_pos hi]
    refine ⟨hi, fun x H'' y => ?_⟩
    obtain ⟨e1, e2⟩ := y
    subst e1 e2
    exact ⟨m', Ext.refl _ _, hr, .int⟩
  · rw [if_neg hi]
    exact Nat.le_of_not_lt hi
theorem si_seq (he : SE ct X W e fe) : SI ct X W tg e (iSeq fe) := PI.imp (pi_val he iter_seq) fun σ H R ⟨m, A, h, hr, en, po⟩ => ⟨m, A, h, hr, en, po.bind.imp fun d m1 h1 H1 e1 r1 p1 v rv => by
  unfold srcOf at p1
  split at p1
  · cases rv with
    | tup s rl => exact .inr (.inl ⟨_, _, rfl, s, p1 m1 H1 (Ext.refl _ _) r1 _ (itr_tup s rl)⟩)
  · cases rv
    exact .inr (.inr ⟨_, rfl, p1 m1 H1 (Ext.refl _ _) r1 _ itr_str⟩)
  · rename_i n
    split at p1
    · rename_i xs ex
      obtain ⟨a, vs, rfl, _, rd, rl⟩ := r1.getL ex rv
      exact .inl ⟨a, vs, rfl, .inl rd, p1 m1 H1 (Ext.refl _ _) r1 _ (itr_list rv)⟩
    · exact (show False from p1).elim
  · exact (show False from p1).elim⟩
def rng1A (ds : List D) (h : AH) : Res Src := match ds with
  | [.int j] => if -(2 ^ 62) ≤ j ∧ j < 2 ^ 62 then .ok (.rng 0 j.toNat) h else .stuck
  | _ => .stuck
def rng2A (ds : List D) (h : AH) : Res Src := match ds with
  | [.int i, .int j] => if (-(2 ^ 62) ≤ i ∧ i < 2 ^ 62 ∧ -(2 ^ 62) ≤ j ∧ j < 2 ^ 62) then .ok (.rng i (j - i).toNat) h else .stuck
  | _ => .stuck
def enumA (ds : List D) (h : AH) : Res Src := match ds with
  | [.ref n] => match getL h n with
    | some _ => .ok (.enum (.list n)) h
    | none => .stuck
  | _ => .stuck
def iCall (r : List D → AH → Res Src) (g : AA) : AI := fun A h => (g A h).bind r
theorem si_range1 {a : Expr} {g : AE} {p pos : Pos} (hm : X.mg "range" = none) (ha : SE ct X W a g) (hg : Gl X "range" := by rfl) (hs : starEach [a] X.env = [(false, eval a X.env)] := by rfl) (hs1 : starEach [a] X.env = (false, eval a X.env) :: starEach [] X.env := by rfl) :
    SI ct X W tg (.Call (.Name "range" p) [a] [] pos) (iCall rng1A (aCons g aNil)) :=
  PI.imp (pi_range1 hg hm (sa_cons ha sa_nil hs1) hs) fun σ H R ⟨m, A, h, hr, en, po⟩ => ⟨m, A, h, hr, en, po.bind.imp fun ds m1 h1 H1 e1 r1 p1 vs rvs => by
    unfold rng1A at p1
    split at p1
    · split at p1
      · rename_i j hc
        cases rvs with
        | cons r t => cases t; cases r; exact ⟨j, rfl, hc.1, hc.2, p1 m1 H1 (Ext.refl _ _) r1 _ itr_rng⟩
      · exact (show False from p1).elim
    · exact (show False from p1).elim⟩
theorem si_range2 {a b : Expr} {g g2 : AE} {p pos : Pos} (hm : X.mg "range" = none) (ha : SE ct X W a g) (hb : SE ct X W b g2) (hg : Gl X "range" := by rfl) (hs : starEach [a, b] X.env = [(false, eval a X.env), (false, eval b X.env)] := by rfl) (hs2 : starEach [b] X.env = [(false, eval b X.env)] := by rfl)
    (hs1 : starEach [b] X.env = (false, eval b X.env) :: starEach [] X.env := by rfl) (hs0 : starEach [a, b] X.env = (false, eval a X.env) :: starEach [b] X.env := by rfl) :
    SI ct X W tg (.Call (.Name "range" p) [a, b] [] pos) (iCall rng2A (aCons g (aCons g2 aNil))) :=
  PI.imp (pi_range2 hg hm (sa_cons ha (sa_cons hb sa_nil hs1) hs0) hs hs2) fun σ H R ⟨m, A, h, hr, en, po⟩ => ⟨m, A, h, hr, en, po.bind.imp fun ds m1 h1 H1 e1 r1 p1 vs rvs => by
    unfold rng2A at p1
    split at p1
    · split at p1
      · rename_i i j hc
        cases rvs with
        | cons r t => cases t with
          | cons r' t' => cases t'; cases r; cases r'; exact ⟨i, j, rfl, ⟨hc.1, hc.2.1, hc.2.2.1, hc.2.2.2⟩, p1 m1 H1 (Ext.refl _ _) r1 _ itr_rng⟩
      · exact (show False from p1).elim
    · exact (show False from p1).elim⟩
theorem itr_enum {K : PySem.W.Frag} {m : Mp} {H : Hp} {n : Nat} {a : Addr} (ra : Rep K ct m H (.ref n) (.ref a)) : ItR K ct m H (.enum (.list n)) (Ite K a) := by
  intro m' H' h' i ex hr
  have ra' := ra.ext ex
  show match ((Src.list n).nxt h' i).map (fun o => o.map fun d => D.tup [.int i, d]) with
    | some (some d) => (Ite K a).go i H' ∧ ∀ x H'', (Ite K a).yld i H' x H'' → ∃ m'', Ext m' H' m'' H'' ∧ HR K ct m'' h' H'' ∧ Rep K ct m'' H'' d x
    | some none => (Ite K a).stop i H'
    | none => True
  have key : ∀ xs, getL h' n = some xs → match ((some xs[i]? : Option (Option D))).map (fun o => o.map fun d => D.tup [.int i, d]) with
      | some (some d) => (Ite K a).go i H' ∧ ∀ x H'', (Ite K a).yld i H' x H'' → ∃ m'', Ext m' H' m'' H'' ∧ HR K ct m'' h' H'' ∧ Rep K ct m'' H'' d x
      | some none => (Ite K a).stop i H'
      | none => True := fun xs ex => by
    obtain ⟨b, vs, eb, _, rd, rl⟩ := hr.getL ex ra'
    cases eb
    cases ed : xs[i]? with
    | none => exact ⟨vs, .inl rd, by rw [← rl.length]; exact List.getElem?_eq_none_iff.mp ed⟩
    | some d =>
      obtain ⟨v, ev, rv⟩ := RepL.get i rl ed
      refine ⟨⟨vs, v, .inl rd, ev⟩, fun x H'' y => ?_⟩
      obtain ⟨T, x', rfl, hT, rfl, e2⟩ := y
      have e3 := e2 vs (.inl rd)
      rw [ev] at e3
      cases e3
      refine ⟨m', Ext.new hr hT, hr.new hT, .tup (.inl (.inl upd_same)) (.cons .int (.cons (rv.ext (Ext.new hr hT)) .nil))⟩
  cases en : h'[n]? with
  | none => simp only [Src.nxt, en]; exact trivial
  | some o =>
    cases o with
    | lst xs => have q := key xs (getL_of en rfl); simp only [Src.nxt, en]; exact q
    | fls xs => have q := key xs (getL_of en rfl); simp only [Src.nxt, en]; exact q
    | _ => simp only [Src.nxt, en]; exact trivial
theorem si_enum {a : Expr} {g : AE} {p pos tpos : Pos} {elts : List Expr} {kk : Nat} (hm : X.mg "enumerate" = none) (ha : SE ct X W a g) (hg : Gl X "enumerate" := by rfl) (hs : starEach [a] X.env = [(false, eval a X.env)] := by rfl) (hs1 : starEach [a] X.env = (false, eval a X.env) :: starEach [] X.env := by rfl) :
    SI ct X W (.Tuple elts kk tpos) (.Call (.Name "enumerate" p) [a] [] pos) (iCall enumA (aCons g aNil)) :=
  PI.imp (pi_enum hg hm (sa_cons ha sa_nil hs1) hs) fun σ H R ⟨m, A, h, hr, en, po⟩ => ⟨m, A, h, hr, en, po.bind.imp fun ds m1 h1 H1 e1 r1 p1 vs rvs => by
    unfold enumA at p1
    split at p1
    · split at p1
      · rename_i n _ xs ex
        cases rvs with
        | cons r t =>
          cases t
          obtain ⟨b, ws, rfl, _, rd, rl⟩ := r1.getL ex r
          exact ⟨b, ws, rfl, .inl rd, p1 m1 H1 (Ext.refl _ _) r1 _ (itr_enum r)⟩
      · exact (show False from p1).elim
    · exact (show False from p1).elim⟩
end

/-! ### comprehensions -/
def Res.calm {α : Type} (r : Res α) : Res α := match r with
  | .exc _ _ => .stuck
  | r => r
def W0 : WX := fun _ _ _ _ => False
theorem Post.calm {α : Type} {K : PySem.W.Frag} {ct : CTab} {m : Mp} {H : Hp} {W W' : WX} {σ σ' : St} {r : Res α} {P : α → Mp → AH → Hp → Prop} (h : Post K ct m H W σ r.calm P) : Post K ct m H W' σ' r P := by
  cases r with
  | ok a h' => exact h
  | exc x h' => exact h.elim
  | stuck => exact h
def wipeA (A : AEnv) : List Nat → AEnv
  | [] => A
  | v :: vs => (wipeA A vs).set v none
theorem EnvR.wipe {K : PySem.W.Frag} {ct : CTab} {m : Mp} {H : Hp} {A : AEnv} {σ : St} (en : EnvR K ct m H A σ) : ∀ vs : List Nat, EnvR K ct m H (wipeA A vs) (L2.wipe σ vs)
  | [] => en
  | v :: vs => (en.wipe vs).unset v
theorem wipe_get (σ : St) (i : Nat) : ∀ vs : List Nat, (wipe σ vs)[i]? = if i ∈ vs ∧ i < σ.length then some none else σ[i]?
  | [] => by simp [wipe]
  | v :: vs => by
    unfold wipe
    by_cases hi : v = i
    · subst hi
      by_cases hl : v < σ.length
      · rw [List.getElem?_set_self (by rw [wipe_length]; exact hl), if_pos ⟨List.mem_cons_self .., hl⟩]
      · rw [List.getElem?_eq_none (by rw [List.length_set, wipe_length]; omega), if_neg (fun z => hl z.2), List.getElem?_eq_none (by omega)]
    · rw [List.getElem?_set_ne hi, wipe_get σ i vs]
      by_cases hm : i ∈ vs ∧ i < σ.length
      · rw [if_pos hm, if_pos ⟨List.mem_cons_of_mem _ hm.1, hm.2⟩]
      · rw [if_neg hm, if_neg (fun z => hm ⟨(List.mem_cons.mp z.1).resolve_left (fun e => hi e.symm), z.2⟩)]
theorem wipe_out {σ σ2 : St} {vs ws : List Nat} (o : Out ws (wipe σ vs) σ2) (hw : ∀ i ∈ ws, i ∈ vs) : wipe σ2 vs = wipe σ vs := by
  apply List.ext_getElem?
  intro i
  have hl : σ2.length = σ.length := o.1.trans (wipe_length σ vs)
  rw [wipe_get, wipe_get, hl]
  by_cases hm : i ∈ vs ∧ i < σ.length
  · rw [if_pos hm, if_pos hm]
  · rw [if_neg hm, if_neg hm]
    by_cases hi : i ∈ vs
    · have hge : σ.length ≤ i := Nat.le_of_not_lt fun z => hm ⟨hi, z⟩
      rw [List.getElem?_eq_none (by omega), List.getElem?_eq_none hge]
    · have := o.2 i fun z => hi (hw i z)
      rw [this, wipe_get, if_neg hm]
def pushA (n : Nat) (d : D) (h : AH) : Res Unit := match h[n]? with
  | some (.lst xs) => if xs.length < sizeLine then .ok () (h.set n (.lst (xs ++ [d]))) else .stuck
  | _ => .stuck
def lcN (S : Src) (g : AG) (t : AT) (e : AE) (A : AEnv) (n : Nat) : Nat → Nat → AH → Res Unit
  | 0, _, _ => .stuck
  | f + 1, i, h => match S.nxt h i with
    | some none => .ok () h
    | some (some d) => match g d A h with
      | some A1 => (t A1 h).calm.bind fun b h1 => match b with
        | false => lcN S g t e A n f (i + 1) h1
        | true => (e A1 h1).calm.bind fun y h2 => (pushA n y h2).bind fun _ h3 => lcN S g t e A n f (i + 1) h3
      | none => .stuck
    | none => .stuck
def tYesA : AT := fun _ h => .ok true h
def lcR (n : Nat) (r : Res Unit) : Res D := r.bind fun _ h2 => .ok (.ref n) h2
theorem lcR_bind {α : Type} (n : Nat) (r : Res α) (f : α → AH → Res Unit) : lcR n (r.bind f) = r.bind fun a h => lcR n (f a h) := by cases r <;> rfl
def eLc (it : AI) (g : AG) (t : AT) (e : AE) (vs : List Nat) : AE := fun A h => (it A h).bind fun S h1 =>
  lcR h1.length (lcN S g t e (wipeA A vs) h1.length FUEL 0 (h1 ++ [.lst []]))
section
variable {ct : CTab} {X : Cx} {W : WX} {elt tg iter : Expr} {ifs : List Expr} {scope : Scope} {own : List (Str × Nat)} {it : AI} {g : AG} {t : AT} {e : AE} {ws : List Nat} {pos : Pos}
def STs (ct : CTab) (X : Cx) (W : WX) (ifs : List Expr) (t : AT) : Prop := PTs X ifs (RT X.K ct W t)
theorem sts_nil : STs ct X W [] tYesA := ⟨fun pins s σ H Q I h => (pts_nil (X := X)).run pins s σ H Q I (by
  obtain ⟨m, A, h, hr, en, po⟩ := h
  exact (show Post X.K ct m H W σ (.ok true h) _ from po).here hr)⟩
theorem sts_one {c : Expr} (hc : ST ct X W c t) : STs ct X W [c] t := pts_one hc
abbrev BX (X : Cx) (scope : Scope) (P : Cx → Prop) : Prop := ∀ (s : Shared) (H : Hp) (C : Addr) (cl : List (Str × Addr)) (fp : List Addr), P (X.blk s H scope (compEnvC scope cl C X.env) fp)
theorem lc_imp {σ : St} {H : Hp} {Q : VK} {vs : List Nat} (hw : ∀ i ∈ ws, i ∈ vs) (z : RE X.K ct W (eLc it g t e vs) σ H Q) : tLc (RI X.K ct W it) (RG X.K ct g ws) (RT X.K ct W0 t) (RE X.K ct W0 e) vs σ H Q := by
  obtain ⟨m, A, h, hr, en, po⟩ := z
  refine ⟨m, A, h, hr, en, po.bind.imp fun S m1 h1 H1 e1 r1 p1 J hJ L hL => ?_⟩
  have ea : Ext m1 H1 (m1 ++ [some L]) (upd H1 L (.lst [])) := Ext.alloc hL
  have ra : HR X.K ct (m1 ++ [some L]) (h1 ++ [.lst []]) (upd H1 L (.lst [])) := r1.alloc hL (by intro z; cases z) ⟨[], upd_same, .nil⟩
  have eL : (m1 ++ [some L])[h1.length]? = some (some L) := by rw [← r1.len]; simp
  have en1 : EnvR X.K ct (m1 ++ [some L]) (upd H1 L (.lst [])) (wipeA A vs) (L2.wipe σ vs) := ((en.ext e1).ext ea).wipe vs
  refine ⟨fun i n H2 => ∃ m2 h2, HR X.K ct m2 h2 H2 ∧ Ext (m1 ++ [some L]) (upd H1 L (.lst [])) m2 H2 ∧ Post X.K ct m2 H2 W σ (lcR h1.length (lcN S g t e (wipeA A vs) h1.length n i h2)) (fun d m' _ H' => ∀ v, Rep X.K ct m' H' d v → Q v H'),
    ⟨FUEL, m1 ++ [some L], h1 ++ [.lst []], ra, Ext.refl _ _, ?_⟩, fun i n H2 z2 => ?_⟩
  · exact Post.later ea p1
  · obtain ⟨m2, h2, r2, e2, p2⟩ := z2
    cases n with
    | zero => exact (show False from p2).elim
    | succ n =>
      have hj := hJ m2 H2 h2 i (ea.trans e2) r2
      unfold lcN at p2
      cases en' : S.nxt h2 i with
      | none => rw [en'] at p2; exact p2.elim
      | some o =>
        cases o with
        | none =>
          rw [en'] at p2 hj
          refine .inl ⟨hj, (show Post X.K ct m2 H2 W σ (.ok (D.ref h1.length) h2) _ from p2).here r2 _ ?_⟩
          rcases e2.ref _ _ eL with q | q
          · exact .ref q
          · exact .lost q
        | some d =>
          rw [en'] at p2 hj
          obtain ⟨go, yl⟩ := hj
          dsimp only at p2
          cases eg : g d (wipeA A vs) h2 with
          | none => rw [eg] at p2; exact p2.elim
          | some A3 =>
            rw [eg] at p2
            dsimp only at p2
            refine .inr ⟨go, fun H' => ∃ m2 h2, HR X.K ct m2 h2 H' ∧ Ext (m1 ++ [some L]) (upd H1 L (.lst [])) m2 H' ∧ Post X.K ct m2 H' W σ (lcR h1.length (lcN S g t e (wipeA A vs) h1.length n (i + 1) h2)) (fun d m' _ H' => ∀ v, Rep X.K ct m' H' d v → Q v H'),
              fun H' q => ⟨n, Nat.lt_succ_self n, q⟩, fun x H3 y => ?_⟩
            obtain ⟨m3, e3, r3, rx⟩ := yl x H3 y
            refine ⟨m3, wipeA A vs, h2, d, r3, (en1.ext e2).ext e3, rx, A3, eg, fun σ4 en4 o4 => ⟨wipe_out o4 hw, m3, A3, h2, r3, en4, ?_⟩⟩
            -- the test
            rw [lcR_bind] at p2
            refine Post.calm (W := W) (σ := σ) ((Post.later e3 (Post.bind p2)).imp fun b m4 h4 H4 e4 r4 p4 => ?_)
            have e24 := e2.trans (e3.trans e4)
            dsimp only
            cases b with
            | false =>
              rw [if_neg Bool.false_ne_true]
              exact ⟨m4, h4, r4, e24, p4⟩
            | true =>
              rw [if_pos rfl]
              dsimp only at p4
              rw [lcR_bind] at p4
              refine ⟨m4, A3, h4, r4, en4.ext e4, Post.calm (W := W) (σ := σ) ((Post.bind p4).imp fun y m5 h5 H5 e5 r5 p5 v5 ry => ?_)⟩
              rw [lcR_bind] at p5
              have e25 := e24.trans e5
              unfold pushA at p5
              split at p5
              · rename_i xs ex
                split at p5
                · rename_i hl
                  have rL : Rep X.K ct m5 H5 (.ref h1.length) (.ref L) := Rep.ext e25 (.ref eL)
                  obtain ⟨a, eb, ea', ws', eH, rl'⟩ := r5.at ex (by intro z; cases z) rL
                  cases eb
                  obtain ⟨hr', ex'⟩ := upd_lst r5 ea' eH (rl'.append (.cons ry .nil))
                  exact ⟨ws', eH, by rw [← rl'.length]; exact hl, m5, _, hr', e25.trans ex', Post.later ex' p5⟩
                · exact (show False from p5).elim
              · exact (show False from p5).elim
theorem se_lc (hc : X.calm = true) (hN : X.N.Nodup) (hi : SI ct X W tg iter it) (ok : BlkOk X.N X.env.scope scope own) (hg : BX X scope fun Y => SG ct Y tg g ws) (ht : BX X scope fun Y => STs ct Y W0 ifs t) (he : BX X scope fun Y => SE ct Y W0 elt e)
    (hw : ∀ i ∈ ws, i ∈ own.map (·.2) := by decide) (hs : ∀ x, foldedSetIterable iter X.env x = pure x := by intro _; rfl) : SE ct X W (.ListComp elt [⟨tg, iter, ifs, 0⟩] scope pos) (eLc it g t e (own.map (·.2))) :=
  PE.imp (pe_lc (g := RG X.K ct g ws) (tt := RT X.K ct W0 t) (te := RE X.K ct W0 e) hc hN hi ok hg ht he hs) fun _ _ _ z => lc_imp hw z
theorem ss_setLc {i : Nat} {y : Str} {py spos : Pos} (hc : X.calm = true) (hN : X.N.Nodup) (hi : SI ct X W tg iter it) (ok : BlkOk X.N X.env.scope scope own) (hg : BX X scope fun Y => SG ct Y tg g ws) (ht : BX X scope fun Y => STs ct Y W0 ifs t) (he : BX X scope fun Y => SE ct Y W0 elt e)
    (hw : ∀ i ∈ ws, i ∈ own.map (·.2) := by decide) (hy : X.N[i]? = some y := by rfl) (hyl : X.env.scope.names.lookup y = some .local := by rfl)
    (hsw : swapsWith (.ListComp elt [⟨tg, iter, ifs, 0⟩] scope pos) (some (.Name y py)) spos.line X.env = pure true := by rfl) (hs : ∀ x, foldedSetIterable iter X.env x = pure x := by intro _; rfl) :
    SS ct X W (.Assign [.Name y py] (.ListComp elt [⟨tg, iter, ifs, 0⟩] scope pos) spos) (sSet i (eLc it g t e (own.map (·.2)))) :=
  PS.imp (ps_setLc (g := RG X.K ct g ws) (tt := RT X.K ct W0 t) (te := RE X.K ct W0 e) hc hN hy hyl hsw hi ok hg ht he hs) fun D σ H z => by
    obtain ⟨m, A, h, hr, en, po⟩ := z
    exact lc_imp hw ⟨m, A, h, hr, en, (SPost.ofE en po).imp fun a m1 h1 H1 e1 r1 p1 v rv => p1 m1 H1 _ (Ext.refl m1 H1) r1 ((en.ext e1).set i rv)⟩
theorem blk_ok (s : Shared) (H : Hp) (env : Env) (fp : List Addr) : CtxOk (X.blk s H scope env fp) W0 := ⟨takes0, PassesOwn.never⟩
end
end Led
/-! LedLock: dicts that are walked are locked meanwhile. -/
namespace Led
open PySem L2
/-! ### what a locked dict gives -/
def ItkR (d : Addr) (o : Obj) (es : List DictEntry) (f : DictEntry → Value) : It :=
  ⟨fun i H => H d = some (.frz o (rawD d es)) ∧ ∃ en x, es[i]? = some en ∧ RelV x (f en), fun i H x H' => H' = H ∧ ∃ en, es[i]? = some en ∧ RelV x (f en), fun i H => H d = some (.frz o (rawD d es)) ∧ es.length ≤ i⟩
def ItiR (d : Addr) (o : Obj) (es : List DictEntry) : It :=
  ⟨fun i H => H d = some (.frz o (rawD d es)) ∧ ∃ en x y, es[i]? = some en ∧ RelV x en.key ∧ RelV y en.val, fun i H x H' => ∃ T en a b, es[i]? = some en ∧ RelV a en.key ∧ RelV b en.val ∧ x = .ref T ∧ H T = none ∧ H' = upd H T (.tup [a, b]), fun i H => H d = some (.frz o (rawD d es)) ∧ es.length ≤ i⟩
section
variable {X : Cx} {pins : List (Addr × Obj)} {σ : St} {H : Hp} {s : Shared} {d : Addr} {o : Obj} {es : List DictEntry}
theorem frzR (I : Inv X pins σ H s) (h : H d = some (.frz o (rawD d es))) : (d == sysModules) = false ∧ s.heap.get? d = some o ∧ ∃ ep, o.data = .dict es.toArray ep ∧ s.heap.DictRaw d es.toArray ep := by
  obtain ⟨hd, hx⟩ := (show ObjOk X.prog X.w H s.heap d (.frz o (rawD d es)) from I.hok d _ h)
  have x : ObjOk X.prog X.w H s.heap d (.ext fun h => (d == sysModules) = false ∧ es.length ≤ sizeLine ∧ ∃ o ep, h.get? d = some o ∧ o.ExactDict ∧ o.data = .dict es.toArray ep) := hx
  obtain ⟨⟨h1, _, o', ep, h2, h3, h4⟩, _⟩ := x
  rw [hd] at h2
  cases h2
  exact ⟨h1, hd, ep, h4, o, hd, h3, h4⟩
end
section
variable {P : Program} {w : World} {K : PySem.W.Frag} {tg : Expr} {d : Addr} {o : Obj} {es : List DictEntry} {ep : Nat}
theorem ep_eq {es' : Array DictEntry} {ep' : Nat} (h : o.data = .dict es.toArray ep) (h' : o.data = .dict es' ep') : es' = es.toArray ∧ ep' = ep := by
  rw [h] at h'
  cases h'
  exact ⟨rfl, rfl⟩
theorem turn_keysR (it : Addr) (hod : o.data = .dict es.toArray ep) : Turn P w K tg (ItkR d o es (·.key)) [it] it (fun i h => h.IsKeyIter it d i es.toArray.size ep) where
  mem := by simp
  obj := fun i h st b hb => by
    have e : b = it := by simpa using hb
    subst e
    obtain ⟨oi, e, c, dd⟩ := st
    exact ⟨oi, e, fun v z => by rw [dd] at z; cases z⟩
  keep := fun i h h' st k => st.at fun oi e => k it (by simp) oi e
  item := by
    intro X hP hw hK hc i pins s σ H E I hf st hg
    subst hP hw hK
    obtain ⟨hd, en, x, hen, rx⟩ := hg
    obtain ⟨f0, f1, f2, f3, f4, f5⟩ := hf it (by simp)
    obtain ⟨hs, hgd, ep', hdt, hm⟩ := frzR I hd
    obtain ⟨_, rfl⟩ := ep_eq hod hdt
    have hlt : i < es.toArray.size := by rw [List.size_toArray]; exact lt_of_get hen
    have hek : es.toArray[i].key = en.key := by
      have : es.toArray[i]? = some en := by simpa using hen
      rw [Array.getElem?_eq_getElem hlt] at this
      rw [Option.some.inj this]
    refine wpAny_pyNext_keys_item_raw st hm hlt fun h' st' sb => ?_
    have I1 : Inv X pins σ H { s with heap := h' } := I.turned (t' := s.toks) (fun b ob hb e => (sb.2 b hb).trans e) f0 f1 f3 f4 f5
    obtain ⟨oi, e, c, dd⟩ := id st'
    exact ⟨_, rfl, go_of (s := { s with heap := h' }) e c dd (by decide) ⟨x, H, I1, by rw [hek]; exact rx, ⟨rfl, en, hen, rx⟩, st', fun b hb => (hf b hb).1⟩⟩
  done := by
    intro X hP hw hK hc i pins s σ H E I hf st hg
    subst hP hw hK
    obtain ⟨hd, hi⟩ := hg
    obtain ⟨f0, f1, f2, f3, f4, f5⟩ := hf it (by simp)
    obtain ⟨hs, hgd, ep', hdt, hm⟩ := frzR I hd
    obtain ⟨_, rfl⟩ := ep_eq hod hdt
    obtain ⟨o', q1, q2, q3⟩ := hm
    exact next_key_end (I.ok.hd hc) st q1 q3 rfl (by rw [List.size_toArray]; exact hi) fun h' eb => ⟨rfl, I.turned (t' := s.toks) (fun b ob hb e => eb b ob hb e) f0 f1 f3 f4 f5⟩
  self := fun A i s Q E st h => wpAny_pyIter_keyiter st h
theorem turn_valsR (it : Addr) (hod : o.data = .dict es.toArray ep) : Turn P w K tg (ItkR d o es (·.val)) [it] it (fun i h => h.IsValIter it d i es.toArray.size ep) where
  mem := by simp
  obj := fun i h st b hb => by
    have e : b = it := by simpa using hb
    subst e
    obtain ⟨oi, e, c, dd⟩ := st
    exact ⟨oi, e, fun v z => by rw [dd] at z; cases z⟩
  keep := fun i h h' st k => st.at fun oi e => k it (by simp) oi e
  item := by
    intro X hP hw hK hc i pins s σ H E I hf st hg
    subst hP hw hK
    obtain ⟨hd, en, x, hen, rx⟩ := hg
    obtain ⟨f0, f1, f2, f3, f4, f5⟩ := hf it (by simp)
    obtain ⟨hs, hgd, ep', hdt, hm⟩ := frzR I hd
    obtain ⟨_, rfl⟩ := ep_eq hod hdt
    have hlt : i < es.toArray.size := by rw [List.size_toArray]; exact lt_of_get hen
    have hek : es.toArray[i].val = en.val := by
      have : es.toArray[i]? = some en := by simpa using hen
      rw [Array.getElem?_eq_getElem hlt] at this
      rw [Option.some.inj this]
    refine wpAny_pyNext_values_item_raw st hm hlt fun h' st' sb => ?_
    have I1 : Inv X pins σ H { s with heap := h' } := I.turned (t' := s.toks) (fun b ob hb e => (sb.2 b hb).trans e) f0 f1 f3 f4 f5
    obtain ⟨oi, e, c, dd⟩ := id st'
    exact ⟨_, rfl, go_of (s := { s with heap := h' }) e c dd (by decide) ⟨x, H, I1, by rw [hek]; exact rx, ⟨rfl, en, hen, rx⟩, st', fun b hb => (hf b hb).1⟩⟩
  done := by
    intro X hP hw hK hc i pins s σ H E I hf st hg
    subst hP hw hK
    obtain ⟨hd, hi⟩ := hg
    obtain ⟨f0, f1, f2, f3, f4, f5⟩ := hf it (by simp)
    obtain ⟨hs, hgd, ep', hdt, hm⟩ := frzR I hd
    obtain ⟨_, rfl⟩ := ep_eq hod hdt
    exact wpAny_pyNext_values_end_raw (I.ok.hd hc) st hm (by rw [List.size_toArray]; exact hi) fun h' eb => ⟨rfl, I.turned (t' := s.toks) (fun b ob hb e => eb b ob hb e) f0 f1 f3 f4 f5⟩
  self := fun A i s Q E st h => wpAny_pyIter_valiter st h
theorem turn_itemsR {elts : List Expr} {kk : Nat} {tpos : Pos} (it : Addr) (hod : o.data = .dict es.toArray ep) :
    Turn P w K (.Tuple elts kk tpos) (ItiR d o es) [it] it (fun i h => ∃ ok ov, IsItemIter h it d i es.toArray.size ep ok ov) where
  mem := by simp
  obj := fun i h st b hb => by
    have e : b = it := by simpa using hb
    subst e
    obtain ⟨ok, ov, e⟩ := st
    exact ⟨_, e, fun v z => nomatch z⟩
  keep := fun i h h' st k => let ⟨ok, ov, e⟩ := st; ⟨ok, ov, k it (by simp) _ e⟩
  item := by
    intro X hP hw hK hc i pins s σ H E I hf st hg
    subst hP hw hK
    obtain ⟨hd, en, x, y, hen, rx, ry⟩ := hg
    obtain ⟨hs, hgd, ep', hdt, hm⟩ := frzR I hd
    obtain ⟨_, rfl⟩ := ep_eq hod hdt
    have hlt : i < es.toArray.size := by rw [List.size_toArray]; exact lt_of_get hen
    have hek : es.toArray[i] = en := by
      have : es.toArray[i]? = some en := by simpa using hen
      rw [Array.getElem?_eq_getElem hlt] at this
      rw [Option.some.inj this]
    obtain ⟨ok, ov, he⟩ := st
    have hlt' : it < s.heap.objs.size := Heap.lt_size he
    refine wpAny_pyNext_items_item_raw he hm hlt fun h' ho hT hz hk => ?_
    rw [hek] at ho hT
    refine ⟨_, rfl, wpAny_letOwnedTupleGo_items (s := { s with heap := h' }) ho fun h'' he' sb => ?_⟩
    have hT2 : h''.get? s.heap.objs.size = some { cls := .type "tuple", data := .seq #[en.key, en.val] } := (sb.2 _ (Nat.ne_of_gt hlt')).trans hT
    have new : ObjOk X.prog X.w (upd H s.heap.objs.size (.tup [x, y])) h'' s.heap.objs.size (.tup [x, y]) :=
      ⟨by show 2 ≤ sizeLine; decide, [en.key, en.val], .cons rx (.cons ry .nil), ⟨_, hT2, rfl, _, rfl⟩⟩
    have I1 : Inv X pins σ (upd H s.heap.objs.size (.tup [x, y])) { s with heap := h'' } :=
      I.turnedNew (t' := s.toks) (ch := [it]) (fun b ob hb e => (sb.2 b (by simpa using hb)).trans (hk b ob (by simpa using hb) e)) hf (Nat.le_refl _) new
    refine ⟨.ref s.heap.objs.size, _, I1, rfl, ⟨_, en, x, y, hen, rx, ry, rfl, I.hok.fresh (Nat.le_refl _), rfl⟩, ⟨en.key, en.val, he'⟩, fun b hb => ?_⟩
    have e : b = it := by simpa using hb
    rw [e, upd_ne (Nat.ne_of_lt hlt')]
    exact (hf it (by simp)).1
  done := by
    intro X hP hw hK hc i pins s σ H E I hf st hg
    subst hP hw hK
    obtain ⟨hd, hi⟩ := hg
    obtain ⟨f0, f1, f2, f3, f4, f5⟩ := hf it (by simp)
    obtain ⟨hs, hgd, ep', hdt, hm⟩ := frzR I hd
    obtain ⟨_, rfl⟩ := ep_eq hod hdt
    obtain ⟨ok, ov, he⟩ := st
    exact wpAny_pyNext_items_end_raw (I.ok.hd hc) he hm (by rw [List.size_toArray]; exact hi) fun h' eb => ⟨rfl, I.turned (t' := s.toks) (fun b ob hb e => eb b ob hb e) f0 f1 f3 f4 f5⟩
  self := fun A i s Q E st h => let ⟨_, _, e⟩ := st; PySem.W.kcp_self e h
end
/-! ### by the abstract heap -/
section
variable {K : PySem.W.Frag} {ct : CTab} {m : Mp} {H : Hp} {n : Nat} {a : Addr} {o : Obj} {es : List DictEntry} {ep : Nat}
theorem pr_get {α β : Type} {R : α → β → Prop} : ∀ {as : List α} {bs : List β}, Paired R as bs → ∀ i : Nat, (as[i]? = none ∧ bs[i]? = none) ∨ ∃ x y, as[i]? = some x ∧ bs[i]? = some y ∧ R x y
  | _, _, .nil, i => .inl ⟨by simp, by simp⟩
  | _, _, .cons (a := x) (b := y) r t, 0 => .inr ⟨x, y, rfl, rfl, r⟩
  | _, _, .cons r t, i + 1 => pr_get t i
theorem dkv_at {m' : Mp} {H' : Hp} {h' : AH} {kvs : List (D × D)} (ra : Rep K ct m H (.ref n) (.ref a)) (eH : H a = some (.frz o (rawD a es))) (hd : o.data = .dict es.toArray ep) (ex : Ext m H m' H') (hr : HR K ct m' h' H') (en : h'[n]? = some (.fdc kvs)) :
    H' a = some (.frz o (rawD a es)) ∧ DRep K ct m' H' kvs es := by
  have eH' := ex.frz _ _ _ eH
  obtain ⟨a', ea', _, o', es', ep', e1, e2, e3, _⟩ := hr.at en (by intro z; cases z) (ra.ext ex)
  cases ea'
  rw [eH'] at e1
  have q : HO.frz o (rawD a es) = HO.frz o' (rawD a es') := Option.some.inj e1
  injection q with q1 _
  subst q1
  rw [hd] at e2
  injection e2 with q2 _
  have q3 : es = es' := by simpa using q2
  subst q3
  exact ⟨eH', e3⟩
theorem itr_keys (ra : Rep K ct m H (.ref n) (.ref a)) (eH : H a = some (.frz o (rawD a es))) (hd : o.data = .dict es.toArray ep) : ItR K ct m H (.keys n) (ItkR a o es (·.key)) := by
  intro m' H' h' i ex hr
  cases en : h'[n]? with
  | none => simp only [Src.nxt, en]
  | some ob =>
    cases ob with
    | fdc kvs =>
      obtain ⟨eH', rel⟩ := dkv_at ra eH hd ex hr en
      simp only [Src.nxt, en]
      rcases pr_get rel i with ⟨h1, h2⟩ | ⟨p, e, h1, h2, r⟩
      · rw [h1]
        exact ⟨eH', List.getElem?_eq_none_iff.mp h2⟩
      · rw [h1]
        obtain ⟨v, rv, rp⟩ := r.key
        refine ⟨⟨eH', e, v, h2, rv⟩, fun x H'' y => ?_⟩
        obtain ⟨e1, e', e2, e3⟩ := y
        subst e1
        rw [h2] at e2
        cases e2
        rw [e3.inj rv]
        exact ⟨m', Ext.refl _ _, hr, rp⟩
    | _ => simp only [Src.nxt, en]
theorem itr_vals (ra : Rep K ct m H (.ref n) (.ref a)) (eH : H a = some (.frz o (rawD a es))) (hd : o.data = .dict es.toArray ep) : ItR K ct m H (.vals n) (ItkR a o es (·.val)) := by
  intro m' H' h' i ex hr
  cases en : h'[n]? with
  | none => simp only [Src.nxt, en]
  | some ob =>
    cases ob with
    | fdc kvs =>
      obtain ⟨eH', rel⟩ := dkv_at ra eH hd ex hr en
      simp only [Src.nxt, en]
      rcases pr_get rel i with ⟨h1, h2⟩ | ⟨p, e, h1, h2, r⟩
      · rw [h1]
        exact ⟨eH', List.getElem?_eq_none_iff.mp h2⟩
      · rw [h1]
        obtain ⟨v, rv, rp⟩ := r.val
        refine ⟨⟨eH', e, v, h2, rv⟩, fun x H'' y => ?_⟩
        obtain ⟨e1, e', e2, e3⟩ := y
        subst e1
        rw [h2] at e2
        cases e2
        rw [e3.inj rv]
        exact ⟨m', Ext.refl _ _, hr, rp⟩
    | _ => simp only [Src.nxt, en]
theorem itr_items (ra : Rep K ct m H (.ref n) (.ref a)) (eH : H a = some (.frz o (rawD a es))) (hd : o.data = .dict es.toArray ep) : ItR K ct m H (.items n) (ItiR a o es) := by
  intro m' H' h' i ex hr
  cases en : h'[n]? with
  | none => simp only [Src.nxt, en]
  | some ob =>
    cases ob with
    | fdc kvs =>
      obtain ⟨eH', rel⟩ := dkv_at ra eH hd ex hr en
      simp only [Src.nxt, en]
      rcases pr_get rel i with ⟨h1, h2⟩ | ⟨p, e, h1, h2, r⟩
      · rw [h1]
        exact ⟨eH', List.getElem?_eq_none_iff.mp h2⟩
      · rw [h1]
        obtain ⟨v, rv, rp⟩ := r.key
        obtain ⟨v2, rv2, rp2⟩ := r.val
        refine ⟨⟨eH', e, v, v2, h2, rv, rv2⟩, fun x H'' y => ?_⟩
        obtain ⟨T, e', b1, b2, e2, e3, e4, rfl, hT, rfl⟩ := y
        rw [h2] at e2
        cases e2
        rw [e3.inj rv, e4.inj rv2]
        exact ⟨m', Ext.new hr hT, hr.new hT, .tup (.inl (.inl upd_same)) (.cons (rp.ext (Ext.new hr hT)) (.cons (rp2.ext (Ext.new hr hT)) .nil))⟩
    | _ => simp only [Src.nxt, en]
/-- the number of a locked dict -/
def fzOf (h : AH) : D → Option Nat
  | .ref n => match h[n]? with
    | some (.fdc _) => some n
    | _ => none
  | _ => none
theorem fz_at {h : AH} {d : D} {v : V} (hr : HR K ct m h H) (e : fzOf h d = some n) (r : Rep K ct m H d v) : d = .ref n ∧ ∃ a o es ep, v = .ref a ∧ H a = some (.frz o (rawD a es)) ∧ o.data = .dict es.toArray ep := by
  cases d with
  | ref k =>
    unfold fzOf at e
    dsimp only at e
    split at e
    · rename_i kvs en
      cases e
      obtain ⟨a, rfl, _, o, es, ep, e1, e2, _⟩ := hr.at en (by intro z; cases z) r
      exact ⟨rfl, a, o, es, ep, rfl, e1, e2⟩
    · cases e
  | _ => cases e
end
def srcD : D → AH → Res Src := fun d h => match fzOf h d with
  | some n => .ok (.keys n) h
  | none => srcOf d h
def iSeqD (f : AE) : AI := fun A h => (f A h).bind srcD
def iDic (k : Nat → Src) (f : AE) : AI := fun A h => (f A h).bind fun d h1 => match fzOf h1 d with
  | some n => .ok (k n) h1
  | none => .stuck
section
variable {X : Cx} {ct : CTab} {W : WX} {tg e : Expr} {fe : AE} {apos cpos : Pos}
theorem IterV.or {r r' : V → Hp → (It → Hp → Prop) → Prop} (h : IterV X tg r) (h' : IterV X tg r') : IterV X tg (fun x H R => r x H R ∨ r' x H R) := by
  intro pins s σ H x v R I rx q
  rcases q with q | q
  · exact h pins s σ H x v R I rx q
  · exact h' pins s σ H x v R I rx q
def rKeys : V → Hp → (It → Hp → Prop) → Prop := fun x H R => ∃ d o es, x = .ref d ∧ H d = some (.frz o (rawD d es)) ∧ R (ItkR d o es (·.key)) H
theorem iter_keysR : IterV X tg rKeys := by
  intro pins s σ H x v R I rx h
  obtain ⟨d, o, es, rfl, hd, q⟩ := h
  cases rx
  obtain ⟨hs, hgd, ep, hdt, hm⟩ := frzR I hd
  exact wpAny_pyIter_dict_raw hs hm (pi_one (tk := s.toks) I _ (turn_keysR _ hdt) ⟨_, Heap.get?_push_size _ rfl, rfl, rfl⟩ q)
theorem si_seqD (he : SE ct X W e fe) : SI ct X W tg e (iSeqD fe) := PI.imp (pi_val he (IterV.or iter_seq iter_keysR)) fun σ H R ⟨m, A, h, hr, en, po⟩ => ⟨m, A, h, hr, en, po.bind.imp fun d m1 h1 H1 e1 r1 p1 v rv => by
  unfold srcD at p1
  split at p1
  · rename_i n ez
    obtain ⟨rfl, a, o, es, ep, rfl, z1, z2⟩ := fz_at r1 ez rv
    exact .inr ⟨a, o, es, rfl, z1, p1 m1 H1 (Ext.refl _ _) r1 _ (itr_keys rv z1 z2)⟩
  · refine .inl ?_
    unfold srcOf at p1
    split at p1
    · cases rv with
      | tup s rl => exact .inr (.inl ⟨_, _, rfl, s, p1 m1 H1 (Ext.refl _ _) r1 _ (itr_tup s rl)⟩)
    · cases rv
      exact .inr (.inr ⟨_, rfl, p1 m1 H1 (Ext.refl _ _) r1 _ itr_str⟩)
    · rename_i n
      split at p1
      · rename_i xs ex
        obtain ⟨a, vs, rfl, _, rd, rl⟩ := r1.getL ex rv
        exact .inl ⟨a, vs, rfl, .inl rd, p1 m1 H1 (Ext.refl _ _) r1 _ (itr_list rv)⟩
      · exact (show False from p1).elim
    · exact (show False from p1).elim⟩
theorem raw_noDict {s : Shared} {d : Addr} {es : Array DictEntry} {ep : Nat} (hm : s.heap.DictRaw d es ep) : ∀ a, Value.ref d = Value.ref a → ∃ ob, s.heap.get? a = some ob ∧ ob.dict = none := fun a e => by
  cases e
  exact let ⟨o, ho, hx, _⟩ := hm; ⟨o, ho, hx.2.1⟩
theorem si_items {elts : List Expr} {kk : Nat} {tpos : Pos} (he : SE ct X W e fe) (hbase : attributeBase e "items" X.env (eval e X.env) = eval e X.env := by rfl) (hline : (apos.endLine == cpos.line) = true := by rfl) :
    SI ct X W (.Tuple elts kk tpos) (.Call (.Attribute e "items" apos) [] [] cpos) (iDic .items fe) := by
  refine ⟨fun pins s σ H R I h => ?_⟩
  obtain ⟨m, A, h, hr, en, po⟩ := h
  refine wpAny_Call_method (T := "dict") (id := "dict.items") hbase rfl hline F.plainAttrs_dict F.slot_dict_items F.type_dict_items (thn (he.run pins s σ H (fun x H1 => ∃ d o es ep, x = .ref d ∧ H1 d = some (.frz o (rawD d es)) ∧ o.data = .dict es.toArray ep ∧ R (ItiR d o es) H1) I ⟨m, A, h, hr, en, po.bind.imp fun d m1 h1 H1 e1 r1 p1 v rv => ?_⟩) fun u s1 ⟨x, H1, I1, rx, d, o, es, ep, ex, hd, hdt, q⟩ => ?_)
  · split at p1
    · rename_i n ez
      obtain ⟨rfl, a, o, es, ep, rfl, z1, z2⟩ := fz_at r1 ez rv
      exact ⟨a, o, es, ep, rfl, z1, z2, p1 m1 H1 (Ext.refl _ _) r1 _ (itr_items rv z1 z2)⟩
    · exact (show False from p1).elim
  subst ex
  obtain rfl : u = Value.ref d := rx
  obtain ⟨hs, hgd, ep', hdt', hm⟩ := frzR I1 hd
  obtain ⟨_, rfl⟩ := ep_eq hdt hdt'
  refine ⟨hm.typeIs, raw_noDict hm, ?_⟩
  have I2 : Inv X pins σ H1 { s1 with heap := s1.heap.push { cls := .type "dict_items", data := .fields #[.ref d] } } := I1.kept (t' := s1.toks) fun b ob q => Heap.get?_push_of_some _ q
  have fin : wpAny (model X.prog X.w) X.A (pyIter (.ref s1.heap.objs.size)) (PIE X pins σ (.Tuple elts kk tpos) R) X.xe { s1 with heap := s1.heap.push { cls := .type "dict_items", data := .fields #[.ref d] } } := by
    refine wpAny_pyIter_items_raw (d := d) ⟨_, Heap.get?_push_size _ rfl, rfl, rfl⟩ (hm.at fun o e => Heap.get?_push_of_some _ e) (pi_one (tk := s1.toks) I2 _ (turn_itemsR _ hdt) ⟨.none, .none, ?_⟩ q)
    exact Heap.get?_push_size _ rfl
  show wpAny _ _ (callWith cpos (.builtin "dict.items") [.ref d] [] []) _ X.xe s1
  exact method_meetsIn F.slot_dict_items F.entry_dict_items rfl (PySem.evalArgs_none ⟨rfl, hm.typeIs, F.args_dict_items_1 _, _, meets_dict_items_raw d hs, ⟨_, _, hm⟩, fin⟩)
theorem si_values (he : SE ct X W e fe) (hbase : attributeBase e "values" X.env (eval e X.env) = eval e X.env := by rfl) (hline : (apos.endLine == cpos.line) = true := by rfl) :
    SI ct X W tg (.Call (.Attribute e "values" apos) [] [] cpos) (iDic .vals fe) := by
  refine ⟨fun pins s σ H R I h => ?_⟩
  obtain ⟨m, A, h, hr, en, po⟩ := h
  refine wpAny_Call_method (T := "dict") (id := "dict.values") hbase rfl hline F.plainAttrs_dict F.slot_dict_values F.type_dict_values (thn (he.run pins s σ H (fun x H1 => ∃ d o es ep, x = .ref d ∧ H1 d = some (.frz o (rawD d es)) ∧ o.data = .dict es.toArray ep ∧ R (ItkR d o es (·.val)) H1) I ⟨m, A, h, hr, en, po.bind.imp fun d m1 h1 H1 e1 r1 p1 v rv => ?_⟩) fun u s1 ⟨x, H1, I1, rx, d, o, es, ep, ex, hd, hdt, q⟩ => ?_)
  · split at p1
    · rename_i n ez
      obtain ⟨rfl, a, o, es, ep, rfl, z1, z2⟩ := fz_at r1 ez rv
      exact ⟨a, o, es, ep, rfl, z1, z2, p1 m1 H1 (Ext.refl _ _) r1 _ (itr_vals rv z1 z2)⟩
    · exact (show False from p1).elim
  subst ex
  obtain rfl : u = Value.ref d := rx
  obtain ⟨hs, hgd, ep', hdt', hm⟩ := frzR I1 hd
  obtain ⟨_, rfl⟩ := ep_eq hdt hdt'
  refine ⟨hm.typeIs, raw_noDict hm, ?_⟩
  have I2 : Inv X pins σ H1 { s1 with heap := s1.heap.push { cls := .type "dict_values", data := .fields #[.ref d] } } := I1.kept (t' := s1.toks) fun b ob q => Heap.get?_push_of_some _ q
  have fin : wpAny (model X.prog X.w) X.A (pyIter (.ref s1.heap.objs.size)) (PIE X pins σ tg R) X.xe { s1 with heap := s1.heap.push { cls := .type "dict_values", data := .fields #[.ref d] } } :=
    wpAny_pyIter_values_raw (d := d) ⟨_, Heap.get?_push_size _ rfl, rfl, rfl⟩ (hm.at fun o e => Heap.get?_push_of_some _ e) (pi_one (tk := s1.toks) I2 _ (turn_valsR _ hdt) ⟨_, Heap.get?_push_size _ rfl, rfl, rfl⟩ q)
  show wpAny _ _ (callWith cpos (.builtin "dict.values") [.ref d] [] []) _ X.xe s1
  exact method_meetsIn F.slot_dict_values F.entry_dict_values rfl (PySem.evalArgs_none ⟨rfl, hm.typeIs, F.args_dict_values_1 _, _, meets_dict_values_raw d hs, ⟨_, _, hm⟩, fin⟩)
end
/-! ### locking -/
section
variable {K : PySem.W.Frag} {ct : CTab} {m m' : Mp} {H H' : Hp} {h h' : AH} {n : Nat} {a : Addr} {kvs : List (D × D)} {o : Obj} {es : List DictEntry} {ep : Nat}
theorem raw_ntup (e : H a = some (rawD a es)) : ∀ xs, ¬ Rd H a (.tup xs) := fun xs z => by
  rcases z with z | ⟨o', z⟩
  · rw [e] at z
    have q : HO.ext _ = HO.tup xs := Option.some.inj z
    cases q
  · rw [e] at z
    have q : HO.ext _ = HO.frz _ _ := Option.some.inj z
    cases q
theorem HR.lock (hr : HR K ct m h H) (e : h[n]? = some (.dic kvs)) : ∃ a es, m[n]? = some (some a) ∧ H a = some (rawD a es) ∧ ∀ o ep, o.data = .dict es.toArray ep → HR K ct m (h.set n (.fdc kvs)) (L2.upd H a (.frz o (rawD a es))) ∧ Ext m H m (L2.upd H a (.frz o (rawD a es))) := by
  obtain ⟨a, ea, es, eH, rel, nd⟩ := hr.obj n _ e (by intro z; cases z)
  refine ⟨a, es, ea, eH, fun o ep hd => ?_⟩
  have ex : Ext m H m (L2.upd H a (.frz o (rawD a es))) := Ext.upd n ea (raw_ntup eH) (NoFz.raw eH)
  exact ⟨(hr.upd (ao := .fdc kvs) ea (by intro z; cases z) (NoFz.raw eH) ⟨o, es, ep, upd_same, hd, DRep.ext ex rel, nd⟩).1, ex⟩
theorem Ext.unlock (ea : m[n]? = some (some a)) (eH : H a = some (rawD a es)) (ex : Ext m (L2.upd H a (.frz o (rawD a es))) m' H') : Ext m H m' (L2.upd H' a (rawD a es)) where
  tup := fun b xs z => by
    have nb : b ≠ a := fun q => by subst q; exact raw_ntup eH xs z
    have z' : Rd (L2.upd H a (.frz o (rawD a es))) b (.tup xs) := by
      rcases z with z | ⟨o', z⟩
      · exact .inl (by rw [upd_ne nb]; exact z)
      · exact .inr ⟨o', by rw [upd_ne nb]; exact z⟩
    rcases ex.tup b xs z' with z | ⟨o', z⟩
    · exact .inl (by rw [upd_ne nb]; exact z)
    · exact .inr ⟨o', by rw [upd_ne nb]; exact z⟩
  fix := fun b u z nm => by
    have nb : b ≠ a := fun q => by subst q; exact nm (List.mem_of_getElem? ea)
    obtain ⟨z1, z2⟩ := ex.fix b u (by rw [upd_ne nb]; exact z) nm
    exact ⟨by rw [upd_ne nb]; exact z1, z2⟩
  ref := ex.ref
  frz := fun b o' u z => by
    have nb : b ≠ a := fun q => by subst q; exact NoFz.raw eH o' u z
    rw [upd_ne nb]
    exact ex.frz b o' u (by rw [upd_ne nb]; exact z)
theorem HR.unlock (hr : HR K ct m' h' H') (en : h'[n]? = some (.fdc kvs)) (ea : m[n]? = some (some a)) (ex : Ext m H m' H') (eH : H a = some (.frz o (rawD a es))) (hd : o.data = .dict es.toArray ep) :
    H' a = some (.frz o (rawD a es)) ∧ HR K ct m' (h'.set n (.dic kvs)) (L2.upd H' a (rawD a es)) ∧ Ext0 m' H' m' (L2.upd H' a (rawD a es)) := by
  obtain ⟨eH', rel⟩ := dkv_at (.ref ea) eH hd ex hr en
  obtain ⟨a', ea', o', es', ep', e1, e2, e3, nd⟩ := hr.obj n _ en (by intro z; cases z)
  have eq : a' = a := by
    rcases ex.ref n _ ea with z | z
    · rw [ea'] at z; cases z; rfl
    · rw [ea'] at z; cases z
  subst eq
  have nt : ∀ xs, ¬ Rd H' a' (.tup xs) := by
    obtain ⟨_, _, q⟩ := (show ORep K ct m' H' a' (.fdc kvs) from ⟨o', es', ep', e1, e2, e3, nd⟩).some
    exact q
  have ex0 : Ext0 m' H' m' (L2.upd H' a' (rawD a' es)) := Ext0.upd n ea' nt
  exact ⟨eH', (hr.upd0 (ao := .dic kvs) ea' (by intro z; cases z) ⟨es, upd_same, DRep.ext0 ex0 rel, nd⟩).1, ex0⟩
end
abbrev Pr := AEnv → AH → Option Nat
def unlkH (n : Nat) (h : AH) : Option AH := match h[n]? with
  | some (.fdc kvs) => some (h.set n (.dic kvs))
  | _ => none
def unlkE (n : Nat) : Res D → Res D
  | .ok d h => match unlkH n h with
    | some h' => .ok d h'
    | none => .stuck
  | _ => .stuck
def unlkS (n : Nat) : SRes → SRes
  | .next A h => match unlkH n h with
    | some h' => .next A h'
    | none => .stuck
  | .ret d h => match unlkH n h with
    | some h' => .ret d h'
    | none => .stuck
  | .brk A h => match unlkH n h with
    | some h' => .brk A h'
    | none => .stuck
  | .cont A h => match unlkH n h with
    | some h' => .cont A h'
    | none => .stuck
  | _ => .stuck
def eLock (pr : Pr) (f : AE) : AE := fun A h => match pr A h with
  | some n => match h[n]? with
    | some (.dic kvs) => unlkE n (f A (h.set n (.fdc kvs)))
    | _ => f A h
  | none => f A h
def sLock (pr : Pr) (f : AS) : AS := fun A h => match pr A h with
  | some n => match h[n]? with
    | some (.dic kvs) => unlkS n (f A (h.set n (.fdc kvs)))
    | _ => f A h
  | none => f A h
/-- which dict an expression is -/
def prD (f : AE) : Pr := fun A h => match f A h with
  | .ok (.ref n) _ => some n
  | _ => none
theorem unlkH_some {n : Nat} {h h' : AH} (e : unlkH n h = some h') : ∃ kvs, h[n]? = some (.fdc kvs) ∧ h' = h.set n (.dic kvs) := by
  unfold unlkH at e
  split at e
  · cases e; exact ⟨_, by assumption, rfl⟩
  · cases e
section
variable {X : Cx} {ct : CTab} {W : WX}
theorem lock_obj {pins : List (Addr × Obj)} {σ : St} {H : Hp} {s : Shared} {d : Addr} {es : List DictEntry} (I : Inv X pins σ H s) (h : H d = some (rawD d es)) : ∃ od ep, od.data = .dict es.toArray ep ∧ Inv X pins σ (upd H d (.frz od (rawD d es))) s := by
  obtain ⟨od, I1⟩ := I.lock h True.intro
  obtain ⟨_, _, ep, e, _⟩ := frzR I1 upd_same
  exact ⟨od, ep, e, I1⟩
theorem ss_lock {st : Stmt} {f : AS} (pr : Pr) (h : SS ct X W st f) : SS ct X W st (sLock pr f) := by
  refine ⟨fun pins s σ H D I z => ?_⟩
  obtain ⟨m, A, hh, hr, en, po⟩ := z
  unfold sLock at po
  split at po
  · rename_i n _
    split at po
    · rename_i kvs eh
      obtain ⟨a, es, ea, eH, lk⟩ := hr.lock eh
      obtain ⟨od, ep, hd, I1⟩ := lock_obj I eH
      obtain ⟨hr1, ex1⟩ := lk od ep hd
      refine thn (h.run pins s σ _ ⟨fun σ' H' => H' a = some (.frz od (rawD a es)) ∧ D.nx σ' (upd H' a (rawD a es)), fun v H' => H' a = some (.frz od (rawD a es)) ∧ D.rt v (upd H' a (rawD a es)), fun σ' H' => H' a = some (.frz od (rawD a es)) ∧ D.bk σ' (upd H' a (rawD a es)), fun σ' H' => H' a = some (.frz od (rawD a es)) ∧ D.ct σ' (upd H' a (rawD a es))⟩ I1
        ⟨m, A, _, hr1, en.ext ex1, ?_⟩) fun fl s1 q => ?_
      · cases er : f A (hh.set n (.fdc kvs)) with
        | next A' h' =>
          rw [er] at po
          intro m' H' σ' ex hr' en'
          simp only [unlkS] at po
          split at po
          · rename_i h2 eu
            obtain ⟨kvs', q1, rfl⟩ := unlkH_some eu
            obtain ⟨z1, z2, z3⟩ := hr'.unlock q1 ea ex upd_same hd
            exact ⟨z1, po m' _ σ' (Ext.unlock ea eH ex) z2 (en'.ext0 z3)⟩
          · exact (show False from po).elim
        | ret d h' =>
          rw [er] at po
          intro m' H' v ex hr' rv
          simp only [unlkS] at po
          split at po
          · rename_i h2 eu
            obtain ⟨kvs', q1, rfl⟩ := unlkH_some eu
            obtain ⟨z1, z2, z3⟩ := hr'.unlock q1 ea ex upd_same hd
            exact ⟨z1, po m' _ v (Ext.unlock ea eH ex) z2 (rv.ext0 z3)⟩
          · exact (show False from po).elim
        | brk A' h' =>
          rw [er] at po
          intro m' H' σ' ex hr' en'
          simp only [unlkS] at po
          split at po
          · rename_i h2 eu
            obtain ⟨kvs', q1, rfl⟩ := unlkH_some eu
            obtain ⟨z1, z2, z3⟩ := hr'.unlock q1 ea ex upd_same hd
            exact ⟨z1, po m' _ σ' (Ext.unlock ea eH ex) z2 (en'.ext0 z3)⟩
          · exact (show False from po).elim
        | cont A' h' =>
          rw [er] at po
          intro m' H' σ' ex hr' en'
          simp only [unlkS] at po
          split at po
          · rename_i h2 eu
            obtain ⟨kvs', q1, rfl⟩ := unlkH_some eu
            obtain ⟨z1, z2, z3⟩ := hr'.unlock q1 ea ex upd_same hd
            exact ⟨z1, po m' _ σ' (Ext.unlock ea eH ex) z2 (en'.ext0 z3)⟩
          · exact (show False from po).elim
        | exc x A' h' => rw [er] at po; exact (show False from po).elim
        | stuck => rw [er] at po; exact (show False from po).elim
      · cases fl with
        | next => obtain ⟨σ', H', I2, e, q⟩ := q; exact ⟨σ', _, I2.unlock e (I.nofrz eH True.intro), q⟩
        | brk => obtain ⟨σ', H', I2, e, q⟩ := q; exact ⟨σ', _, I2.unlock e (I.nofrz eH True.intro), q⟩
        | cont => obtain ⟨σ', H', I2, e, q⟩ := q; exact ⟨σ', _, I2.unlock e (I.nofrz eH True.intro), q⟩
        | ret v => obtain ⟨x, σ', H', I2, r, e, q⟩ := q; exact ⟨x, σ', _, I2.unlock e (I.nofrz eH True.intro), r, q⟩
    · exact h.run pins s σ H D I ⟨m, A, hh, hr, en, po⟩
  · exact h.run pins s σ H D I ⟨m, A, hh, hr, en, po⟩
theorem se_lock {e : Expr} {f : AE} (pr : Pr) (h : SE ct X W e f) : SE ct X W e (eLock pr f) := by
  refine ⟨fun pins s σ H Q I z => ?_⟩
  obtain ⟨m, A, hh, hr, en, po⟩ := z
  unfold eLock at po
  split at po
  · rename_i n _
    split at po
    · rename_i kvs eh
      obtain ⟨a, es, ea, eH, lk⟩ := hr.lock eh
      obtain ⟨od, ep, hd, I1⟩ := lock_obj I eH
      obtain ⟨hr1, ex1⟩ := lk od ep hd
      refine thn (h.run pins s σ _ (fun v H' => H' a = some (.frz od (rawD a es)) ∧ Q v (upd H' a (rawD a es))) I1 ⟨m, A, _, hr1, en.ext ex1, ?_⟩) fun v s1 ⟨x, H1, I2, r, e2, q⟩ => ⟨x, _, I2.unlock e2 (I.nofrz eH True.intro), r, q⟩
      cases er : f A (hh.set n (.fdc kvs)) with
      | ok d h' =>
        rw [er] at po
        intro m' H' ex hr' v rv
        simp only [unlkE] at po
        split at po
        · rename_i h2 eu
          obtain ⟨kvs', q1, rfl⟩ := unlkH_some eu
          obtain ⟨z1, z2, z3⟩ := hr'.unlock q1 ea ex upd_same hd
          exact ⟨z1, po m' _ (Ext.unlock ea eH ex) z2 v (rv.ext0 z3)⟩
        · exact (show False from po).elim
      | exc x h' => rw [er] at po; exact (show False from po).elim
      | stuck => rw [er] at po; exact (show False from po).elim
    · exact h.run pins s σ H Q I ⟨m, A, hh, hr, en, po⟩
  · exact h.run pins s σ H Q I ⟨m, A, hh, hr, en, po⟩
end
end Led
/-! LedSort: sorted, by the items or by a def of the text; list(dict). -/
namespace Led
open PySem L2
/-! ### a sort that reckons -/
def ins1 {α : Type} (le : α → α → Bool) (x : α) : List α → List α
  | [] => [x]
  | y :: ys => if le x y = true then x :: y :: ys else y :: ins1 le x ys
def isort {α : Type} (le : α → α → Bool) : List α → List α
  | [] => []
  | x :: xs => ins1 le x (isort le xs)
section
variable {α : Type} {le : α → α → Bool}
theorem ins1_mem {x z : α} : ∀ {l : List α}, z ∈ ins1 le x l → z = x ∨ z ∈ l
  | [], h => by
    rcases List.mem_cons.mp h with e | h
    · exact .inl e
    · exact (List.not_mem_nil h).elim
  | y :: ys, h => by
    unfold ins1 at h
    split at h
    · rcases List.mem_cons.mp h with e | h
      · exact .inl e
      · exact .inr h
    · rcases List.mem_cons.mp h with e | h
      · exact .inr (by rw [e]; exact List.mem_cons_self)
      · rcases ins1_mem h with e | h
        · exact .inl e
        · exact .inr (List.mem_cons_of_mem _ h)
theorem ins1_sorted (t : PySem.W.TotalLe le) {x : α} : ∀ {l : List α}, l.Pairwise (fun a b => le a b = true) → (ins1 le x l).Pairwise (fun a b => le a b = true)
  | [], _ => List.pairwise_singleton _ _
  | y :: ys, h => by
    obtain ⟨h1, h2⟩ := List.pairwise_cons.mp h
    unfold ins1
    split
    · rename_i e
      refine List.pairwise_cons.mpr ⟨fun z hz => ?_, h⟩
      rcases List.mem_cons.mp hz with q | hz
      · rw [q]; exact e
      · exact t.trans _ _ _ e (h1 z hz)
    · rename_i e
      refine List.pairwise_cons.mpr ⟨fun z hz => ?_, ins1_sorted t h2⟩
      rcases ins1_mem hz with q | hz
      · rw [q]
        rcases t.total y x with q | q
        · exact q
        · exact (e q).elim
      · exact h1 z hz
theorem ins1_filter (t : PySem.W.TotalLe le) {x : α} (c : α) : ∀ l : List α, (ins1 le x l).filter (PySem.W.sameRank le c) = (x :: l).filter (PySem.W.sameRank le c)
  | [] => rfl
  | y :: ys => by
    unfold ins1
    split
    · rfl
    · rename_i e
      cases py : PySem.W.sameRank le c y with
      | false => rw [List.filter_cons_of_neg (by rw [py]; exact Bool.false_ne_true), ins1_filter t c ys, List.filter_cons, List.filter_cons, List.filter_cons_of_neg (by rw [py]; exact Bool.false_ne_true)]
      | true =>
        have px : PySem.W.sameRank le c x = false := by
          cases q : PySem.W.sameRank le c x with
          | false => rfl
          | true =>
            unfold PySem.W.sameRank at py q
            rw [Bool.and_eq_true] at py q
            exact (e (t.trans _ _ _ q.2 py.1)).elim
        rw [List.filter_cons_of_pos py, ins1_filter t c ys, List.filter_cons_of_neg (by rw [px]; exact Bool.false_ne_true), List.filter_cons_of_neg (by rw [px]; exact Bool.false_ne_true), List.filter_cons_of_pos py]
theorem isort_sorted (t : PySem.W.TotalLe le) : ∀ l : List α, (isort le l).Pairwise (fun a b => le a b = true)
  | [] => List.Pairwise.nil
  | x :: l => ins1_sorted t (isort_sorted t l)
theorem isort_filter (t : PySem.W.TotalLe le) (c : α) : ∀ l : List α, (isort le l).filter (PySem.W.sameRank le c) = l.filter (PySem.W.sameRank le c)
  | [] => rfl
  | x :: l => by
    show (ins1 le x (isort le l)).filter _ = _
    rw [ins1_filter t c, List.filter_cons, List.filter_cons, isort_filter t c l]
theorem isort_eq (t : PySem.W.TotalLe le) (l : List α) : isort le l = l.mergeSort le := PySem.W.sort_unique t (isort_sorted t l) (fun c => isort_filter t c l)
theorem isort_mem (t : PySem.W.TotalLe le) {l : List α} {x : α} (h : x ∈ isort le l) : x ∈ l := by
  rw [isort_eq t] at h
  exact List.mem_mergeSort.mp h
theorem isort_len (t : PySem.W.TotalLe le) (l : List α) : (isort le l).length = l.length := by rw [isort_eq t, List.length_mergeSort]
end
theorem dataLe_total {β : Type} (k : β → PyData) : PySem.W.TotalLe (PySem.W.dataLe false k) := PySem.W.sortLe_total _ _ _
/-! ### what is sorted -/
def seqX (h : AH) : D → Option (List D)
  | .ref n => match h[n]? with
    | some (.lst xs) => some xs
    | some (.fls xs) => some xs
    | some (.dic kvs) => some (kvs.map (·.1))
    | some (.fdc kvs) => some (kvs.map (·.1))
    | _ => none
  | _ => none
section
variable {X : Cx} {ct : CTab} {m : Mp} {h : AH} {pins : List (Addr × Obj)} {σ : St} {H : Hp} {s : Shared} {A : Around} {E : Value → Shared → Prop} {K : PySem.W.Frag}
theorem DRep.keyV : ∀ {kvs : List (D × D)} {es : List DictEntry}, DRep K ct m H kvs es → ∃ Vx, RepL K ct m H (kvs.map (·.1)) Vx ∧ Vals Vx (es.map (·.key))
  | _, _, .nil => ⟨[], .nil, .nil⟩
  | _, _, .cons r t => by
    obtain ⟨v, a, b⟩ := r.key
    obtain ⟨Vx, c, d⟩ := DRep.keyV t
    exact ⟨v :: Vx, .cons b c, .cons a d⟩
theorem seqX_at {d : D} {v : V} {xs : List D} (hr : HR K ct m h H) (e : seqX h d = some xs) (r : Rep K ct m H d v) : (∃ a Vx, v = .ref a ∧ Rd H a (.lst Vx) ∧ RepL K ct m H xs Vx) ∨ ∃ a es kvs, v = .ref a ∧ Rd H a (rawD a es) ∧ DRep K ct m H kvs es ∧ xs = kvs.map (·.1) := by
  cases d with
  | ref n =>
    unfold seqX at e
    dsimp only at e
    split at e
    · rename_i ys en
      cases e
      obtain ⟨a, rfl, _, vs, eH, rl⟩ := hr.at en (by intro z; cases z) r
      exact .inl ⟨a, vs, rfl, .inl eH, rl⟩
    · rename_i ys en
      cases e
      obtain ⟨a, rfl, _, o, vs, eH, rl⟩ := hr.at en (by intro z; cases z) r
      exact .inl ⟨a, vs, rfl, .inr ⟨o, eH⟩, rl⟩
    · rename_i kvs en
      cases e
      obtain ⟨a, rfl, _, es, eH, rl, _⟩ := hr.at en (by intro z; cases z) r
      exact .inr ⟨a, es, kvs, rfl, .inl eH, rl, rfl⟩
    · rename_i kvs en
      cases e
      obtain ⟨a, rfl, _, o, es, ep, eH, _, rl, _⟩ := hr.at en (by intro z; cases z) r
      exact .inr ⟨a, es, kvs, rfl, .inr ⟨o, eH⟩, rl, rfl⟩
    · cases e
  | _ => cases e
theorem raw_is (I : Inv X pins σ H s) {a : Addr} {es : List DictEntry} (e : Rd H a (rawD a es)) : (a == sysModules) = false ∧ es.length ≤ sizeLine ∧ ∃ ep, s.heap.DictRaw a es.toArray ep := by
  obtain ⟨h1, h2, o, ep, h3, h4, h5⟩ := d_raw I e
  exact ⟨h1, h2, ep, o, h3, h4, h5⟩
theorem key_items {es : List DictEntry} {acc : Array Value} (h : ItemsOf (fun i v => ∃ hi : i < es.toArray.size, v = es.toArray[i].key) acc es.toArray.size) : acc.toList = es.map (·.key) := by
  apply List.ext_getElem?
  intro i
  have hs : acc.size = es.length := by have := h.1; rw [List.size_toArray] at this; exact this
  rw [List.getElem?_map]
  cases q : acc[i]? with
  | none =>
    have hl : acc.size ≤ i := Array.getElem?_eq_none_iff.mp q
    rw [List.getElem?_eq_none (by rw [Array.length_toList]; exact hl), List.getElem?_eq_none (by omega)]
    rfl
  | some v =>
    obtain ⟨hi, e⟩ := h.2 i v q
    rw [Array.getElem?_toList, q, e]
    rw [List.size_toArray] at hi
    rw [List.getElem?_eq_getElem hi]
    simp
theorem collect_ok {d : D} {v : V} {u : Value} {xs : List D} {R : List Value → Shared → Prop} (hh : A.handled = none) (I : Inv X pins σ H s) (hr : HR X.K ct m h H) (e : seqX h d = some xs) (r : Rep X.K ct m H d v) (ru : RelV v u)
    (q : ∀ Vx vs h' tk, RepL X.K ct m H xs Vx → Vals Vx vs → vs.length ≤ sizeLine → (∀ b o, s.heap.get? b = some o → h'.get? b = some o) → R vs { s with heap := h', toks := tk }) : wpAny (model X.prog X.w) A (collect u) R E s := by
  rcases seqX_at hr e r with ⟨a, Vx, rfl, rd, rl⟩ | ⟨a, es, kvs, rfl, rd, rl, rfl⟩
  · cases (show u = Value.ref a from ru)
    obtain ⟨z, its, n, rv, hl, eo⟩ := lstR I rd
    have z' : its.length ≤ sizeLine := by rw [← hl]; exact z
    refine PyProof.Rows.collect_list (vs := its) ⟨_, eo, rfl, _, rfl⟩ (q Vx its _ s.toks rl rv z' fun b o eb => ?_) z'
    have hb : b ≠ s.heap.objs.size := Nat.ne_of_lt (Heap.lt_size eb)
    rw [Heap.get?_update_ne _ _ _ _ hb]
    exact Heap.get?_push_of_some _ eb
  · cases (show u = Value.ref a from ru)
    obtain ⟨h1, h2, ep, hm⟩ := raw_is I rd
    obtain ⟨Vx, rV, vV⟩ := rl.keyV
    refine PySem.W.kdu_collect (PySem.KdlSrc.rawDict h1) hh hm (by rw [List.size_toArray]; exact h2) fun h' tk acc hk hacc => ?_
    have ea := key_items hacc
    rw [ea]
    exact q Vx _ h' tk rV vV (by rw [List.length_map]; exact h2) hk
/-- a thing of ours that is not tracked yet -/
theorem Inv.track {a : Addr} {o : HO} (I : Inv X pins σ H s) (f : FpOk X pins H a) (h0 : X.s_0.heap.objs.size ≤ a) (new : ObjOk X.prog X.w (upd H a o) s.heap a o) : Inv X pins σ (upd H a o) s := by
  obtain ⟨f0, f1, f2, f3, f4, f5⟩ := f
  refine ⟨I.ok, I.os, I.bare, ⟨I.base.keep, I.base.slot, fun b u q n hx => ?_, I.base.there, fun b xs q => ?_, fun b u x q => ?_, fun b ps q => ?_⟩, I.loc, I.cell, ?_, fun x c q => ?_, fun p hp => ?_, HOk.laidN I.hok (fun _ _ z => z) f0 new, I.len⟩
  · rw [upd_ne (fun z => by rw [z] at q; exact absurd (Heap.lt_size q) (Nat.not_lt.mpr h0))]; exact I.base.free b u q n hx
  · rw [upd_ne (ne_of_none (I.base.tups b xs q) f0)]; exact I.base.tups b xs q
  · rw [upd_ne (ne_of_none (I.base.frzs b u x q) f0)]; exact I.base.frzs b u x q
  · obtain ⟨mo, z⟩ := I.base.tbls b ps q
    exact ⟨mo, by rw [upd_ne (ne_of_none z f0)]; exact z⟩
  · rw [upd_ne (Ne.symm f1)]; exact I.free
  · rw [upd_ne (f4 x c q)]; exact I.freeC x c q
  · obtain ⟨z1, z2, z3⟩ := I.pin p hp
    exact ⟨z1, by rw [upd_ne (f5 p hp)]; exact z2, z3⟩
end
/-! ### the keys, one by one -/
def keysN (F : AF) : List D → AH → Res (List D)
  | [], h => .ok [] h
  | x :: xs, h => (F [x] h).calm.bind fun k h1 => (keysN F xs h1).bind fun ks h2 => .ok (k :: ks) h2
def pyL (h : AH) : List D → Option (List PyData)
  | [] => some []
  | d :: ds => match py h d, pyL h ds with
    | some p, some ps => some (p :: ps)
    | _, _ => none
def isTupC : PyData → Bool
  | .tuple (_ :: _) => true
  | _ => false
def isFlatC : PyData → Bool
  | .none => false
  | .tuple _ => false
  | _ => true
def sortOk (ps : List PyData) : Bool := (ps.all fun p => ps.all fun q => PySem.W.alike p q) && (ps.all isTupC || ps.all isFlatC)
theorem sortOk_ok {ps : List PyData} (h : sortOk ps = true) : PySem.W.AllAlike ps ∧ PySem.W.Sortable ps := by
  unfold sortOk at h
  rw [Bool.and_eq_true, Bool.or_eq_true] at h
  refine ⟨fun p hp q hq => List.all_eq_true.mp (List.all_eq_true.mp h.1 p hp) q hq, ?_⟩
  rcases h.2 with z | z
  · refine .inl fun d hd => ?_
    have := List.all_eq_true.mp z d hd
    unfold isTupC at this
    split at this
    · exact ⟨_, _, rfl⟩
    · cases this
  · refine .inr fun d hd => ?_
    have := List.all_eq_true.mp z d hd
    unfold isFlatC at this
    split at this
    · cases this
    · cases this
    · rename_i z1 z2
      exact ⟨z1, fun xs => z2 xs⟩
/-- the items by their keys -/
def sortBy (xs : List D) (ps : List PyData) : List D := (isort (PySem.W.dataLe false fun b : D × PyData => b.2) (xs.zip ps)).map (·.1)
def sortKA (F : AF) : AF := fun ds h => match ds with
  | [d] => match seqX h d with
    | some xs => (keysN F xs h).bind fun ks h1 => match pyL h1 ks with
      | some ps => if sortOk ps = true ∧ xs.length ≤ sizeLine then .ok (.ref h1.length) (h1 ++ [.lst (sortBy xs ps)]) else .stuck
      | none => .stuck
    | none => .stuck
  | _ => .stuck
section
variable {K : PySem.W.Frag} {ct : CTab} {m : Mp} {H : Hp} {h : AH}
theorem pyL_reads {X : Cx} {pins : List (Addr × Obj)} {σ : St} {s : Shared} (I : Inv X pins σ H s) (hr : HR X.K ct m h H) : ∀ {ds : List D} {vs : List V} {us : List Value} {ps : List PyData}, pyL h ds = some ps → RepL X.K ct m H ds vs → Vals vs us → PySem.W.EachIs (fun v d => ∃ as, Reads s.heap v d as) us ps
  | _, _, _, _, e, .nil, ru => by cases e; cases ru; exact .nil
  | _, _, _, _, e, .cons r t, ru => by
    unfold pyL at e
    split at e
    · rename_i p qs e1 e2
      cases e
      cases ru with
      | cons r1 r2 =>
        obtain ⟨dp, _⟩ := py_dp hr e1 r
        exact .cons (Dp.reads I p _ _ dp r1) (pyL_reads I hr e2 t r2)
    · cases e
theorem pyL_depth : ∀ {ds : List D} {ps : List PyData}, pyL h ds = some ps → ∀ p ∈ ps, SeqAt.shaped p = true
  | [], _, e => by cases e; intro p hp; exact (List.not_mem_nil hp).elim
  | d :: ds, _, e => by
    unfold pyL at e
    split at e
    · rename_i p qs e1 e2
      cases e
      intro q hq
      rcases List.mem_cons.mp hq with z | hq
      · subst z
        unfold py at e1
        split at e1
        · split at e1
          · cases e1; assumption
          · cases e1
        · cases e1
      · exact pyL_depth e2 q hq
    · cases e
theorem pyL_len : ∀ {ds : List D} {ps : List PyData}, pyL h ds = some ps → ps.length = ds.length
  | [], _, e => by cases e; rfl
  | d :: ds, _, e => by
    unfold pyL at e
    split at e
    · rename_i p qs e1 e2
      cases e
      rw [List.length_cons, List.length_cons, pyL_len e2]
    · cases e
end
/-- items with their values and keys -/
structure It3 where
  d : D
  v : V
  p : PyData
def zip3 : List D → List V → List PyData → List It3
  | d :: ds, v :: vs, p :: ps => ⟨d, v, p⟩ :: zip3 ds vs ps
  | _, _, _ => []
section
variable {K : PySem.W.Frag} {ct : CTab} {m : Mp} {H : Hp}
theorem zip3_each : ∀ {ds : List D} {vs : List V} {us : List Value} {ps : List PyData}, RepL K ct m H ds vs → Vals vs us → ps.length = ds.length → PySem.W.EachIs (fun u b => RelV b.v u) us (zip3 ds vs ps) ∧ (zip3 ds vs ps).map It3.p = ps ∧ (∀ b ∈ zip3 ds vs ps, Rep K ct m H b.d b.v) ∧ (zip3 ds vs ps).map (fun b => (b.d, b.p)) = ds.zip ps
  | _, _, _, [], .nil, ru, _ => by cases ru; exact ⟨.nil, rfl, fun b hb => (List.not_mem_nil hb).elim, rfl⟩
  | _, _, _, p :: ps, .cons r t, ru, hl => by
    cases ru with
    | cons r1 r2 =>
      obtain ⟨a, b, c, d⟩ := zip3_each t r2 (by simpa using hl)
      refine ⟨.cons r1 a, congrArg (p :: ·) b, fun x hx => ?_, congrArg (_ :: ·) d⟩
      rcases List.mem_cons.mp hx with e | hx
      · rw [e]; exact r
      · exact c x hx
theorem each_vals : ∀ {us : List Value} {bs : List It3}, PySem.W.EachIs (fun u b => RelV b.v u) us bs → Vals (bs.map It3.v) us
  | _, _, .nil => .nil
  | _, _, .cons r t => .cons r (each_vals t)
theorem reps3 : ∀ {bs : List It3}, (∀ b ∈ bs, Rep K ct m H b.d b.v) → RepL K ct m H (bs.map It3.d) (bs.map It3.v)
  | [], _ => .nil
  | b :: bs, h => .cons (h b List.mem_cons_self) (reps3 fun x hx => h x (List.mem_cons_of_mem _ hx))
theorem isort_map {α β : Type} {f : α → β} {le : α → α → Bool} {le' : β → β → Bool} (e : ∀ a b, le a b = le' (f a) (f b)) : ∀ l : List α, (isort le l).map f = isort le' (l.map f) := by
  have h1 : ∀ (x : α) (l : List α), (ins1 le x l).map f = ins1 le' (f x) (l.map f) := fun x l => by
    induction l with
    | nil => rfl
    | cons y ys ih =>
      show (if le x y = true then x :: y :: ys else y :: ins1 le x ys).map f = if le' (f x) (f y) = true then f x :: f y :: ys.map f else f y :: ins1 le' (f x) (ys.map f)
      rw [e x y]
      split
      · rfl
      · rw [List.map_cons, ih]
  intro l
  induction l with
  | nil => rfl
  | cons x l ih => show (ins1 le x (isort le l)).map f = ins1 le' (f x) (isort le' (l.map f)); rw [h1, ih]
end
section
variable {X : Cx} {ct : CTab} {m : Mp} {h : AH} {pins : List (Addr × Obj)} {σ : St} {H : Hp} {s : Shared} {a kS : Addr}
/-- what one turn of the key's walk keeps -/
def KI (X : Cx) (ct : CTab) (pins : List (Addr × Obj)) (σ : St) (m : Mp) (H : Hp) (a kS : Addr) (e1 : Nat) (F : AF) (xs : List D) (P : List D → Mp → AH → Hp → Prop) (i : Nat) (s' : Shared) : Prop :=
  ∃ m' H' h' ks Vk kA e, Inv X pins σ H' s' ∧ HR X.K ct m' h' H' ∧ Ext m H m' H' ∧ FpOk X pins H' kS ∧ FpOk X pins H' a ∧ s'.heap.get? kS = some (PyProof.Rows.seqObj "list" kA e) ∧ s'.heap.get? a = some (PyProof.Rows.seqObj "list" #[] e1) ∧
    RepL X.K ct m' H' ks Vk ∧ Vals Vk kA.toList ∧ ks.length = i ∧ Post X.K ct m' H' W0 [] (keysN F (xs.drop i) h') fun ks2 m2 h2 H2 => P (ks ++ ks2) m2 h2 H2
theorem FpOk.of {H' : Hp} {b : Addr} (f : FpOk X pins H b) (n : H' b = none) : FpOk X pins H' b := ⟨n, f.2⟩
theorem key_turn {f : Addr} {fd : FuncData} {ps : List Str} {F : AF} {k : Nat} {xs : List D} {Vx : List V} {vs : List Value} {P : List D → Mp → AH → Hp → Prop} {e1 : Nat} {Q : Value → Shared → Prop} {E' : Value → Shared → Prop} {A' : Around} (hA : A' = X.A.in1.in1)
    (fo : FnOk X.prog X.w X.K X.mg X.base (L2.CX X.prog X.w) k f fd ps (spA X.K ct 1 F)) (hb : Binds X.K fd ps []) (hr : Room (k + 2) X.A) (rx : RepL X.K ct m H xs Vx) (rv : Vals Vx vs) (hps : ps.length = 1)
    {j : Nat} {x : Value} {s' : Shared} (hx : vs[j]? = some x) (hI : KI X ct pins σ m H a kS e1 F xs P j s')
    (q : ∀ y s'', (∃ m' H' h' ks Vk kA e d v, Inv X pins σ H' s'' ∧ HR X.K ct m' h' H' ∧ Ext m H m' H' ∧ FpOk X pins H' kS ∧ FpOk X pins H' a ∧ s''.heap.get? kS = some (PyProof.Rows.seqObj "list" kA e) ∧ s''.heap.get? a = some (PyProof.Rows.seqObj "list" #[] e1) ∧
      RepL X.K ct m' H' ks Vk ∧ Vals Vk kA.toList ∧ ks.length = j ∧ Rep X.K ct m' H' d v ∧ RelV v y ∧ Post X.K ct m' H' W0 [] (keysN F (xs.drop (j + 1)) h') fun ks2 m2 h2 H2 => P ((ks ++ [d]) ++ ks2) m2 h2 H2) → Q y s'') :
    wpAny (model X.prog X.w) A' (call (.ref f) [x]) Q E' s' := by
  subst hA
  obtain ⟨m', H', h', ks, Vk, kA, e, I, hrr, ex, fk, fa, gk, ga, rk, vk, hl, po⟩ := hI
  obtain ⟨V, eV, rV⟩ : ∃ V, Vx[j]? = some V ∧ RelV V x := by
    have : ∀ {Vx : List V} {vs : List Value} (j : Nat), Vals Vx vs → vs[j]? = some x → ∃ V, Vx[j]? = some V ∧ RelV V x := by
      intro Vx vs j r e
      induction r generalizing j with
      | nil => simp at e
      | cons r t ih =>
        cases j with
        | zero => cases e; exact ⟨_, rfl, r⟩
        | succ j => exact ih j e
    exact this j rv hx
  obtain ⟨d0, ed, rd⟩ := RepL.get' j rx eV
  have hd : xs.drop j = d0 :: xs.drop (j + 1) := by
    have hlt := lt_of_get ed
    rw [List.drop_eq_getElem_cons hlt]
    congr 1
    exact Option.some.inj ((List.getElem?_eq_getElem hlt).symm.trans ed)
  rw [hd] at po
  have po' : Post X.K ct m' H' (fun c d _ H => (fun (_ : Value) (_ : Option Addr) (_ : Hp) => False) c d H) [] (F [d0] h') (fun d m2 h2 H2 => Post X.K ct m2 H2 W0 [] ((keysN F (xs.drop (j + 1)) h2).bind fun ks h2 => .ok (d :: ks) h2) fun ks2 m2 h2 H2 => P (ks ++ ks2) m2 h2 H2) := Post.calm (Post.bind (show Post X.K ct m' H' W0 [] ((F [d0] h').calm.bind _) _ from po))
  have b := hb s' [x] I.kIn (by rw [List.append_nil, hps]; rfl)
  rw [List.append_nil] at b
  have hsp : spA X.K ct 1 F [V] H' (fun v H2 => ∃ d m2 h2, HR X.K ct m2 h2 H2 ∧ Ext m' H' m2 H2 ∧ Rep X.K ct m2 H2 d v ∧ Post X.K ct m2 H2 W0 [] (keysN F (xs.drop (j + 1)) h2) fun ks2 m3 h3 H3 => P ((ks ++ [d]) ++ ks2) m3 h3 H3) (fun _ _ _ => False) := by
    refine ⟨rfl, m', h', [d0], hrr, .cons (rd.ext ex) .nil, po'.imp fun d m2 h2 H2 e2 r2 p2 v rv => ⟨d, m2, h2, r2, e2, rv, ?_⟩⟩
    refine (Post.bind p2).imp fun ks2 m3 h3 H3 e3 r3 p3 => ?_
    have := (show Post X.K ct m3 H3 W0 [] (.ok (d :: ks2) h3) _ from p3).here r3
    rw [List.append_assoc]
    exact this
  refine wpAny_call (codeAny_mono (fo.run X.A.in1.in1 X.stack s' H' ⟨[x], []⟩ [x] [V] _ (fun _ _ _ => False) hr.in1.in1 I.env0.in1.in1 b (.cons rV .nil) hsp) fun r s'' hq => ?_)
  cases r with
  | error e =>
    obtain ⟨_, _, _, _, _, _, _, _, _, _, _, _, z⟩ := hq
    exact z.elim
  | ok fl =>
    cases fl with
    | next => exact False.elim hq
    | brk => exact False.elim hq
    | cont => exact False.elim hq
    | ret u =>
      have un : ∃ H'', Un (frs X.stack) [] H' H'' s'.heap s''.heap ∧ True := by obtain ⟨_, H'', _, _, un, _⟩ := hq; exact ⟨H'', un, trivial⟩
      obtain ⟨v, H2, os, bare, un, hok, rv2, d, m2, h2, r2, e2, rp, p2⟩ := hq
      have I2 : Inv X pins σ H2 s'' := I.call' (ch := []) os un hok bare (fun b z => absurd z (by simp))
      have nf : ∀ {b : Addr}, FpOk X pins H' b → b ∉ frs X.stack := fun {b} f z => (List.mem_cons.mp (I.stkSub b z)).elim f.2.1 f.2.2.1
      refine q u s'' ⟨m2, H2, h2, ks, Vk, kA, e, d, v, I2, r2, ex.trans e2, FpOk.of fk (un.free _ _ gk fk.1 (by simp)), FpOk.of fa (un.free _ _ ga fa.1 (by simp)), un.keep _ _ gk fk.1 (nf fk) (by simp), un.keep _ _ ga fa.1 (nf fa) (by simp), rk.ext e2, vk, hl, rp, rv2, p2⟩
/-- what is left of the items -/
theorem sort_out3 {m' : Mp} {H' : Hp} {xs : List D} {Vx : List V} {vals kv : List Value} {ps : List PyData} {g : Heap} (rx : RepL X.K ct m' H' xs Vx) (rv : Vals Vx vals) (hl : ps.length = xs.length) (hal : PySem.W.AllAlike ps) (hk : PySem.W.EachIs (fun v d => ∃ as, Reads g v d as) kv ps) :
    ∃ outV, Vals outV (PySem.W.sortVals (PySem.W.dataKind g ps) false kv vals) ∧ RepL X.K ct m' H' (sortBy xs ps) outV ∧ outV.length = xs.length := by
  obtain ⟨z1, z2, z3, z4⟩ := zip3_each rx rv hl
  have ko : PySem.W.KeyedOut false ((zip3 xs Vx ps).map It3.p) vals (PySem.W.sortVals (PySem.W.dataKind g ps) false kv vals) := by
    rw [z2]
    exact ⟨g, kv, hal, rfl, hk⟩
  have e := PySem.W.keyedOut_each It3.p ko z1
  have tl : PySem.W.TotalLe (PySem.W.dataLe false It3.p) := dataLe_total It3.p
  rw [← isort_eq tl] at e
  refine ⟨(isort (PySem.W.dataLe false It3.p) (zip3 xs Vx ps)).map It3.v, each_vals e, ?_, ?_⟩
  · have e2 : sortBy xs ps = (isort (PySem.W.dataLe false It3.p) (zip3 xs Vx ps)).map It3.d := by
      unfold sortBy
      rw [← z4, ← isort_map (f := fun b : It3 => (b.d, b.p)) (le := PySem.W.dataLe false It3.p) (fun _ _ => rfl), List.map_map]
      rfl
    rw [e2]
    exact reps3 fun b hb => z3 b (isort_mem tl hb)
  · rw [List.length_map, isort_len tl]
    have := congrArg List.length z4
    rw [List.length_map, List.length_zip, hl, Nat.min_self] at this
    exact this
open PySem.W PySem.Calls PyProof.Rows in
theorem cr_sortK {f : Addr} {fd : FuncData} {ps : List Str} {F : AF} {k : Nat} (fo : FnOk X.prog X.w X.K X.mg X.base (L2.CX X.prog X.w) k f fd ps (spA X.K ct 1 F)) (hb : Binds X.K fd ps []) (hr : Room (k + 2) X.A) (hps : ps.length = 1) :
    CallRK X (.builtin "sorted") [Str.ofString "key"] (fun vs zs H Q => zs = [V.ref f] ∧ ∃ m h d v, vs = [v] ∧ HR X.K ct m h H ∧ Rep X.K ct m H d v ∧ Post X.K ct m H W0 [] (sortKA F [d] h) fun d m' _ H' => ∀ v, Rep X.K ct m' H' d v → Q v H') := by
  intro pins s σ H vs zs us ws Q I r1 r2 z
  obtain ⟨rfl, m, h, d, v, rfl, hrr, rd, po⟩ := z
  obtain ⟨u, rfl, ru⟩ := vals1 r1
  obtain ⟨w1, rfl, rw1⟩ := vals1 r2
  obtain rfl : w1 = Value.ref f := rw1
  unfold sortKA at po
  dsimp only at po
  split at po
  · rename_i xs ex
    show wpAny (model X.prog X.w) X.A (call (.builtin "sorted") [u] [(Str.ofString "key", .ref f)]) (EP X pins σ Q) X.xe s
    refine call_function_entry_kw kind_sorted plain_sorted entry_sorted (ksk_s1 _ _) ?_
    unfold Builtin.«sorted»
    refine wpAny_bind (m := checkCount "sorted" 1 1 _) (wpAny_pure ?_)
    refine wpAny_bind (collect_ok (A := X.A.in1) hr.hd I hrr ex rd ru fun Vx vals h1 tk rV vV hz hk => ?_)
    have I1 : Inv X pins σ H { s with heap := h1, toks := tk } := I.kept hk
    refine wpAny_bind (wpAny_newList ?_ hz)
    have ho : (h1.push (seqObj "list" vals.toArray 0)).get? h1.objs.size = some (seqObj "list" vals.toArray 0) := Heap.get?_push_size _ rfl
    show wpAny _ _ _ _ _ { s with heap := h1.push (seqObj "list" vals.toArray 0), toks := tk }
    refine wpAny_bind (wpAny_holding (wpAny_call_entry_kw slot_list_sort ⟨_, ho, rfl⟩ entry_list_sort ?body (by unfold argsOk; kernel_rfl)))
    case body =>
      show wpAny (model X.prog X.w) X.A.in1.in1 (Builtin.«list.sort» ⟨[.ref h1.objs.size], [(Str.ofString "key", .ref f)]⟩) _ _ _
      refine wpAny_mono (Q := fun fl s' => fl = .done (.ret .none) ∧ EP X pins σ Q (.ref h1.objs.size) s') ?_ (fun fl s' hf => ?_) fun _ _ e => e
      rotate_left
      · obtain ⟨rfl, hq⟩ := hf
        exact ⟨_, rfl, wpAny_pure ⟨_, rfl, hq⟩⟩
      rw [ksk_t1]
      generalize ea : h1.objs.size = a at ho ⊢
      have ha : a < (h1.push (seqObj "list" vals.toArray 0)).objs.size := Heap.lt_size ho
      obtain ⟨e1, ho1⟩ : ∃ e1, ((h1.push (seqObj "list" vals.toArray 0)).update a (Obj.mapSeq fun _ => (#[] : Array Value))).get? a = some (seqObj "list" #[] e1) := ⟨_, get?_update_seq ho fun _ => #[]⟩
      generalize e5 : ((h1.push (seqObj "list" vals.toArray 0)).update a (Obj.mapSeq fun _ => (#[] : Array Value))) = h4 at ho1
      have hs4 : h4.objs.size = a + 1 := by rw [← e5, Heap.size_update, size_push', ea]
      have k4 : ∀ b o, h1.get? b = some o → h4.get? b = some o := fun b o q => by
        have hb : b ≠ a := by rw [← ea]; exact Nat.ne_of_lt (Heap.lt_size q)
        rw [← e5, Heap.get?_update_ne _ _ _ _ hb]
        exact Heap.get?_push_of_some _ q
      unfold ksk_tree
      refine wpAny_bind (listItems_at ho rfl ?_)
      refine wpAny_bind (listUpdate_at ho rfl ?_ (by rw [List.size_toArray]; exact hz) (Nat.zero_le _))
      rw [e5]
      refine wpAny_bind (seqEpoch_at ho1 rfl ?_)
      refine wpAny_bind (wpAny_newTuple ?_ (by show vals.length ≤ _; exact hz))
      refine wpAny_bind (wpAny_newList ?_ (Nat.zero_le _))
      refine wpAny_holding ?_
      have hkS : (h4.push (seqObj "tuple" vals.toArray 0)).objs.size = a + 2 := by rw [size_push', hs4]
      generalize ek : (h4.push (seqObj "tuple" vals.toArray 0)).objs.size = kS at hkS ⊢
      have I6 : Inv X pins σ H { s with heap := (h4.push (seqObj "tuple" vals.toArray 0)).push (seqObj "list" #[] 0), toks := tk } := I.kept fun b o q => Heap.get?_push_of_some _ (Heap.get?_push_of_some _ (k4 b o (hk b o q)))
      have fK : FpOk X pins H kS := I1.fpOk (by show h1.objs.size ≤ kS; omega) (I1.hok.fresh (by show h1.objs.size ≤ kS; omega))
      have fA : FpOk X pins H a := I1.fpOk (by show h1.objs.size ≤ a; omega) (I1.hok.fresh (by show h1.objs.size ≤ a; omega))
      have h0A : X.s_0.heap.objs.size ≤ a := by have := I1.sz; rw [← ea]; exact this
      have hka : kS ≠ a := by omega
      unfold ksk_rest
      refine wpAny_bind (wpAny_rule ?_)
      first
        | rw [List.forIn_toArray]
        | (rw [← Array.forIn_toList]; simp only [List.toList_toArray])
        | rw [← Array.forIn_toList]
      refine wpAny_bind (ksk_fold (fun i s' => KI X ct pins σ m H a kS e1 F xs (fun ks m1 h1 H1 => Post X.K ct m1 H1 W0 [] (match pyL h1 ks with
        | some ps => if sortOk ps = true ∧ xs.length ≤ sizeLine then .ok (.ref h1.length) (h1 ++ [.lst (sortBy xs ps)]) else .stuck
        | none => .stuck) fun d m' _ H' => ∀ v, Rep X.K ct m' H' d v → Q v H') i s') vals 0 _ ?start ?step ?done)
      case start =>
        refine ⟨m, H, h, [], [], #[], 0, I6, hrr, Ext.refl _ _, fK, fA, ?_, Heap.get?_push_of_some _ (Heap.get?_push_of_some _ ho1), .nil, .nil, rfl, Post.bind po⟩
        rw [← ek]
        exact Heap.get?_push_size _ rfl
      case step =>
        intro j x s' hx hI
        simp only [Nat.zero_add] at hI ⊢
        have hj : j < vals.length := (List.getElem?_eq_some_iff.mp hx).1
        refine wpAny_bind (wpAny_attempt (key_turn (A' := X.A.in1.in1) rfl fo hb hr rV vV hps hx hI fun y s'' he => ?_))
        obtain ⟨m', H', h', ks, Vk, kA, e, d', v', I', hr', ex', fk', fa', gk, ga, rk, vk, hl, rp, ry, po'⟩ := he
        have s1 := Heap.SameBut.update s''.heap kS (Obj.mapSeq (·.push y))
        obtain ⟨c2, hc2⟩ : ∃ c2, (s''.heap.update kS (Obj.mapSeq (·.push y))).get? kS = some (seqObj "list" (kA.push y) c2) := ⟨_, get?_update_seq gk (·.push y)⟩
        have hkz : kA.size = j := by
          have q1 : Vk.length = kA.toList.length := vk.length
          have q2 : kA.toList.length = kA.size := Array.length_toList
          have q3 := rk.length
          omega
        try dsimp only
        refine wpAny_bind (listUpdate_at gk rfl ?_ (by omega) (by rw [Array.size_push]; omega))
        refine wpAny_pure ⟨rfl, m', H', h', ks ++ [d'], Vk ++ [v'], kA.push y, c2, I'.turnedL (t' := s''.toks) (ch := [kS]) (fun b o hb q => (s1.2 b (by simpa using hb)).trans q) (fun b hb => ?_), hr', ex', fk', fa', hc2, (s1.2 a (Ne.symm hka)).trans ga, rk.append (.cons rp .nil), ?_, by rw [List.length_append, hl]; rfl, po'⟩
        · have : b = kS := by simpa using hb
          rw [this]; exact fk'
        · rw [Array.toList_push]
          exact vk.append (.cons ry .nil)
      case done =>
        rintro s' ⟨m', H', h', ks, Vk, kA, e, I', hr', ex', fk', fa', gk, ga, rk, vk, hl, po'⟩
        have hxl : xs.length = vals.length := by rw [rV.length, vV.length]
        rw [List.drop_eq_nil_of_le (by omega)] at po'
        have po2 := (show Post X.K ct m' H' W0 [] (.ok [] h') _ from po').here hr'
        rw [List.append_nil] at po2
        split at po2
        · rename_i qs eq
          split at po2
          · rename_i hc
            obtain ⟨hal, hsk⟩ := sortOk_ok hc.1
            have hkr := pyL_reads I' hr' eq rk vk
            have hql : qs.length = xs.length := by rw [pyL_len eq, hl]; omega
            have hkz : kA.size = vals.length := by
              have q1 : Vk.length = kA.toList.length := vk.length
              have q2 : kA.toList.length = kA.size := Array.length_toList
              have q3 := rk.length
              omega
            obtain ⟨G, g1, g2⟩ := restrict s'.heap fun b => decide (b ≠ kS)
            try dsimp only
            refine wpAny_bind (listItems_at gk rfl ?_)
            refine keyH_end (κ := dataKind s'.heap qs) (h₁ := G) (fun b o hb q => ?_) (g2 kS (by simp)) gk ga hka (SortsAt.data hkr hal hsk fun q hq => ?_) hkz (by omega) fun h3 tk3 c k3 n3 => ⟨rfl, ?_⟩
            · by_cases hbk : b = kS
              · rw [hbk, g2 kS (by simp)] at q; cases q
              · rw [g1 b (by simpa using hbk)] at q; exact q
            · have hd := SeqAt.depth_of_shaped (pyL_depth eq q hq)
              have := hr.un
              show X.A.units + 1 + 1 + q.depth < cLine
              omega
            · obtain ⟨outV, ov, orep, olen⟩ := sort_out3 (rV.ext ex') vV hql hal hkr
              have I3 : Inv X pins σ H' { s' with heap := h3, toks := tk3 } := I'.turnedL (t' := tk3) (ch := [a, kS]) (fun b o hb q => by
                have hb1 : b ≠ a := fun z => hb (by rw [z]; simp)
                have hb2 : b ≠ kS := fun z => hb (by rw [z]; simp)
                exact k3 b o hb1 (by rw [g1 b (by simpa using hb2)]; exact q)) (fun b hb => by
                rcases List.mem_cons.mp hb with z | z
                · rw [z]; exact fa'
                · have : b = kS := by simpa using z
                  rw [this]; exact fk')
              exact ⟨.ref a, _, Inv.track (o := .lst outV) I3 fa' h0A ⟨by rw [olen]; exact hc.2, _, c, ov, n3⟩, rfl, Post.newLst hr' fa'.1 orep po2⟩
          · exact (show False from po2).elim
        · exact (show False from po2).elim
  · exact (show False from po).elim
end
end Led
/-! LedExc: raise, try. -/
namespace Led
open PySem L2

theorem XRep.ext {K : PySem.W.Frag} {ct : CTab} {m m' : Mp} {H H' : Hp} {x : Exc} {cls : Value} {d : Option Addr} (e : Ext m H m' H') (r : XRep K ct m H x cls d) : XRep K ct m' H' x cls d := by
  obtain ⟨e1, r⟩ := r
  refine ⟨e1, ?_⟩
  rcases r with r | ⟨da, vs, e2, e3, n, rf⟩
  · exact .inl r
  · obtain ⟨h1, n1⟩ := e.fix _ _ e3 n
    exact .inr ⟨da, vs, e2, h1, n1, rf.ext e⟩

/-! ### raise -/
abbrev AX := AEnv → AH → Res Exc
def RM (K : PySem.W.Frag) (ct : CTab) (W : WX) (f : AX) : St → Hp → XK → Prop := fun σ H Q => ∃ m A h, HR K ct m h H ∧ EnvR K ct m H A σ ∧
  Post K ct m H W σ (f A h) fun x m' _ H' => ∀ cls d, XRep K ct m' H' x cls d → Q cls d H'
def SM (ct : CTab) (X : Cx) (W : WX) (e : Expr) (f : AX) : Prop := PMk X e (RM X.K ct W f)
def sRaise (f : AX) : AS := fun A h => (f A h).toS A fun x h1 => .exc x A h1
section
variable {ct : CTab} {X : Cx} {W : WX} {e : Expr} {f : AX} {pos : Pos}
theorem ss_raise (ok : CtxOk X W) (he : SM ct X W e f) (hc : X.calm = true := by rfl) : SS ct X W (.Raise (some e) none pos) (sRaise f) :=
  PS.imp (ps_raise hc ok.tk he) fun D σ H ⟨m, A, h, hr, en, po⟩ => ⟨m, A, h, hr, en, (SPost.ofE en po).imp fun x m1 h1 H1 e1 r1 p1 cls d xr => p1 m1 H1 σ cls d (Ext.refl _ _) r1 (en.ext e1) xr⟩
end
/-- names with values, the last one first -/
def zr {α : Type} : List Str → List α → List (Str × α) → List (Str × α)
  | n :: ns, d :: ds, acc => zr ns ds ((n, d) :: acc)
  | _, _, acc => acc
theorem RepF.zr {K : PySem.W.Frag} {ct : CTab} {m : Mp} {H : Hp} : ∀ (ns : List Str) {ds : List D} {vs : List V} {acc : List (Str × D)} {ac : List (Str × V)}, RepL K ct m H ds vs → RepF K ct m H acc ac → RepF K ct m H (zr ns ds acc) (zr ns vs ac)
  | [], _, _, _, _, _, r => by unfold Led.zr; exact r
  | _ :: _, _, _, _, _, .nil, r => by unfold Led.zr; exact r
  | _ :: ns, _, _, _, _, .cons a b, r => by unfold Led.zr; exact RepF.zr ns b (.cons a r)
/-- an exception's own __init__ that keeps its arguments under the names ns -/
def spXI (C : Addr) (ns : List Str) : Sp := fun vs H Q E => ∃ a ws, vs = .ref a :: ws ∧ ws.length = ns.length ∧ H a = some (exo a C none) ∧ ∀ d, H d = none → d ≠ a → Q .non (upd (upd H d (exd d (zr ns ws []))) a (exo a C (some d)))
section
variable {P : Program} {w : World} {K : PySem.W.Frag} {mg : Str → Option Value} {base : Heap}
structure XInit (P : Program) (w : World) (K : PySem.W.Frag) (mg : Str → Option Value) (base : Heap) (k : Nat) (C fI : Addr) (ns : List Str) : Prop where
  ok : ∃ fd ps, FnOk P w K mg base (L2.CX P w) k fI fd ps (spXI C ns) ∧ Binds K fd ps []
theorem upd_swap2 {H : Hp} {a d : Addr} {x y z : HO} (ne : d ≠ a) : upd (upd (upd H d x) a y) d z = upd (upd H d z) a y := by
  funext b
  by_cases hb : b = d
  · subst hb; rw [upd_same, upd_ne ne, upd_same]
  · rw [upd_ne hb]
    by_cases ha : b = a
    · subst ha; rw [upd_same, upd_same]
    · rw [upd_ne ha, upd_ne hb, upd_ne ha, upd_ne hb]
theorem xinit1 {x qual : Str} {st : Stmt} {f C : Addr} {fd : FuncData} {a b n : Str} {k : Nat} {p1 p2 p3 p4 : Pos} (F : Fun K x qual st f fd) (S : FnScope [a, b] [a, b] (defScope st)) (hb : Binds K fd [a, b] []) (T : OexC K C) (hno : PySem.W.findIn K (.ref C) n = some none)
    (hs : defBody st = [.Assign [.Attribute (.Name a p1) n p2] (.Name b p3) p4]) (ha : Loc (defScope st) a) (hb' : Loc (defScope st) b) (da : (a == ("__debug__" : Str)) = false := by decide) (db : (b == ("__debug__" : Str)) = false := by decide) (ca : (a == ("__classdict__" : Str)) = false := by decide) (cb : (b == ("__classdict__" : Str)) = false := by decide) :
    XInit P w K mg base (k + 1) C f [n] where
  ok := by
    refine ⟨fd, [a, b], F.okX S (fun vs H Q E h => by obtain ⟨_, ws, rfl, hl, _⟩ := h; simp only [List.length_cons] at hl ⊢; omega) (fun cdv A outer s H vs Q E hr h => ?_), hb⟩
    rw [hs]
    refine ⟨_, pss_one (ps_ost (pe_var (i := 0) rfl (by rcases ha with h | h; exact .inl h; exact .inr (.inl h)) da ca) (pe_var (i := 1) rfl (by rcases hb' with h | h; exact .inl h; exact .inr (.inl h)) db cb)), ?_⟩
    obtain ⟨e, ws, rfl, hl, he, q⟩ := h
    match ws, hl with
    | [y], _ =>
      refine ⟨y, rfl, .ref e, rfl, e, C, rfl, T, hno, .inl ⟨he, fun d hd hde => ?_⟩⟩
      exact q d hd hde
theorem xinit2 {x qual : Str} {st : Stmt} {f C : Addr} {fd : FuncData} {a b c n n2 : Str} {k : Nat} {p1 p2 p3 p4 q1 q2 q3 q4 : Pos} (F : Fun K x qual st f fd) (S : FnScope [a, b, c] [a, b, c] (defScope st)) (hb : Binds K fd [a, b, c] []) (T : OexC K C) (hno : PySem.W.findIn K (.ref C) n = some none) (hno2 : PySem.W.findIn K (.ref C) n2 = some none)
    (hs : defBody st = [.Assign [.Attribute (.Name a p1) n p2] (.Name b p3) p4, .Assign [.Attribute (.Name a q1) n2 q2] (.Name c q3) q4]) (ha : Loc (defScope st) a) (hb' : Loc (defScope st) b) (hc' : Loc (defScope st) c) (da : (a == ("__debug__" : Str)) = false := by decide) (db : (b == ("__debug__" : Str)) = false := by decide) (dc : (c == ("__debug__" : Str)) = false := by decide)
    (ca : (a == ("__classdict__" : Str)) = false := by decide) (cb : (b == ("__classdict__" : Str)) = false := by decide) (cc : (c == ("__classdict__" : Str)) = false := by decide) :
    XInit P w K mg base (k + 1) C f [n, n2] where
  ok := by
    have va : Vis (defScope st) a := by rcases ha with h | h; exact .inl h; exact .inr (.inl h)
    have vb : Vis (defScope st) b := by rcases hb' with h | h; exact .inl h; exact .inr (.inl h)
    have vc : Vis (defScope st) c := by rcases hc' with h | h; exact .inl h; exact .inr (.inl h)
    refine ⟨fd, [a, b, c], F.okX S (fun vs H Q E h => by obtain ⟨_, ws, rfl, hl, _⟩ := h; simp only [List.length_cons] at hl ⊢; omega) (fun cdv A outer s H vs Q E hr h => ?_), hb⟩
    rw [hs]
    refine ⟨_, pss_cons (ps_ost (pe_var (i := 0) rfl va da ca) (pe_var (i := 1) rfl vb db cb)) (pss_one (ps_ost (pe_var (i := 0) rfl va da ca) (pe_var (i := 2) rfl vc dc cc))), ?_⟩
    obtain ⟨e, ws, rfl, hl, he, q⟩ := h
    match ws, hl with
    | [y, z], _ =>
      refine ⟨y, rfl, .ref e, rfl, e, C, rfl, T, hno, .inl ⟨he, fun d hd hde => ?_⟩⟩
      refine ⟨z, rfl, .ref e, rfl, e, C, rfl, T, hno2, .inr ⟨d, [(n, y)], upd_same, by rw [upd_ne hde]; exact upd_same, by show 1 ≤ 900; decide, ?_⟩⟩
      have := q d hd hde
      rw [upd_swap2 hde]
      exact this
end
/-- c(args), kept under the names ns -/
def mkXA (c : Nat) (ns : List Str) (g : AA) : AX := fun A h => (g A h).bind fun ds h1 => if ds.length = ns.length ∧ ds.length ≤ 1000 then .ok ⟨c, zr ns ds []⟩ h1 else .stuck
section
variable {ct : CTab} {X : Cx} {W : WX} {e : Expr} {es : List Expr} {g : AA} {x : Str} {p pos : Pos} {k c : Nat} {f : Addr} {ns : List Str}
theorem sm_make (ok : CtxOk X W) (I : XInit X.prog X.w X.K X.mg X.base k (ct.ad c) f ns) (T : OexC X.K (ct.ad c)) (iC : PySem.W.findIn X.K (.ref (ct.ad c)) "__init__" = some (some (.ref f))) (tI : PySem.W.typeIn X.K (.ref f) = some (.type "function")) (hr : Room (k + 1) X.A)
    (hm : X.mg x = some (.ref (ct.ad c))) (ha : SA ct X W (e :: es) g) (hg : Gl X x := by rfl) (hdb : (x == ("__debug__" : Str)) = false := by decide)
    (he : starEach (e :: es) X.env = (false, eval e X.env) :: starEach es X.env := by rfl) (hpl : (backTo pos (starEach es X.env)).any (·.1) = false := by rfl) : SM ct X W (.Call (.Name x p) (e :: es) [] pos) (mkXA c ns g) := by
  obtain ⟨fd, ps, F, hb⟩ := I.ok
  intro pins s σ H Q I h
  refine pmk_oex (dvs := []) (ds := []) T iC tI F hr hb .nil (passes_call ok.tk (E := fun _ _ _ => False) fun _ _ _ _ z => z.elim) hg hm ha hdb he hpl pins s σ H Q I ?_
  obtain ⟨m, A, h, hr, en, po⟩ := h
  refine ⟨m, A, h, hr, en, po.bind.imp fun ds m1 h1 H1 e1 r1 p1 vs rvs => ?_⟩
  split at p1
  · rename_i hl
    refine ⟨by rw [← rvs.length]; exact hl.2, fun a ha => ⟨a, vs, by rw [List.append_nil], by rw [← rvs.length]; exact hl.1, upd_same, fun d hd hda => ?_⟩⟩
    have hd1 : H1 d = none := by rw [upd_ne hda] at hd; exact hd
    refine ⟨rfl, d, _, upd_same, by rw [upd_ne hda]; exact upd_same, hd1, ?_⟩
    have eq : upd (del (upd (upd (upd H1 a (exo a (ct.ad c) none)) d (exd d (zr ns vs []))) a (exo a (ct.ad c) (some d))) a) d (.xd (zr ns vs [])) = upd H1 d (.xd (zr ns vs [])) := by
      funext b
      by_cases hb : b = d
      · subst hb; rw [upd_same, upd_same]
      · rw [upd_ne hb, upd_ne hb]
        by_cases hba : b = a
        · subst hba; rw [del_same, ha]
        · rw [del_ne hba, upd_ne hba, upd_ne hb, upd_ne hba]
    rw [eq]
    exact p1 m1 _ (Ext.new r1 hd1) (r1.new hd1) _ _ ⟨rfl, .inr ⟨d, _, rfl, upd_same, r1.notIn hd1, (RepF.zr ns rvs .nil).ext (Ext.new r1 hd1)⟩⟩
  · exact (show False from p1).elim
end

/-! ### try -/
/-- what the suite of an except clause starts from: a, cls, d: the exception; i: the slot of its name -/
structure Cau (K : PySem.W.Frag) (ct : CTab) (a : Addr) (cls : Value) (d : Option Addr) (i : Nat) (x : Exc) (m : Mp) (σ : St) (H : Hp) : Prop where
  slot : σ[i]? = some (some (.ref a))
  rep : XRep K ct m H x cls d
def RXE (K : PySem.W.Frag) (ct : CTab) (a : Addr) (cls : Value) (d : Option Addr) (i : Nat) (x : Exc) (f : AE) : TE := fun σ H Q => ∃ m A h, HR K ct m h H ∧ EnvR K ct m H A σ ∧ Cau K ct a cls d i x m σ H ∧
  Post K ct m H W0 σ (f A h) fun d m' _ H' => ∀ v, Rep K ct m' H' d v → Q v H'
def RXA (K : PySem.W.Frag) (ct : CTab) (a : Addr) (cls : Value) (d : Option Addr) (i : Nat) (x : Exc) (f : AA) : TA := fun σ H Q => ∃ m A h, HR K ct m h H ∧ EnvR K ct m H A σ ∧ Cau K ct a cls d i x m σ H ∧
  Post K ct m H W0 σ (f A h) fun ds m' _ H' => ∀ vs, RepL K ct m' H' ds vs → Q vs H'
def RXS (K : PySem.W.Frag) (ct : CTab) (a : Addr) (cls : Value) (d : Option Addr) (i : Nat) (x : Exc) (f : AS) : TS := fun D σ H => ∃ m A h, HR K ct m h H ∧ EnvR K ct m H A σ ∧ Cau K ct a cls d i x m σ H ∧ SPost K ct m H W0 D (f A h)
/-- in the suite of an except clause whose classes are those of pc -/
structure SX (ct : CTab) (X : Cx) (pc : Nat → Prop) (i : Nat) (e : Expr) (f : Exc → AE) : Prop where
  run : ∀ (a : Addr) (oe : Obj) (cls : Value) (d : Option Addr) (pn : List (Addr × Obj)) (x : Exc), Zc cls d oe → (∃ vs, oe.data = .fields vs) → pc x.c → PE (X.suite a ((a, oe) :: pn)) e (RXE X.K ct a cls d i x (f x))
structure SXA (ct : CTab) (X : Cx) (pc : Nat → Prop) (i : Nat) (es : List Expr) (f : Exc → AA) : Prop where
  run : ∀ (a : Addr) (oe : Obj) (cls : Value) (d : Option Addr) (pn : List (Addr × Obj)) (x : Exc), Zc cls d oe → (∃ vs, oe.data = .fields vs) → pc x.c → PA (X.suite a ((a, oe) :: pn)) es (RXA X.K ct a cls d i x (f x))
structure SXS (ct : CTab) (X : Cx) (pc : Nat → Prop) (i : Nat) (st : List Stmt) (f : Exc → AS) : Prop where
  run : ∀ (a : Addr) (oe : Obj) (cls : Value) (d : Option Addr) (pn : List (Addr × Obj)) (x : Exc), Zc cls d oe → (∃ vs, oe.data = .fields vs) → pc x.c → PSs (X.suite a ((a, oe) :: pn)) st (RXS X.K ct a cls d i x (f x))
abbrev SuX (X : Cx) (P : Cx → Prop) : Prop := ∀ (a : Addr) (pn : List (Addr × Obj)), P (X.suite a pn)
def eXf (f : Str) : Exc → AE := fun x _ h => match x.fs.lookup f with
  | some v => .ok v h
  | none => .stuck
section
variable {ct : CTab} {X : Cx} {pc : Nat → Prop} {i : Nat} {e : Expr} {es : List Expr} {f : Exc → AE} {g : Exc → AA} {pos : Pos}
theorem sx_of {fe : AE} (h : SuX X fun Y => SE ct Y W0 e fe) : SX ct X pc i e fun _ => fe := ⟨fun a oe cls d pn x hz hf hp => PE.imp (h a ((a, oe) :: pn)) fun σ H Q ⟨m, A, h, hr, en, _, po⟩ => ⟨m, A, h, hr, en, po⟩⟩
theorem sx_fld (T : ∀ c, pc c → XfC X.K (ct.ad c)) {n y : Str} {p : Pos} (hno : ∀ c, pc c → PySem.W.findIn X.K (.ref (ct.ad c)) n = some none) (hN : X.N[i]? = some y := by rfl) (hv : Vis X.env.scope y := by first | exact Or.inl rfl | exact Or.inr (Or.inl rfl) | exact Or.inr (Or.inr rfl)) (hd : (y == ("__debug__" : Str)) = false := by decide)
    (hcd : (y == ("__classdict__" : Str)) = false := by decide) (hb : attributeBase (.Name y p) n X.env (eval (.Name y p) X.env) = eval (.Name y p) X.env := by rfl) : SX ct X pc i (.Attribute (.Name y p) n pos) (eXf n) :=
  ⟨fun a oe cls d pn x hz hf hp => PE.imp (pe_xf (T x.c hp) (hno x.c hp) hz hf (pe_var (i := i) hN hv hd hcd) hb) fun σ H Q ⟨m, A, h, hr, en, ca, po⟩ => by
    unfold eXf at po
    split at po
    · rename_i v ev
      obtain ⟨e1, r⟩ := ca.rep
      refine ⟨.ref a, ca.slot, rfl, e1, ?_⟩
      rcases r with r | ⟨da, vs, e2, e3, _, rf⟩
      · rw [r] at ev; cases ev
      · rcases RepF.look (f := n) rf with ⟨h1, _⟩ | ⟨d', u, h1, eu, ru⟩
        · rw [h1] at ev; cases ev
        · rw [h1] at ev; cases ev
          exact ⟨da, vs, u, e2, e3, eu, po m H (Ext.refl _ _) hr u ru⟩
    · exact (show False from po).elim⟩
theorem Cau.ext {K : PySem.W.Frag} {a : Addr} {cls : Value} {d : Option Addr} {x : Exc} {m m1 : Mp} {σ : St} {H H1 : Hp} (e : Ext m H m1 H1) (c : Cau K ct a cls d i x m σ H) : Cau K ct a cls d i x m1 σ H1 := ⟨c.slot, c.rep.ext e⟩
theorem sxa_nil : SXA ct X pc i [] fun _ => aNil := ⟨fun a oe cls d pn x hz hf hp => PA.imp pa_nil fun σ H Q ⟨m, A, h, hr, en, _, po⟩ => Post.vals (d := []) po hr .nil⟩
theorem sxa_cons (h1 : SX ct X pc i e f) (h2 : SXA ct X pc i es g) (hs : starEach (e :: es) X.env = (false, eval e X.env) :: starEach es X.env := by rfl) : SXA ct X pc i (e :: es) fun x => aCons (f x) (g x) :=
  ⟨fun a oe cls d pn x hz hf hp => PA.imp (pa_cons (h1.run a oe cls d pn x hz hf hp) (h2.run a oe cls d pn x hz hf hp) hs) fun σ H Q ⟨m, A, h, hr, en, ca, po⟩ => ⟨m, A, h, hr, en, ca, po.bind.imp fun d m1 h1 H1 e1 r1 p1 v rv =>
    ⟨m1, A, h1, r1, en.ext e1, ca.ext e1, (Post.bind p1).imp fun ds m2 h2 H2 e2 r2 p2 vs rvs => Post.vals (d := _ :: _) p2 r2 (.cons (rv.ext e2) rvs)⟩⟩⟩
theorem sx_tup {x1} (h : SXA ct X pc i es g) : SX ct X pc i (.Tuple es x1 pos) fun x => eTup (g x) :=
  ⟨fun a oe cls d pn x hz hf hp => PE.imp (pe_tup (h.run a oe cls d pn x hz hf hp)) fun σ H Q ⟨m, A, h, hr, en, ca, po⟩ => ⟨m, A, h, hr, en, ca, po.bind.imp fun ds m1 h1 H1 e1 r1 p1 vs rvs => by
    split at p1
    · rename_i hl
      exact ⟨by rw [← rvs.length]; exact hl, fun p hp => p1 m1 _ (Ext.new r1 hp) (r1.new hp) _ (.tup (.inl (.inl upd_same)) (rvs.ext (Ext.new r1 hp)))⟩
    · exact (show False from p1).elim⟩⟩
theorem sxs_of {st : List Stmt} {fs : AS} (h : SuX X fun Y => SSs ct Y W0 st fs) : SXS ct X pc i st fun _ => fs := ⟨fun a oe cls d pn x hz hf hp => PSs.imp (h a ((a, oe) :: pn)) fun D σ H ⟨m, A, h, hr, en, _, po⟩ => ⟨m, A, h, hr, en, po⟩⟩
theorem sxs_ret (he : SX ct X pc i e f) : SXS ct X pc i [.Return (some e) pos] fun x => sRet (f x) := ⟨fun a oe cls d pn x hz hf hp => PSs.imp (pss_one (ps_ret (he.run a oe cls d pn x hz hf hp))) fun D σ H ⟨m, A, h, hr, en, ca, po⟩ =>
  ⟨m, A, h, hr, en, ca, (SPost.ofE en po).imp fun a m1 h1 H1 e1 r1 p1 v rv => p1 m1 H1 v (Ext.refl m1 H1) r1 rv⟩⟩
theorem sxs_set (j : Nat) {y : Str} {pos' : Pos} (he : SX ct X pc i e f) (hN : X.N.Nodup) (hi : X.N[j]? = some y := by rfl) (hx : Loc X.env.scope y := by first | exact Or.inl rfl | exact Or.inr rfl)
    (hs : swapsWith e (some (.Name y pos')) pos.line X.env = pure false := by rfl) (hf : X.fn y = true ∨ X.env.scope.names.lookup y = some .local := by first | exact .inl rfl | exact .inr rfl | assumption) :
    SXS ct X pc i [.Assign [.Name y pos'] e pos] fun x => sSet j (f x) := ⟨fun a oe cls d pn x hz hfv hp => PSs.imp (pss_one (ps_set (i := j) hN hi hx (he.run a oe cls d pn x hz hfv hp) hs hf)) fun D σ H ⟨m, A, h, hr, en, ca, po⟩ =>
  ⟨m, A, h, hr, en, ca, (SPost.ofE en po).imp fun a m1 h1 H1 e1 r1 p1 v rv => p1 m1 H1 _ (Ext.refl m1 H1) r1 ((en.ext e1).set j rv)⟩⟩
end
def sTry (body : AS) (isx : Nat → Option Bool) (i : Nat) (sx : Exc → AS) : AS := fun A h => match body A h with
  | .exc x A' h' => match isx x.c with
    | some true => if i < A'.length then match sx x (A'.set i none) h' with
      | .next A2 h2 => .next (A2.set i none) h2
      | .brk A2 h2 => .brk (A2.set i none) h2
      | .cont A2 h2 => .cont (A2.set i none) h2
      | .ret d h2 => .ret d h2
      | _ => .stuck
      else .stuck
    | some false => .exc x A' h'
    | none => .stuck
  | r => r
section
variable {ct : CTab} {X : Cx} {W : WX} {x n : Str} {c : Value} {i : Nat} {body suite : List Stmt} {b₀ : Stmt} {np pos pos' : Pos} {fb : AS} {fx : Exc → AS} {isx : Nat → Option Bool}
theorem EnvR.set1 {K : PySem.W.Frag} {m : Mp} {H : Hp} {A : AEnv} {σ : St} {v : V} (en : EnvR K ct m H A σ) (i : Nat) : EnvR K ct m H (A.set i none) (σ.set i (some v)) := by
  refine ⟨by rw [List.length_set, List.length_set]; exact en.1, fun j e h => ?_⟩
  by_cases hj : i = j
  · subst hj
    by_cases hl : i < A.length
    · rw [List.getElem?_set_self hl] at h
      cases h
    · rw [List.getElem?_eq_none (by rw [List.length_set]; omega)] at h
      cases h
  · rw [List.getElem?_set_ne hj] at h
    obtain ⟨w, q, rw'⟩ := en.2 j e h
    exact ⟨w, by rw [List.getElem?_set_ne hj]; exact q, rw'⟩
theorem ss_try (ok : CtxOk X W) (hN : X.N.Nodup) (his : ∀ k b, isx k = some b → PySem.W.exmOne X.K (.ref (ct.ad k)) c = some b) (hc : Names X x c)
    (hb : ∀ (W : WX) (pn : List (Addr × Obj)) (xe : Value → Shared → Prop), CtxOk (X.tr pn xe) W → SSs ct (X.tr pn xe) W body fb) (hsu : SXS ct X (fun k => isx k = some true) i (b₀ :: suite) fx)
    (hi : X.N[i]? = some n := by rfl) (hln : X.env.kindOf n = some .local := by rfl) (hs : X.stack = X.env :: X.outer := by rfl) (hf : X.env.frame = some X.env.locals := by rfl) :
    SS ct X W (.Try body [.ExceptHandler (some (.Name x np)) (some n) (b₀ :: suite) pos'] [] [] pos) (sTry fb isx i fx) := by
  refine PS.imp (ps_try_as (tb := fun W' => RS X.K ct W' fb) (ts := fun a cls d => fun D σ H => ∃ y, isx y.c = some true ∧ RXS X.K ct a cls d i y (fx y) D σ H) (Wout := W) hs hf hN hi hln hc ok.tk (fun W' pn xe tk po => hb W' pn xe ⟨tk, po⟩) (fun a oe cls d pn hz hfv => ⟨fun pins s σ H D I z => ?_⟩)) fun D σ H z => ?_
  · obtain ⟨y, hy, z⟩ := z
    exact (hsu.run a oe cls d pn y hz hfv hy).run pins s σ H D I z
  · obtain ⟨m, A, h, hr, en, po⟩ := z
    refine ⟨m, A, h, hr, en, ?_⟩
    unfold sTry at po
    cases eb : fb A h with
    | next A' h' => rw [eb] at po; exact po
    | ret d h' => rw [eb] at po; exact po
    | brk A' h' => rw [eb] at po; exact po
    | cont A' h' => rw [eb] at po; exact po
    | stuck => rw [eb] at po; exact po
    | exc y A' h' =>
      rw [eb] at po
      dsimp only at po
      intro m' H' σ' cls d ex hr' en' xr
      cases ei : isx y.c with
      | none => rw [ei] at po; exact po.elim
      | some b =>
        rw [ei] at po
        have he := his _ _ ei
        rw [← xr.1] at he
        refine ⟨b, he, fun hb1 a ha => ?_, fun hb1 => ?_⟩
        · subst hb1
          dsimp only at po
          split at po
          · rename_i hl
            refine ⟨y, ei, m', A'.set i none, h', hr', en'.set1 i, ⟨List.getElem?_set_self (by rw [← en'.1]; exact hl), xr⟩, ?_⟩
            have po' := SPost.later ex po
            cases ef : fx y (A'.set i none) h' with
            | next A2 h2 => rw [ef] at po'; exact fun m2 H2 σ2 e2 r2 en2 => po' m2 H2 _ e2 r2 (en2.unset i)
            | brk A2 h2 => rw [ef] at po'; exact fun m2 H2 σ2 e2 r2 en2 => po' m2 H2 _ e2 r2 (en2.unset i)
            | cont A2 h2 => rw [ef] at po'; exact fun m2 H2 σ2 e2 r2 en2 => po' m2 H2 _ e2 r2 (en2.unset i)
            | ret d h2 => rw [ef] at po'; exact po'
            | exc y2 A2 h2 => rw [ef] at po'; exact po'.elim
            | stuck => rw [ef] at po'; exact po'.elim
          · exact po.elim
        · subst hb1
          exact po m' H' σ' cls d ex hr' en' xr
end
end Led
/-! LedEq: == by an own __eq__. -/
namespace Led
open PySem L2
/-- the own == of the classes in the table -/
structure EqOk (X : Cx) (ct : CTab) (T : Tabs) (k : Nat) (mt : Nat → Option AF) (nf : Nat → Ty → Bool) : Prop where
  fn : ∀ c F, mt c = some F → ∃ f n, PySem.W.findIn X.K (.ref (ct.ad c)) "__eq__" = some (some (.ref f)) ∧ PySem.W.isFn X.K (.ref f) = true ∧ Fn X.prog X.w X.K X.mg X.base ct k f n F
  nf : ∀ c t, nf c t = true → PySem.W.notFirst X.K (ct.ad c) (tyV ct t) = true
def eqO (T : Tabs) (mt : Nat → Option AF) (nf : Nat → Ty → Bool) : D → D → AH → Res D := fun x y h => match insOf h x with
  | some (c, _) => match mt c, tyOf T h y with
    | some F, some t => if nf c t = true then (F [x, y] h).calm else .stuck
    | _, _ => .stuck
  | none => eqA x y h
/-- by an own __eq__ at f, with what it asks -/
def rOwnE (X : Cx) (k : Nat) : R2 := fun x y H Q => ∃ a C dx fs tb f fd ps sp, x = .ref a ∧ H a = some (.ins C dx fs) ∧ KitV X H y tb ∧ PySem.W.notFirst X.K C tb = true ∧ PySem.W.findIn X.K (.ref C) "__eq__" = some (some (.ref f)) ∧ PySem.W.isFn X.K (.ref f) = true ∧
  FnOk X.prog X.w X.K X.mg X.base (L2.CX X.prog X.w) k f fd ps sp ∧ Binds X.K fd ps [] ∧ sp [x, y] H Q (fun _ _ _ => False)
section
variable {X : Cx} {ct : CTab} {W : WX} {T : Tabs} {k : Nat} {mt : Nat → Option AF} {nf : Nat → Ty → Bool}
theorem op_ownE (hr : Room k X.A) : OpR X (compareOp .Eq) (rOwnE X k) := by
  intro pins s σ H x y v u Q I rx ry h
  obtain ⟨a, C, dx, fs, tb, f, fd, ps, sp, rfl, ha, ty, hn, hs, hf, F, hb, q⟩ := h
  cases (show v = Value.ref a from rx)
  obtain ⟨mA, J, _⟩ := ins_get I.hok ha
  obtain ⟨od, J, _⟩ := J.look
  obtain ⟨m, hF⟩ := I.fr
  obtain ⟨P, Z, p, _⟩ := kitV_of I ry ty
  show wpAny (model X.prog X.w) X.A (richCompare .Eq (.ref a) u) (EP X pins σ Q) X.xe s
  refine PySem.W.cmp_K (op := .Eq) (tb := tb) hr.units0 hF I.ok.mod.kin J (Z.ty _ _ I.kIn p) hn hs hf ?_
  refine wpAny_mono (run_fnS (us := [.ref a, u]) (vs := [.ref a, y]) (E := fun _ _ _ _ => False) F hr hb (passAt (W := fun _ _ _ _ => False) takes0 σ) I (.cons rfl (.cons ry .nil)) q) (fun w s' z => ?_) fun _ _ x => x
  obtain ⟨z', H', I', rz, qz⟩ := z
  exact SlX.cmpback rz ⟨z', H', I', rz, qz⟩
theorem op_eqO (hu : X.A.units + 64 < cLine) (hr : Room k X.A) : OpR X (compareOp .Eq) (fun x y H Q => rEqD X.K x y H Q ∨ rOwnE X k x y H Q) := (op_eqD hu).or (op_ownE hr)
theorem os_eqO (tk : TabOk X.K ct T) (eo : EqOk X ct T k mt nf) : OpS X.K ct (fun x y H Q => rEqD X.K x y H Q ∨ rOwnE X k x y H Q) (eqO T mt nf) := by
  intro m H h x y vx vy Q W σ hr rx ry p
  unfold eqO at p
  split at p
  · rename_i c fs ei
    split at p
    · rename_i F t eF et
      split at p
      · rename_i hnf
        obtain ⟨a, dx, vs, rfl, ea, rf⟩ := hr.ins ei rx
        obtain ⟨f, n, h1, h2, hf⟩ := eo.fn c F eF
        obtain ⟨fd, ps, hl, fo, hb⟩ := hf.ok
        have rl : RepL X.K ct m H [x, y] [.ref a, vy] := .cons rx (.cons ry .nil)
        have p' : Post X.K ct m H (fun _ _ _ _ => False) [] (F [x, y] h) fun d m' _ H' => ∀ v, Rep X.K ct m' H' d v → Q v H' := Post.calm p
        exact .inr ⟨a, ct.ad c, dx, vs, tyV ct t, f, fd, ps, _, rfl, ea, tyOf_kit tk hr et ry, eo.nf c t hnf, h1, h2, fo, hb, by rw [← rl.length]; exact hf.len _ _ p'.ne, m, h, [x, y], hr, rl, p'⟩
      · exact (show False from p).elim
    · exact (show False from p).elim
  · exact .inl (os_eq m H h x y vx vy Q W σ hr rx ry p)
end
end Led
/-! LedDict3: new dicts. -/
namespace Led
open PySem L2
def eDic0 : AE := fun _ h => .ok (.ref h.length) (h ++ [.dic []])
section
variable {X : Cx} {ct : CTab} {W : WX} {pos : Pos}
def tDNewR : TE := fun _ H Q => ∀ p, H p = none → Q (.ref p) (upd H p (rawD p []))
theorem pe_dnewR : PE X (.Dict [] [] pos) tDNewR := ⟨fun pins s σ H Q I h =>
  wpAny_Dict_empty ⟨.ref s.heap.objs.size, _, I.laid (a := s.heap.objs.size) (o := rawD s.heap.objs.size []) (t' := s.toks) (fun _ _ q => Heap.get?_push_of_some _ q) (Nat.le_refl _) (by
    have hb := I.big
    exact raw_ok (beq_eq_false_iff_ne.mpr (Ne.symm (Nat.ne_of_lt hb))) (Nat.zero_le _) (Heap.get?_push_size _ rfl) ⟨rfl, rfl, rfl⟩ rfl), rfl, h _ (I.hok.fresh (Nat.le_refl _))⟩⟩
theorem se_dic0 : SE ct X W (.Dict [] [] pos) eDic0 := PE.imp pe_dnewR fun σ H Q ⟨m, A, h, hr, en, po⟩ p hp =>
  Post.alloc (ao := .dic []) (o := rawD p []) hr hp (by intro z; cases z) ⟨[], upd_same, .nil, List.nodup_nil⟩ po
end
end Led
/-! LedMisc: chains of comparisons. -/
namespace Led
open PySem L2
def eChain (op op' : D → D → AH → Res D) (fa fb fc : AE) : AE := fun A h => (fa A h).bind fun x h1 => (fb A h1).bind fun y h2 => (op x y h2).bind fun d h3 => match d with
  | .bl true => (fc A h3).bind fun z h4 => op' y z h4
  | .bl false => .ok (.bl false) h3
  | _ => .stuck
section
variable {ct : CTab} {X : Cx} {W : WX} {a b c : Expr} {fa fb fc : AE} {r r' : R2} {op op' : D → D → AH → Res D} {pos : Pos}
theorem chain_imp {σ : St} {H : Hp} {Q : VK} (hs : OpS X.K ct r op) (hs' : OpS X.K ct r' op') (z : RE X.K ct W (eChain op op' fa fb fc) σ H Q) : tChain r r' (RE X.K ct W fa) (RE X.K ct W fb) (RE X.K ct W fc) σ H Q := by
  obtain ⟨m, A, h, hr, en, po⟩ := z
  refine ⟨m, A, h, hr, en, po.bind.imp fun x m1 h1 H1 e1 r1 p1 vx rx => ⟨m1, A, h1, r1, en.ext e1, (Post.bind p1).imp fun y m2 h2 H2 e2 r2 p2 vy ry => ?_⟩⟩
  refine hs m2 H2 h2 x y vx vy _ W σ r2 (rx.ext e2) ry ((Post.bind p2).imp fun d m3 h3 H3 e3 r3 p3 v rv => ?_)
  cases d with
  | bl k =>
    refine ⟨k, rv.blv, ?_⟩
    cases k with
    | true =>
      rw [if_pos rfl]
      refine ⟨m3, A, h3, r3, ((en.ext e1).ext e2).ext e3, (Post.bind p3).imp fun z m4 h4 H4 e4 r4 p4 vz rz => ?_⟩
      exact hs' m4 H4 h4 y z vy vz Q W σ r4 ((ry.ext e3).ext e4) rz p4
    | false =>
      rw [if_neg Bool.false_ne_true]
      exact Post.val (d := .bl false) p3 r3 .bl
  | _ => exact (show False from p3).elim
theorem se_chain {o o' : CmpOp} (ho : OpR X (compareOp o) r) (hs : OpS X.K ct r op) (ho' : OpR X (compareOp o') r') (hs' : OpS X.K ct r' op') (ha : SE ct X W a fa) (hb : SE ct X W b fb) (hc : SE ct X W c fc)
    (hm : lastMarks [o, o'] [b, c] = false := by with_unfolding_all rfl) : SE ct X W (.Compare a [o, o'] [b, c] pos) (eChain op op' fa fb fc) := PE.imp (pe_chain ho ho' ha hb hc hm) fun _ _ _ z => chain_imp hs hs' z
theorem st_chain {o o' : CmpOp} (ho : OpR X (compareOp o) r) (hs : OpS X.K ct r op) (ho' : OpR X (compareOp o') r') (hs' : OpS X.K ct r' op') (ha : SE ct X W a fa) (hb : SE ct X W b fb) (hc : SE ct X W c fc)
    (hm : lastMarks [o, o'] [b, c] = false := by with_unfolding_all rfl) : ST ct X W (.Compare a [o, o'] [b, c] pos) (tE (eChain op op' fa fb fc)) := PT.imp (pt_chain ho ho' ha hb hc hm) fun σ H Q z => by
  have z' : tB (RE X.K ct W (eChain op op' fa fb fc)) σ H Q := tE_imp z
  exact chain_imp hs hs' z'
end
end Led
namespace Led
open PySem L2
section
variable {ct : CTab} {X : Cx} {W : WX} {pos : Pos} {x : Str}
theorem se_gint {i : Int} (hm : ∃ t, X.mg x = some (.int i t)) (hg : Gl X x := by rfl) (hd : (x == ("__debug__" : Str)) = false := by decide) : SE ct X W (.Name x pos) (eC (.int i)) := by
  obtain ⟨t, hm⟩ := hm
  exact se_glob (v := .int i) hm ⟨t, rfl⟩ (fun _ _ => .int) hg hd
theorem se_gstr {i : Str} (hm : ∃ t, X.mg x = some (.str i t)) (hg : Gl X x := by rfl) (hd : (x == ("__debug__" : Str)) = false := by decide) : SE ct X W (.Name x pos) (eC (.str i)) := by
  obtain ⟨t, hm⟩ := hm
  exact se_glob (v := .str i) hm ⟨t, rfl⟩ (fun _ _ => .str) hg hd
end
def sPar (i j : Nat) (g : AA) : AS := fun A h => (g A h).toS A fun ds h1 => match ds with
  | [a, b] => .next ((A.set i (some a)).set j (some b)) h1
  | _ => .stuck
def sPar3 (i j l : Nat) (g : AA) : AS := fun A h => (g A h).toS A fun ds h1 => match ds with
  | [a, b, c] => .next (((A.set i (some a)).set j (some b)).set l (some c)) h1
  | _ => .stuck
section
variable {ct : CTab} {X : Cx} {W : WX} {pos px py pz pt : Pos} {x y z : Str} {a b c : Expr} {g : AA} {kt k2 pt2}
theorem ss_par (i j : Nat) (hN : X.N.Nodup) (ha : SA ct X W [a, b] g) (hc : X.calm = true := by rfl) (hi : X.N[i]? = some x := by rfl) (hj : X.N[j]? = some y := by rfl) (hij : i ≠ j := by decide)
    (hx : X.env.scope.names.lookup x = some .local := by rfl) (hy : X.env.scope.names.lookup y = some .local := by rfl)
    (hw : swappedStores [.Tuple [.Name x px, .Name y py] kt pt] (.Tuple [a, b] k2 pt2) X.env = pure (some [x, y]) := by rfl)
    (hs : swapsWithSole [.Tuple [.Name x px, .Name y py] kt pt] (.Tuple [a, b] k2 pt2) pos.line X.env = pure false := by rfl) :
    SS ct X W (.Assign [.Tuple [.Name x px, .Name y py] kt pt] (.Tuple [a, b] k2 pt2) pos) (sPar i j g) := PS.imp (ps_par hc hN hi hj hij hx hy ha hw hs) fun D σ H ⟨m, A, h, hr, en, po⟩ =>
  ⟨m, A, h, hr, en, (SPost.ofE en po).imp fun ds m1 h1 H1 e1 r1 p1 vs rvs => by
    split at p1
    · cases rvs with
      | cons ra rt => cases rt with
        | cons rb rt =>
          cases rt
          exact ⟨_, _, rfl, p1 m1 H1 _ (Ext.refl _ _) r1 (((en.ext e1).set i ra).set j rb)⟩
    · exact (show False from p1).elim⟩
theorem ss_par3 (i j l : Nat) (hN : X.N.Nodup) (ha : SA ct X W [a, b, c] g) (hc : X.calm = true := by rfl) (hi : X.N[i]? = some x := by rfl) (hj : X.N[j]? = some y := by rfl) (hl : X.N[l]? = some z := by rfl) (hij : i ≠ j := by decide) (hil : i ≠ l := by decide) (hjl : j ≠ l := by decide)
    (hx : X.env.scope.names.lookup x = some .local := by rfl) (hy : X.env.scope.names.lookup y = some .local := by rfl) (hz : X.env.scope.names.lookup z = some .local := by rfl)
    (hw : swappedStores [.Tuple [.Name x px, .Name y py, .Name z pz] kt pt] (.Tuple [a, b, c] k2 pt2) X.env = pure (some [x, y, z]) := by rfl)
    (hs : swapsWithSole [.Tuple [.Name x px, .Name y py, .Name z pz] kt pt] (.Tuple [a, b, c] k2 pt2) pos.line X.env = pure false := by rfl) :
    SS ct X W (.Assign [.Tuple [.Name x px, .Name y py, .Name z pz] kt pt] (.Tuple [a, b, c] k2 pt2) pos) (sPar3 i j l g) := PS.imp (ps_par3 hc hN hi hj hl hij hil hjl hx hy hz ha hw hs) fun D σ H ⟨m, A, h, hr, en, po⟩ =>
  ⟨m, A, h, hr, en, (SPost.ofE en po).imp fun ds m1 h1 H1 e1 r1 p1 vs rvs => by
    split at p1
    · cases rvs with
      | cons ra rt => cases rt with
        | cons rb rt => cases rt with
          | cons rc rt =>
            cases rt
            exact ⟨_, _, _, rfl, p1 m1 H1 _ (Ext.refl _ _) r1 ((((en.ext e1).set i ra).set j rb).set l rc)⟩
    · exact (show False from p1).elim⟩
end
theorem bt_len : bootBuiltins "len" = some (.builtin "len") := by decide +kernel
theorem bt_abs : bootBuiltins "abs" = some (.builtin "abs") := by decide +kernel
theorem bt_all : bootBuiltins "all" = some (.builtin "all") := by decide +kernel
theorem bt_any : bootBuiltins "any" = some (.builtin "any") := by decide +kernel
theorem bt_isinstance : bootBuiltins "isinstance" = some (.builtin "isinstance") := by decide +kernel
theorem bt_int : bootBuiltins "int" = some (.type "int") := by decide +kernel
theorem bt_bool : bootBuiltins "bool" = some (.type "bool") := by decide +kernel
theorem bt_str : bootBuiltins "str" = some (.type "str") := by decide +kernel
theorem bt_list : bootBuiltins "list" = some (.type "list") := by decide +kernel
theorem bt_tuple : bootBuiltins "tuple" = some (.type "tuple") := by decide +kernel
theorem bt_dict : bootBuiltins "dict" = some (.type "dict") := by decide +kernel
end Led
/-! LedM1: dicts asked and changed by methods, sorted, sum, index, fields at once. -/
namespace Led
open PySem L2
def dcOf (h : AH) : D → Option (List (D × D))
  | .ref n => match h[n]? with
    | some (.dic kvs) => some kvs
    | some (.fdc kvs) => some kvs
    | _ => none
  | _ => none
section
variable {K : PySem.W.Frag} {ct : CTab} {m : Mp} {H : Hp} {h : AH}
theorem HR.dc {d : D} {v : V} {kvs : List (D × D)} (hr : HR K ct m h H) (e : dcOf h d = some kvs) (r : Rep K ct m H d v) : ∃ a es, v = .ref a ∧ Rd H a (rawD a es) ∧ DRep K ct m H kvs es ∧ (kvs.map fun p => nkOf p.1).Nodup := by
  cases d with
  | ref n =>
    unfold dcOf at e
    dsimp only at e
    split at e
    · rename_i en
      cases e
      obtain ⟨a, rfl, _, es, eH, rl, nd⟩ := hr.at en (by intro z; cases z) r
      exact ⟨a, es, rfl, .inl eH, rl, nd⟩
    · rename_i en
      cases e
      obtain ⟨a, rfl, _, o, es, ep, eH, _, rl, nd⟩ := hr.at en (by intro z; cases z) r
      exact ⟨a, es, rfl, .inr ⟨o, eH⟩, rl, nd⟩
    · cases e
  | _ => cases e
end
/-! ### k in d -/
def inX : D → D → AH → Res D := fun x y h => match dcOf h y with
  | some kvs => if okKey kvs x = true then .ok (.bl (dfind kvs x).isSome) h else .stuck
  | none => inA x y h
def notInX : D → D → AH → Res D := fun x y h => match dcOf h y with
  | some kvs => if okKey kvs x = true then .ok (.bl (!(dfind kvs x).isSome)) h else .stuck
  | none => notInA x y h
def rInDc (K : PySem.W.Frag) (ct : CTab) (f : Bool → Bool) : R2 := fun x y H Q => ∃ m a es kvs k, y = .ref a ∧ Rd H a (rawD a es) ∧ DRep K ct m H kvs es ∧ (kvs.map fun p => nkOf p.1).Nodup ∧ okKey kvs k = true ∧ Rep K ct m H k x ∧ Q (.bl (f (dfind kvs k).isSome)) H
section
variable {X : Cx} {ct : CTab} {K : PySem.W.Frag}
theorem op_inDc (hu : X.A.units + 9 < cLine) (hw : ct.w = X.w) : OpR X (compareOp .In) (rInDc X.K ct id) := by
  intro pins s σ H x y v u Q I rx ry h
  obtain ⟨m, a, es, kvs, k, rfl, eH, rel, nd, ok, rk, q⟩ := h
  cases (show u = Value.ref a from ry)
  exact d_in' hu hw I eH rel nd ok rk rx fun s' I' => ⟨.bl _, H, I', rfl, q⟩
theorem op_notInDc (hu : X.A.units + 9 < cLine) (hw : ct.w = X.w) : OpR X (compareOp .NotIn) (rInDc X.K ct not) := by
  intro pins s σ H x y v u Q I rx ry h
  obtain ⟨m, a, es, kvs, k, rfl, eH, rel, nd, ok, rk, q⟩ := h
  cases (show u = Value.ref a from ry)
  exact d_notIn' hu hw I eH rel nd ok rk rx fun s' I' => ⟨.bl _, H, I', rfl, q⟩
theorem op_inX (hu : X.A.units + 65 < cLine) (hw : ct.w = X.w) : OpR X (compareOp .In) (fun x y H Q => rInA X.K x y H Q ∨ rInDc X.K ct id x y H Q) := (op_inA hu).or (op_inDc (by omega) hw)
theorem op_notInX (hu : X.A.units + 65 < cLine) (hw : ct.w = X.w) : OpR X (compareOp .NotIn) (fun x y H Q => rNotInA X.K x y H Q ∨ rInDc X.K ct not x y H Q) := (op_notInA hu).or (op_notInDc (by omega) hw)
theorem os_inX : OpS K ct (fun x y H Q => rInA K x y H Q ∨ rInDc K ct id x y H Q) inX := by
  intro m H h x y vx vy Q W σ hr rx ry p
  unfold inX at p
  split at p
  · rename_i kvs e
    split at p
    · rename_i ok
      obtain ⟨a, es, rfl, rd, rl, nd⟩ := hr.dc e ry
      exact .inr ⟨m, a, es, kvs, x, rfl, rd, rl, nd, ok, rx, Post.val p hr .bl⟩
    · exact (show False from p).elim
  · exact .inl (os_in m H h x y vx vy Q W σ hr rx ry p)
theorem os_notInX : OpS K ct (fun x y H Q => rNotInA K x y H Q ∨ rInDc K ct not x y H Q) notInX := by
  intro m H h x y vx vy Q W σ hr rx ry p
  unfold notInX at p
  split at p
  · rename_i kvs e
    split at p
    · rename_i ok
      obtain ⟨a, es, rfl, rd, rl, nd⟩ := hr.dc e ry
      exact .inr ⟨m, a, es, kvs, x, rfl, rd, rl, nd, ok, rx, Post.val p hr .bl⟩
    · exact (show False from p).elim
  · exact .inl (os_notIn m H h x y vx vy Q W σ hr rx ry p)
end
/-! ### methods of dicts -/
def eDM (F : AM) (fo : AE) (g : AA) : AE := fun A h => (fo A h).bind fun o h1 => if (dcOf h1 o).isSome = true then (g A h1).bind fun ds h2 => F o ds h2 else .stuck
def getDA : AM := fun o ds h => match ds with
  | [k, d] => match dcOf h o with
    | some kvs => if okKey kvs k = true then .ok ((dfind kvs k).getD d) h else .stuck
    | none => .stuck
  | _ => .stuck
def popDA : AM := fun o ds h => match o with
  | .ref n => match h[n]? with
    | some (.dic kvs) => match ds with
      | [k] => if okKey kvs k = true then match dfind kvs k with
          | some d => .ok d (h.set n (.dic (ddrop kvs k)))
          | none => .stuck
        else .stuck
      | [k, x] => if okKey kvs k = true then match dfind kvs k with
          | some d => .ok d (h.set n (.dic (ddrop kvs k)))
          | none => .ok x h
        else .stuck
      | _ => .stuck
    | _ => .stuck
  | _ => .stuck
/-- what the method's rule asks, by my own words -/
def rMt (K : PySem.W.Frag) (ct : CTab) (F : AM) : V → List V → Hp → VK → Prop := fun x xs H Q => ∃ m h o ds, HR K ct m h H ∧ Rep K ct m H o x ∧ RepL K ct m H ds xs ∧ Post K ct m H W0 [] (F o ds h) fun d m' _ H' => ∀ v, Rep K ct m' H' d v → Q v H'
section
variable {X : Cx} {ct : CTab} {W : WX} {o e : Expr} {es : List Expr} {fo : AE} {g : AA} {name : Str} {apos cpos : Pos} {id : String} {F : AM}
theorem se_dm (slot : Slot "dict" name id) (hty : typeOf (.builtin id) = pure (.type "method_descriptor")) (hm : MtR X id (rMt X.K ct F)) (ho : SE ct X W o fo) (ha : SA ct X W (e :: es) g) (hF : ∀ o ds h x h', F o ds h ≠ .exc x h')
    (hbase : attributeBase o name X.env (eval o X.env) = eval o X.env := by rfl)
    (hfew : ((backTo cpos (starEach (e :: es) X.env)).all (fun x => !x.1) && (backToKw cpos (keywordEach [] X.env)).all (fun x => x.1.isSome)
      && decide ((e :: es).length + ([] : List Keyword).length + (if ([] : List Keyword).isEmpty then 0 else 1) < 30)) = true := by rfl)
    (hline : (apos.endLine == cpos.line) = true := by rfl) (hs : starEach (e :: es) X.env = (false, eval e X.env) :: starEach es X.env := by rfl) (hplain : (backTo cpos (starEach es X.env)).any (·.1) = false := by rfl) :
    SE ct X W (.Call (.Attribute o name apos) (e :: es) [] cpos) (eDM F fo g) := by
  refine ⟨fun pins s σ H Q I z => ?_⟩
  obtain ⟨m, A, h, hr, en, po⟩ := z
  refine wpAny_Call_method_late hbase hfew hline rfl (thn (ho.run pins s σ H (fun x H1 => (∃ a es, x = .ref a ∧ Rd H1 a (rawD a es)) ∧ RA X.K ct W g σ H1 fun xs H2 => rMt X.K ct F x xs H2 Q) I ⟨m, A, h, hr, en, po.bind.imp fun x m1 h1 H1 e1 r1 p1 v rv => ?_⟩) fun v s1 ⟨x, H1, I1, r1, ⟨a, es', ex, rd⟩, q1⟩ => ?_)
  · split at p1
    · rename_i hd
      obtain ⟨kvs, ek⟩ := Option.isSome_iff_exists.mp hd
      obtain ⟨a, es', rfl, rd, _⟩ := r1.dc ek rv
      refine ⟨⟨a, es', rfl, rd⟩, m1, A, h1, r1, en.ext e1, (Post.bind p1).imp fun ds m2 h2 H2 e2 r2 p2 vs rvs => ⟨m2, h2, x, ds, r2, rv.ext e2, rvs, ?_⟩⟩
      cases q : F x ds h2 with
      | ok d h3 => rw [q] at p2; exact p2
      | exc x' h3 => exact (hF x ds h2 x' h3 q).elim
      | stuck => rw [q] at p2; exact p2
    · exact (show False from p1).elim
  · subst ex
    obtain rfl : v = Value.ref a := r1
    obtain ⟨_, _, ob, ep, h3, h4, _⟩ := d_raw I1 rd
    refine ⟨"dict", id, PySem.F.plainAttrs_dict, slot, hty, ⟨ob, h3, h4.1⟩, fun b eb => by cases eb; exact ⟨ob, h3, h4.2.1⟩, ?_⟩
    have hA := ha.run cpos pins s1 σ H1 _ I1 q1
    rw [hs] at hA ⊢
    refine Calls.callWith_builtin (by show (false || (backTo cpos (starEach es X.env)).any (·.1)) = false; rw [hplain] <;> rfl) (Calls.evalArgs_plain ?_)
    exact thn hA fun us s2 ⟨vs, H2, I2, r2, q2⟩ => hm pins s2 σ H2 (.ref a) vs (.ref a) us Q I2 rfl r2 q2
theorem getDA_nx : ∀ o ds h x h', getDA o ds h ≠ .exc x h' := fun o ds h x h' z => by
  unfold getDA at z
  split at z
  · split at z
    · split at z <;> cases z
    · cases z
  · cases z
theorem popDA_nx : ∀ o ds h x h', popDA o ds h ≠ .exc x h' := fun o ds h x h' z => by
  unfold popDA at z
  split at z
  · split at z
    · split at z
      · split at z
        · split at z <;> cases z
        · cases z
      · split at z
        · split at z <;> cases z
        · cases z
      · cases z
    · cases z
  · cases z
theorem mt_getD (hu : X.A.units + 9 < cLine) (hw : ct.w = X.w) : MtR X "dict.get" (rMt X.K ct getDA) := by
  intro pins s σ H x xs v us Q I rx rxs z
  obtain ⟨m, h, o, ds, hr, ro, rl, p⟩ := z
  unfold getDA at p
  split at p
  · rename_i k d
    split at p
    · rename_i kvs e
      split at p
      · rename_i ok
        obtain ⟨a, es, rfl, rd, rel, nd⟩ := hr.dc e ro
        cases (show v = Value.ref a from rx)
        cases rl with
        | cons r1 t1 => cases t1 with
          | cons r2 t2 =>
            cases t2
            cases rxs with
            | cons x1 y1 => cases y1 with
              | cons x2 y2 =>
                cases y2
                exact d_get2' hu hw I rd rel nd ok r1 x1 r2 x2 fun v r' s' I' rv rp => ⟨v, H, I', rv, Post.val p hr rp⟩
      · exact (show False from p).elim
    · exact (show False from p).elim
  · exact (show False from p).elim
theorem SV.drop {K : PySem.W.Frag} {m : Mp} {H : Hp} {kvs : List (D × D)} {vs : List (Key × Value)} {k : D} {kk : Key} (hk : kOf k = some kk) (r : SV K ct m H kvs vs) : SV K ct m H (ddrop kvs k) (without vs kk) := by
  unfold ddrop without
  refine pr_filter (fun a b q => ?_) r
  rw [SV.same hk q.1]
  by_cases z : b.1 = kk
  · simp [z]
  · simp [z]
theorem TV.drop {K : PySem.W.Frag} {m : Mp} {H : Hp} {kvs : List (D × D)} {xs : List (NestedKey × Addr × Value)} {k : D} {kk : NestedKey} (hk : nkOf k = some kk) (r : TV K ct m H kvs xs) : TV K ct m H (ddrop kvs k) (withoutH xs kk) := by
  unfold ddrop withoutH
  refine pr_filter (fun a b q => ?_) r
  rw [TV.same hk q.1]
  by_cases z : b.1 = kk
  · simp [z]
  · simp [z]
theorem ddrop_len (kvs : List (D × D)) (k : D) : (ddrop kvs k).length ≤ kvs.length := List.length_filter_le _ _
theorem d_pop' {pins : List (Addr × Obj)} {σ : St} {H : Hp} {s : Shared} {A : Around} {E : Value → Shared → Prop} {Q : Value → Shared → Prop} {m : Mp} {h : AH} {n : Nat} {a : Addr} {kvs : List (D × D)} {es : List DictEntry} {k d : D} {vk : V} {u : Value} {more : List Value} (hmore : more = [] ∨ ∃ x, more = [x]) (hu : A.units + 9 < cLine) (hw : ct.w = X.w) (I : Inv X pins σ H s) (hr : HR X.K ct m h H) (ea : m[n]? = some (some a)) (eH : H a = some (rawD a es)) (rel : DRep X.K ct m H kvs es)
    (nd : (kvs.map fun p => nkOf p.1).Nodup) (ok : okKey kvs k = true) (rk : Rep X.K ct m H k vk) (ru : RelV vk u) (hf : dfind kvs k = some d)
    (hq : ∀ v r H' s', Inv X pins σ H' s' → HR X.K ct m (h.set n (.dic (ddrop kvs k))) H' → Ext m H m H' → RelV v r → Rep X.K ct m H' d v → Q r s') : wpAny (model X.prog X.w) A (call (.builtin "dict.pop") (.ref a :: u :: more)) Q E s := by
  have eR : Rd H a (rawD a es) := .inl eH
  have hs := (d_raw I eR).1
  have lz := (d_raw I eR).2.1
  have ekl : kvs.length = es.length := paired_len rel
  have nt : ∀ xs, ¬ Rd H a (.tup xs) := raw_ntup eH
  have hargs : argsOk "dict.pop" ⟨.ref a :: u :: more, []⟩ := by
    rcases hmore with q | ⟨x, q⟩
    · subst q; exact PySem.F.args_dict_pop_2 _ _
    · subst q; exact PySem.F.args_dict_pop_3 _ _ _
  have fin : ∀ {h' : Heap} {es' : List DictEntry} {o : Obj} {ep t' : Nat} {v : V} {r : Value}, Heap.SameBut a s.heap h' → h'.get? a = some o → o.ExactDict → o.data = .dict es'.toArray ep → es'.length ≤ sizeLine → DRep X.K ct m (upd H a (rawD a es')) (ddrop kvs k) es' → RelV v r → Rep X.K ct m H d v → Q r { s with heap := h', toks := t' } := fun {h' es' o ep t' v r} sb ho hx hd hl' rel' rv rp => by
    have I' : Inv X pins σ (upd H a (rawD a es')) { s with heap := h', toks := t' } := d_write I (raw_mut eH) sb ⟨o, ho⟩ (raw_ok hs hl' ho hx hd)
    obtain ⟨hr', ex⟩ := hr.upd (o := rawD a es') (ao := .dic (ddrop kvs k)) ea (by intro z; cases z) (NoFz.raw eH) ⟨es', upd_same, rel', ddrop_nd nd⟩
    exact hq v r _ _ I' hr' ex rv (rp.ext ex)
  rcases d_view hw I eR rel nd ok with ⟨kk, vs, hk, sv, dd⟩ | ⟨nk, xs, hn, hd, ht, tv, dd⟩
  · have lv : vs.length = kvs.length := (paired_len sv).symm
    rcases sv.find hk with ⟨h1, _⟩ | ⟨d', u', v', h1, h2, r1, r2⟩
    · rw [hf] at h1; cases h1
    · rw [hf] at h1; cases h1
      have ki := key_of_rel hk rk ru
      have hp : (keyPart u).isSome = true := by
        rw [rep_k hk rk] at ru
        cases kk with
        | inl i => obtain ⟨t, q⟩ := (show ∃ t, u = Value.int i t from ru); subst q; rfl
        | inr x => obtain ⟨t, q⟩ := (show ∃ t, u = Value.str x t from ru); subst q; rfl
      refine call_meetsIn PySem.F.slot_dict_pop dd.typeIs PySem.F.entry_dict_pop hargs (meets_dict_pop_there (mixKind X.prog X.w) a ki more hmore hp) ⟨vs, u', dd, by omega, h2, fun h' dd' sb => ?_⟩
      obtain ⟨o, es', ep, ho, hx, hd, ks, ps, nd'⟩ := dd'
      have sv' := sv.drop hk
      have ll : es'.toList.length = (ddrop kvs k).length := by rw [ps.length]; exact (paired_len sv').symm
      refine fin (es' := es'.toList) sb ho hx (by rw [Array.toArray_toList]; exact hd) (by have := ddrop_len kvs k; omega) ?_ r1 r2
      refine SV.back (P := X.prog) (sv'.ext (Ext.upd n ea nt (NoFz.raw eH))) (by rw [hw]; exact ps) fun e he => ?_
      obtain ⟨k', a1, a2⟩ := ks e (by simpa using he)
      exact ⟨k', a1, by rw [hw]; exact a2⟩
  · obtain ⟨b, rfl, rfl, is⟩ := d_key I hn hd ht rk ru
    have lv : xs.length = kvs.length := (paired_len tv).symm
    rcases tv.find hn with ⟨h1, _⟩ | ⟨d', p, v', h1, h2, r1, r2⟩
    · rw [hf] at h1; cases h1
    · rw [hf] at h1; cases h1
      refine call_meetsIn PySem.F.slot_dict_pop dd.typeIs PySem.F.entry_dict_pop hargs (meetsH_dict_pop (nestedKind X.prog X.w) a b hs more hmore) ⟨d_room hu, nk, xs, is, dd, by omega, fun q hq' h' dd' sb => ?_, fun z => (by rw [h2] at z; cases z)⟩
      rw [h2] at hq'
      cases hq'
      obtain ⟨o, es', ep, ho, hx, hd', he, _, _⟩ := dd'
      have tv' := tv.drop hn
      have ll : es'.toList.length = (ddrop kvs k).length := by rw [he, List.length_map]; exact (paired_len tv').symm
      refine fin (es' := es'.toList) sb ho hx (by rw [Array.toArray_toList]; exact hd') (by have := ddrop_len kvs k; omega) ?_ r1 r2
      rw [he, ← hw]
      exact TV.back (P := X.prog) (tv'.ext (Ext.upd n ea nt (NoFz.raw eH)))
theorem d_popN' {pins : List (Addr × Obj)} {σ : St} {H : Hp} {s : Shared} {A : Around} {E : Value → Shared → Prop} {Q : Value → Shared → Prop} {m : Mp} {h : AH} {a : Addr} {kvs : List (D × D)} {es : List DictEntry} {k : D} {vk : V} {u r : Value} (hu : A.units + 9 < cLine) (hw : ct.w = X.w) (I : Inv X pins σ H s) (eH : Rd H a (rawD a es)) (rel : DRep X.K ct m H kvs es)
    (nd : (kvs.map fun p => nkOf p.1).Nodup) (ok : okKey kvs k = true) (rk : Rep X.K ct m H k vk) (ru : RelV vk u) (hf : dfind kvs k = none) (hq : ∀ s', Inv X pins σ H s' → Q r s') : wpAny (model X.prog X.w) A (call (.builtin "dict.pop") [.ref a, u, r]) Q E s := by
  have hs := (d_raw I eH).1
  have lz := (d_raw I eH).2.1
  have ekl : kvs.length = es.length := paired_len rel
  rcases d_view hw I eH rel nd ok with ⟨kk, vs, hk, sv, dd⟩ | ⟨nk, xs, hn, hd, ht, tv, dd⟩
  · rcases sv.find hk with ⟨h1, h2⟩ | ⟨d', u', v', h1, h2, r1, r2⟩
    · have ki := key_of_rel hk rk ru
      have hp : (keyPart u).isSome = true := by
        rw [rep_k hk rk] at ru
        cases kk with
        | inl i => obtain ⟨t, q⟩ := (show ∃ t, u = Value.int i t from ru); subst q; rfl
        | inr x => obtain ⟨t, q⟩ := (show ∃ t, u = Value.str x t from ru); subst q; rfl
      exact call_meetsIn PySem.F.slot_dict_pop dd.typeIs PySem.F.entry_dict_pop (PySem.F.args_dict_pop_3 _ _ _) (meets_dict_pop_default (mixKind X.prog X.w) a ki hs hp r) ⟨vs, dd, h2, hq _ (I.tok _)⟩
    · rw [hf] at h1; cases h1
  · obtain ⟨b, rfl, rfl, is⟩ := d_key I hn hd ht rk ru
    have lv : xs.length = kvs.length := (paired_len tv).symm
    rcases tv.find hn with ⟨h1, h2⟩ | ⟨d', p, v', h1, h2, r1, r2⟩
    · refine call_meetsIn PySem.F.slot_dict_pop dd.typeIs PySem.F.entry_dict_pop (PySem.F.args_dict_pop_3 _ _ _) (meetsH_dict_pop (nestedKind X.prog X.w) a b hs [r] (.inr ⟨r, rfl⟩)) ⟨d_room hu, nk, xs, is, dd, by omega, fun q hq' h' dd' sb => (by rw [h2] at hq'; cases hq'), fun _ tk => ⟨fun x e => (by cases e; exact hq _ (I.tok _)), fun e => (by cases e)⟩⟩
    · rw [hf] at h1; cases h1
theorem mt_popD (hu : X.A.units + 9 < cLine) (hw : ct.w = X.w) : MtR X "dict.pop" (rMt X.K ct popDA) := by
  intro pins s σ H x xs v us Q I rx rxs z
  obtain ⟨m, h, o, ds, hr, ro, rl, p⟩ := z
  unfold popDA at p
  split at p
  · rename_i n
    split at p
    · rename_i kvs en
      obtain ⟨a, rfl, ea, es, eH, rel, nd⟩ := hr.at en (by intro z; cases z) ro
      cases (show v = Value.ref a from rx)
      split at p
      · rename_i k
        split at p
        · rename_i ok
          split at p
          · rename_i d ed
            cases rl with
            | cons r1 t1 =>
              cases t1
              cases rxs with
              | cons x1 y1 =>
                cases y1
                exact d_pop' (.inl rfl) hu hw I hr ea eH rel nd ok r1 x1 ed fun v r H' s' I' hr' ex rv rp => ⟨v, H', I', rv, p m H' ex hr' v rp⟩
          · exact (show False from p).elim
        · exact (show False from p).elim
      · rename_i k y
        split at p
        · rename_i ok
          cases rl with
          | cons r1 t1 => cases t1 with
            | cons r2 t2 =>
              cases t2
              cases rxs with
              | cons x1 y1 => cases y1 with
                | cons x2 y2 =>
                  cases y2
                  split at p
                  · rename_i d ed
                    exact d_pop' (.inr ⟨_, rfl⟩) hu hw I hr ea eH rel nd ok r1 x1 ed fun v r H' s' I' hr' ex rv rp => ⟨v, H', I', rv, p m H' ex hr' v rp⟩
                  · rename_i ed
                    exact d_popN' (h := h) hu hw I (.inl eH) rel nd ok r1 x1 ed fun s' I' => ⟨_, H, I', x2, Post.val p hr r2⟩
        · exact (show False from p).elim
      · exact (show False from p).elim
    · exact (show False from p).elim
  · exact (show False from p).elim
/-! ### list(d), sorted, sum -/
def listXA : AF := fun ds h => match ds with
  | [d] => match dcOf h d with
    | some kvs => .ok (.ref h.length) (h ++ [.lst (kvs.map (·.1))])
    | none => listA [d] h
  | _ => .stuck
def rListD (K : PySem.W.Frag) (ct : CTab) : List V → Hp → VK → Prop := fun xs H Q => ∃ m a es kvs, xs = [.ref a] ∧ Rd H a (rawD a es) ∧ DRep K ct m H kvs es ∧ ∀ Vx p, RepL K ct m H (kvs.map (·.1)) Vx → H p = none → Q (.ref p) (upd H p (.lst Vx))
theorem call_listR (hc : X.calm = true) : CallR X (.type "list") (rListD X.K ct) := by
  intro pins s σ H xs us Q I r z
  obtain ⟨m, a, es, kvs, rfl, rd, rel, q⟩ := z
  obtain ⟨u, rfl, rx⟩ := vals1 r
  cases rx
  obtain ⟨h1, h2, ep, hm⟩ := raw_is I rd
  obtain ⟨Vx, rV, vV⟩ := rel.keyV
  refine PySem.W.kdl_call (PySem.KdlSrc.rawDict h1) (I.ok.hd hc) hm (by rw [List.size_toArray]; exact h2) fun h' tk acc c' hk hD hacc => ?_
  have ea := key_items hacc
  refine ⟨.ref s.heap.objs.size, upd H s.heap.objs.size (.lst Vx), I.laid (t' := tk) hk (Nat.le_refl _)
    (show ObjOk X.prog X.w _ _ _ (.lst Vx) from ⟨by rw [vV.length, List.length_map]; exact h2, acc.toList, c', by rw [ea]; exact vV, by rw [Array.toArray_toList]; exact hD⟩), rfl, q Vx _ rV (I.hok.fresh (Nat.le_refl _))⟩
theorem cs_listX {K : PySem.W.Frag} : CallS K ct (fun xs H Q => (∃ p ys, xs = [.ref p] ∧ (SqL K H p ys ∨ SqT K H p ys) ∧ ∀ l, H l = none → Q (.ref l) (upd H l (.lst ys))) ∨ rListD K ct xs H Q) listXA := by
  intro m H h ds vs Q W σ hr rl p
  unfold listXA at p
  split at p
  · rename_i d
    split at p
    · rename_i kvs e
      cases rl with
      | cons r t =>
        cases t
        obtain ⟨a, es, rfl, rd, rel, nd⟩ := hr.dc e r
        exact .inr ⟨m, a, es, kvs, rfl, rd, rel, fun Vx q rV hq => Post.newLst hr hq rV p⟩
    · exact .inl (cs_list m H h [d] vs Q W σ hr rl p)
  · exact (show False from p).elim
theorem call_listX (hc : X.calm = true) : CallR X (.type "list") (fun xs H Q => (∃ p ys, xs = [.ref p] ∧ (SqL X.K H p ys ∨ SqT X.K H p ys) ∧ ∀ l, H l = none → Q (.ref l) (upd H l (.lst ys))) ∨ rListD X.K ct xs H Q) := CallR.or call_list_of (call_listR hc)
theorem bt_sorted : bootBuiltins "sorted" = some (.builtin "sorted") := by decide +kernel
theorem bt_sum : bootBuiltins "sum" = some (.builtin "sum") := by decide +kernel
theorem bt_max : bootBuiltins "max" = some (.builtin "max") := by decide +kernel
theorem bt_min : bootBuiltins "min" = some (.builtin "min") := by decide +kernel
theorem bt_set : bootBuiltins "set" = some (.type "set") := by decide +kernel
def sortKC (F : AF) : AF := fun ds h => (sortKA F ds h).calm
theorem se_sortK {k : Nat} {f : Addr} {F : AF} {fn : Str} {fe : AE} {p p2 kp pos : Pos} (hf : Fn X.prog X.w X.K X.mg X.base ct k f 1 F) (hr : Room (k + 2) X.A) (hmf : X.mg fn = some (.ref f)) (hm : X.mg "sorted" = none) (he : SE ct X W e fe) (hg : Gl X "sorted" := by rfl) (hgf : Gl X fn := by rfl) (hdf : (fn == ("__debug__" : Str)) = false := by decide)
    (hs1 : starEach [e] X.env = (false, eval e X.env) :: starEach [] X.env := by rfl)
    (he1 : backTo pos (starEach [e] X.env) = (false, eval e X.env) :: backTo pos (starEach [] X.env) := by rfl) (hpl : (backTo pos (starEach [e] X.env)).any (·.1) = false := by rfl)
    (hall : (backToKw pos (keywordEach [⟨some "key", .Name fn p2, kp⟩] X.env)).all (·.1.isSome) = true := by rfl) (hnone : (backToKw pos (keywordEach [⟨some "key", .Name fn p2, kp⟩] X.env)).any (·.1.isNone) = false := by rfl) (hks : (backToKw pos (keywordEach [⟨some "key", .Name fn p2, kp⟩] X.env)).filterMap (·.1) = [Str.ofString "key"] := by rfl) :
    SE ct X W (.Call (.Name "sorted" p) [e] [⟨some "key", .Name fn p2, kp⟩] pos) (eCall (sortKC F) (aCons fe aNil)) := by
  obtain ⟨fd, ps, hl, fo, hb⟩ := hf.ok
  refine PE.imp (pe_callBK (cr_sortK fo hb hr hl) hg hm bt_sorted (sa_cons he sa_nil hs1) (pk_cons (pe_glob (v := .ref f) hgf hmf rfl hdf) pk_nil) (by decide) (by decide) he1 hpl hall hnone hks) fun σ H Q ⟨m, A, h, hr0, en, po⟩ => ⟨m, A, h, hr0, en, po.bind.imp fun ds m1 h1 H1 e1 r1 p1 vs rvs => ?_⟩
  refine ⟨rfl, ?_⟩
  have hd : ∃ d, ds = [d] := by
    unfold sortKC sortKA at p1
    split at p1
    · exact ⟨_, rfl⟩
    · exact (show False from p1).elim
  obtain ⟨d, rfl⟩ := hd
  cases rvs with
  | cons r t =>
    cases t
    exact ⟨m1, h1, d, _, rfl, r1, r, Post.calm p1⟩
def sortA : AF := fun ds h => match ds with
  | [d] => match seqX h d with
    | some xs => match pyL h xs with
      | some ps => if sortOk ps = true ∧ xs.length ≤ sizeLine then .ok (.ref h.length) (h ++ [.lst (sortBy xs ps)]) else .stuck
      | none => .stuck
    | none => .stuck
  | _ => .stuck
def rSortA (K : PySem.W.Frag) (ct : CTab) : List V → Hp → VK → Prop := fun vs H Q => ∃ m h d v, vs = [v] ∧ HR K ct m h H ∧ Rep K ct m H d v ∧ Post K ct m H W0 [] (sortA [d] h) fun d m' _ H' => ∀ v, Rep K ct m' H' d v → Q v H'
open PySem.W PySem.Calls PyProof.Rows in
theorem cr_sortA (hc : X.calm = true) (hu : X.A.units + 200 < cLine) : CallR X (.builtin "sorted") (rSortA X.K ct) := by
  intro pins s σ H vs us Q I r1 z
  obtain ⟨m, h, d, v, rfl, hrr, rd, po⟩ := z
  obtain ⟨u, rfl, ru⟩ := vals1 r1
  unfold sortA at po
  dsimp only at po
  split at po
  · rename_i xs ex
    split at po
    · rename_i qs eq
      split at po
      · rename_i hcc
        refine Calls.call_function_entry kind_sorted plain_sorted entry_sorted (args_sorted1 _) ?_
        unfold Builtin.«sorted»
        refine wpAny_bind (m := checkCount "sorted" 1 1 _) (wpAny_pure ?_)
        refine wpAny_bind (collect_ok (A := X.A.in1) (I.ok.hd hc) I hrr ex rd ru fun Vx vals h1 tk rV vV hz hk => ?_)
        have I1 : Inv X pins σ H { s with heap := h1, toks := tk } := I.kept hk
        refine wpAny_bind (wpAny_newList ?_ hz)
        have ho : (h1.push (seqObj "list" vals.toArray 0)).get? h1.objs.size = some (seqObj "list" vals.toArray 0) := Heap.get?_push_size _ rfl
        show wpAny _ _ _ _ _ { s with heap := h1.push (seqObj "list" vals.toArray 0), toks := tk }
        refine wpAny_bind (wpAny_holding (wpAny_call_entry slot_list_sort ⟨_, ho, rfl⟩ entry_list_sort ?body (args_list_sort _)))
        case body =>
          obtain ⟨hal, hsk⟩ := sortOk_ok hcc.1
          have kS : ∀ b o, h1.get? b = some o → (sortingHeap (h1.push (seqObj "list" vals.toArray 0)) h1.objs.size vals).get? b = some o := fun b o q => sortingHeap_old (Nat.ne_of_lt (Heap.lt_size q)) (Heap.get?_push_of_some _ q)
          have IS : Inv X pins σ H { s with heap := sortingHeap (h1.push (seqObj "list" vals.toArray 0)) h1.objs.size vals, toks := tk } := I.kept fun b o q => kS b o (hk b o q)
          have hkr := pyL_reads IS hrr eq rV vV
          have hql : qs.length = xs.length := pyL_len eq
          obtain ⟨outV, ov, orep, olen⟩ := sort_out3 rV vV hql hal hkr
          refine list_sort_vals (s := { s with heap := h1.push (seqObj "list" vals.toArray 0), toks := tk }) ho (SortsAt.data (A := X.A.in1.in1) hkr hal hsk fun q hq => ?_) hz ⟨_, rfl, wpAny_pure ⟨_, rfl, ?_⟩⟩
          · have hd := SeqAt.depth_of_shaped (pyL_depth eq q hq)
            show X.A.units + 1 + 1 + q.depth < cLine
            omega
          · obtain ⟨e', he'⟩ := sortedHeap_at (vs := vals) (out := (sortVals (dataKind (sortingHeap (h1.push (seqObj "list" vals.toArray 0)) h1.objs.size vals) qs) false vals vals).toArray) ho
            refine ⟨.ref h1.objs.size, upd H h1.objs.size (.lst outV), I1.laid (t' := tk) (fun b u e => ?_) (Nat.le_refl _) ⟨by rw [olen]; exact hcc.2, _, e', ov, he'⟩, rfl, Post.newLst hrr (I1.hok.fresh (Nat.le_refl _)) orep po⟩
            have hb : b < h1.objs.size := Heap.lt_size e
            rw [sortedHeap_old (Nat.ne_of_lt hb) (by rw [size_push']; exact Nat.lt_succ_of_lt hb)]
            exact Heap.get?_push_of_some _ e
      · exact (show False from po).elim
    · exact (show False from po).elim
  · exact (show False from po).elim
theorem sortA_nx : ∀ ds h x h', sortA ds h ≠ .exc x h' := fun ds h x h' z => by
  unfold sortA at z
  split at z
  · split at z
    · split at z
      · split at z <;> cases z
      · cases z
    · cases z
  · cases z
theorem cs_sortA {K : PySem.W.Frag} : CallS K ct (rSortA K ct) sortA := by
  intro m H h ds vs Q W σ hr rl p
  have hd : ∃ d, ds = [d] := by
    unfold sortA at p
    split at p
    · exact ⟨_, rfl⟩
    · exact (show False from p).elim
  obtain ⟨d, rfl⟩ := hd
  cases rl with
  | cons r t =>
    cases t
    refine ⟨m, h, d, _, rfl, hr, r, ?_⟩
    cases q : sortA [d] h with
    | ok d' h3 => rw [q] at p; exact p
    | exc x' h3 => exact (sortA_nx _ _ _ _ q).elim
    | stuck => rw [q] at p; exact p
def intsD : List D → Option (List Int)
  | [] => some []
  | .int i :: ds => (intsD ds).map (i :: ·)
  | _ => none
theorem ints_rep {K : PySem.W.Frag} {m : Mp} {H : Hp} : ∀ {xs : List D} {vs : List V} {bs : List Int}, intsD xs = some bs → RepL K ct m H xs vs → vs = bs.map V.int
  | [], _, _, e, r => by cases e; cases r; rfl
  | .int b :: xs, _, _, e, r => by
    obtain ⟨bs, e1, rfl⟩ := Option.map_eq_some_iff.mp (show (intsD xs).map (b :: ·) = some _ from e)
    cases r with
    | cons r t => cases r; rw [ints_rep e1 t]; rfl
  | .non :: _, _, _, e, _ => by cases e
  | .bl _ :: _, _, _, e, _ => by cases e
  | .str _ :: _, _, _, e, _ => by cases e
  | .tup _ :: _, _, _, e, _ => by cases e
  | .obj _ _ :: _, _, _, e, _ => by cases e
  | .ref _ :: _, _, _, e, _ => by cases e
  | .ty _ :: _, _, _, e, _ => by cases e
  | .cls _ :: _, _, _, e, _ => by cases e
def sumA : AF := fun ds h => match ds with
  | [.ref n] => match getL h n with
    | some xs => match intsD xs with
      | some ns => .ok (.int ns.sum) h
      | none => .stuck
    | none => .stuck
  | _ => .stuck
theorem cs_sum {K : PySem.W.Frag} : CallS K ct (rSum K) sumA := by
  intro m H h ds vs Q W σ hr rl p
  unfold sumA at p
  split at p
  · cases rl with
    | cons r t =>
      cases t
      split at p
      · rename_i xs ex
        split at p
        · rename_i bs eb
          obtain ⟨a, vs, rfl, _, rd, rl'⟩ := hr.getL ex r
          rw [ints_rep eb rl'] at rd
          exact ⟨a, bs, rfl, .inl rd, Post.val p hr .int⟩
        · exact (show False from p).elim
      · exact (show False from p).elim
  · exact (show False from p).elim
def max2A : AF := fun ds h => match ds with
  | [.int i, .int j] => .ok (.int (if j > i then j else i)) h
  | _ => .stuck
def min2A : AF := fun ds h => match ds with
  | [.int i, .int j] => .ok (.int (if j < i then j else i)) h
  | _ => .stuck
/-! ### xs.index(x) -/
def idx1 (p : PyData) : List PyData → Nat → Option Nat
  | [], _ => none
  | q :: qs, i => if PyData.eqv q p = true then some i else idx1 p qs (i + 1)
theorem idx1_ok {p : PyData} : ∀ {qs : List PyData} {i j : Nat}, idx1 p qs i = some j → ∃ k z, j = i + k ∧ qs[k]? = some z ∧ PyData.eqv z p = true ∧ ∀ (m : Nat) (z' : PyData), m < k → qs[m]? = some z' → PyData.eqv z' p = false
  | [], _, _, e => by cases e
  | q :: qs, i, j, e => by
    unfold idx1 at e
    split at e
    · rename_i h
      cases e
      exact ⟨0, q, rfl, rfl, h, fun m z' hm => by omega⟩
    · rename_i h
      obtain ⟨k, z, e1, e2, e3, e4⟩ := idx1_ok e
      refine ⟨k + 1, z, by omega, e2, e3, fun m z' hm hz => ?_⟩
      cases m with
      | zero =>
        cases hz
        cases q' : PyData.eqv q p with
        | false => rfl
        | true => exact (h q').elim
      | succ m => exact e4 m z' (by omega) hz
def indexA : AM := fun o ds h => match ds with
  | [y] => match py h o, py h y with
    | some (.list ps), some p => match idx1 p ps 0 with
      | some j => .ok (.int (j : Nat)) h
      | none => .stuck
    | _, _ => .stuck
  | _ => .stuck
theorem ms_index {K : PySem.W.Frag} : MtS K ct "list" (rIndexD K) indexA := by
  intro m H h x ds vx vs Q W σ hr rx rl p
  unfold indexA at p
  split at p
  · cases rl with
    | cons r t =>
      cases t
      split at p
      · rename_i ps q e1 e2
        split at p
        · rename_i j ej
          obtain ⟨da, sa⟩ := py_dp hr e1 rx
          obtain ⟨db, sb⟩ := py_dp hr e2 r
          obtain ⟨k, z, ek, e3, e4, e5⟩ := idx1_ok ej
          have : j = k := by omega
          subst this
          cases da with
          | lst sq al => exact ⟨_, _, q, ps, j, z, rfl, rfl, .lst sq al, db, sa, sb, e3, e4, e5, Post.val p hr .int⟩
        · exact (show False from p).elim
      · exact (show False from p).elim
  · exact (show False from p).elim
/-! ### o.f += n -/
def sFldAugA (T : Tabs) (f : Str) (g : Int → Int → Int) (fo fv : AE) : AS := fun A h => (fo A h).toS A fun o h1 => (fldA T f o h1).toS A fun v h2 => (fv A h2).toS A fun y h3 => match v, y with
  | .int i, .int j => match setFA T f o (.int (g i j)) h3 with
    | some h4 => .next A h4
    | none => .stuck
  | _, _ => .stuck
def rPlus (g : Int → Int → Int) : V → V → Hp → VK → Prop := fun x y H Q => ∃ i j, x = .int i ∧ y = .int j ∧ Q (.int (g i j)) H
theorem ss_fldaug {op : Operator} {gi : Int → Int → Int} {T : Tabs} {f : Str} {fe : AE} {tpos pos : Pos} (tk : TabOk X.K ct T) (hop : InOp X op (rPlus gi)) (ho : SE ct X W o fo) (he : SE ct X W e fe) : SS ct X W (.AugAssign (.Attribute o f tpos) op e pos) (sFldAugA T f gi fo fe) := by
  refine ⟨fun pins s σ H En I z => ?_⟩
  obtain ⟨m, A, h, hr, en, po⟩ := z
  refine wpAny_AugAssign_AttributeAny (thn (ho.run pins s σ H (fun x H1 => ∃ a C dx fs v, x = .ref a ∧ H1 a = some (.ins C dx fs) ∧ Cls X.K C ∧ NoAttr X.K C f ∧ fs.lookup f = some v ∧ RE X.K ct W fe σ H1 fun y H2 => ∃ i j C' dx' fs', v = .int i ∧ y = .int j ∧ H2 a = some (.ins C' dx' fs') ∧ Cls X.K C' ∧ NoAttr X.K C' f ∧ fs'.length < 1000 ∧ En.nx σ (upd H2 a (.ins C' dx' (putF f (.int (gi i j)) fs'))))
    I ⟨m, A, h, hr, en, (SPost.ofE en po).imp fun x m1 h1 H1 e1 r1 p1 vx rx => ?_⟩) fun ov s1 ⟨x, H1, I1, rx, a, C, dx, fs, v, ex, ea, c, n, l, q⟩ => ?_)
  · unfold fldA at p1
    split at p1
    · rename_i c fs ei
      split at p1
      · rename_i hc
        split at p1
        · rename_i dv ef
          obtain ⟨a, dx, vs, rfl, ea, rf⟩ := r1.ins ei rx
          rcases rf.look (f := f) with ⟨z1, _⟩ | ⟨d', v', z1, z2, r'⟩
          · rw [ef] at z1; cases z1
          · rw [ef] at z1
            cases z1
            refine ⟨a, _, dx, vs, v', rfl, ea, (tk.cls c hc.1).cl, tk.fld c f hc.2, z2, m1, A, h1, r1, en.ext e1, (SPost.ofE (en.ext e1) (show SPost X.K ct m1 H1 W En ((fe A h1).toS A _) from p1)).imp fun y m2 h2 H2 e2 r2 p2 vy ry => ?_⟩
            cases dv with
            | int i =>
              cases y with
              | int j =>
                dsimp only at p2
                cases (Rep.intv r')
                cases (Rep.intv ry)
                cases q3 : setFA T f x (.int (gi i j)) h2 with
                | none => rw [q3] at p2; exact (show False from p2).elim
                | some h4 =>
                  rw [q3] at p2
                  obtain ⟨a', C', dx', fs', e1', e2', c', nA', l', hr', ex'⟩ := setF_post tk r2 (rx.ext e2) (Rep.int (i := gi i j)) q3
                  cases e1'
                  exact ⟨i, j, C', dx', fs', rfl, rfl, e2', c', nA', l', p2 m2 _ σ ex' hr' (((en.ext e1).ext e2).ext ex')⟩
              | _ => exact (show False from p2).elim
            | _ => exact (show False from p2).elim
        · exact (show False from p1).elim
      · exact (show False from p1).elim
    · exact (show False from p1).elim
  · subst ex
    obtain rfl : ov = Value.ref a := rx
    refine getattr_ok I1 ea c n l fun u s2 I2 ru => thn (he.run pins s2 σ H1 _ I2 q) fun w3 s3 ⟨y, H2, I3, ry, i, j, C', dx', fs', ev, ey, ea', c', n', l', q3⟩ => ?_
    subst ev ey
    refine thn (hop pins s3 σ H2 (.int i) (.int j) u w3 (fun z H3 => z = .int (gi i j) ∧ H3 = H2) I3 ru ry ⟨i, j, rfl, rfl, rfl, rfl⟩) fun w4 s4 ⟨z, H3, I4, rz, ez, eH⟩ => ?_
    subst ez eH
    exact setattr_ok I4 ea' c' n' l' rz fun s5 I5 => ⟨σ, _, I5, q3⟩
theorem in_addI : InOp X .Add (rPlus fun i j => i + j) := in_add
theorem in_subI : InOp X .Sub (rPlus fun i j => i - j) := in_sub
end
/-! ### fields as targets -/
abbrev AGh := D → AEnv → AH → Option (AEnv × AH)
/-- targets that may write: names and fields, one behind the other -/
inductive Tgt where
  | nm (i : Nat) | fld (f : Str) (i : Nat)
def Tgt.put (T : Tabs) (t : Tgt) (d : D) (A : AEnv) (h : AH) : Option (AEnv × AH) := match t with
  | .nm i => some (A.set i (some d), h)
  | .fld f i => match A[i]? with
    | some (some o) => (setFA T f o d h).map fun h' => (A, h')
    | _ => none
def putAll (T : Tabs) : List Tgt → List D → AEnv → AH → Option (AEnv × AH)
  | [], [], A, h => some (A, h)
  | t :: ts, d :: ds, A, h => (t.put T d A h).bind fun p => putAll T ts ds p.1 p.2
  | _, _, _, _ => none
def sTgts (T : Tabs) (ts : List Tgt) (f : AE) : AS := fun A h => (f A h).toS A fun d h1 => match d with
  | .tup ds => match putAll T ts ds A h1 with
    | some (A', h') => .next A' h'
    | none => .stuck
  | _ => .stuck
section
variable {X : Cx} {ct : CTab} {W : WX} {T : Tabs}
def RTg (K : PySem.W.Frag) (ct : CTab) (T : Tabs) (t : Tgt) : TG := fun v σ H Q => ∃ m A h d, HR K ct m h H ∧ EnvR K ct m H A σ ∧ Rep K ct m H d v ∧ ∃ A' h', t.put T d A h = some (A', h') ∧ ∀ m' H' σ', Ext m H m' H' → HR K ct m' h' H' → EnvR K ct m' H' A' σ' → Q σ' H'
def RTgs (K : PySem.W.Frag) (ct : CTab) (T : Tabs) (ts : List Tgt) : TGs := fun vs σ H Q => ∃ m A h ds, HR K ct m h H ∧ EnvR K ct m H A σ ∧ RepL K ct m H ds vs ∧ ∃ A' h', putAll T ts ds A h = some (A', h') ∧ ∀ m' H' σ', Ext m H m' H' → HR K ct m' h' H' → EnvR K ct m' H' A' σ' → Q σ' H'
theorem tg_fld {x f : Str} {i : Nat} {p pos : Pos} (tk : TabOk X.K ct T) (hN : X.N[i]? = some x := by rfl) (hv : Vis X.env.scope x := by first | exact Or.inl rfl | exact Or.inr (Or.inl rfl) | exact Or.inr (Or.inr rfl)) (hd : (x == ("__debug__" : Str)) = false := by decide)
    (hcd : (x == ("__classdict__" : Str)) = false := by decide)
    (ha : ∀ v, assign (.Attribute (.Name x p) f pos) X.env v = (do
      let ov ← holding [v] (eval (.Name x p) X.env)
      standAt pos
      holding [v, ov] (setAttr ov f v)
      release [v, ov] []) := by intro _; rfl) : PG X (.Attribute (.Name x p) f pos) (RTg X.K ct T (.fld f i)) := by
  refine ⟨fun pins s σ H v u Q I r z => ?_⟩
  obtain ⟨m, A, h, d, hr, en, rd, A', h', e, q⟩ := z
  unfold Tgt.put at e
  dsimp only at e
  split at e
  · rename_i o eo
    obtain ⟨h2, e2, e3⟩ := Option.map_eq_some_iff.mp e
    cases e3
    obtain ⟨vo, hvo, ro⟩ := en.2 i o eo
    rw [ha]
    refine wpAny_bind (wpAny_holding (thn ((pe_var (X := X) (i := i) (pos := p) hN hv hd hcd).run pins s σ H (fun w H1 => w = vo ∧ H1 = H) I ⟨vo, hvo, rfl, rfl⟩) fun ov s1 ⟨w, H1, I1, r1, e4, e5⟩ => ?_))
    subst e4 e5
    obtain ⟨a, C, dx, fs, e6, e7, c, nA, l, hr', ex'⟩ := setF_post tk hr ro rd e2
    subst e6
    obtain rfl : ov = Value.ref a := r1
    refine wpAny_bind (wpAny_standAt (wpAny_bind (wpAny_holding (setattr_ok I1 e7 c nA l r fun s3 I3 => ?_))))
    exact wpAny_release ⟨σ, _, I3, q m _ σ ex' hr' (en.ext ex')⟩
  · cases e
theorem tgs_nil : PGs X [] (RTgs X.K ct T []) := PGs.imp pgs_nil fun v σ H Q ⟨m, A, h, ds, hr, en, r, A', h', e, q⟩ => by
  cases r with
  | nil => cases e; exact ⟨rfl, q m H σ (Ext.refl _ _) hr en⟩
  | cons _ _ => cases e
theorem tgs_cons {tg : Expr} {tgs : List Expr} {t : Tgt} {ts : List Tgt} (h1 : PG X tg (RTg X.K ct T t)) (h2 : PGs X tgs (RTgs X.K ct T ts)) (hs : (assignEach (tg :: tgs) X.env).map (·.2) = assign tg X.env :: (assignEach tgs X.env).map (·.2) := by rfl) : PGs X (tg :: tgs) (RTgs X.K ct T (t :: ts)) :=
  PGs.imp (pgs_cons h1 h2 hs) fun v σ H Q ⟨m, A, h, ds, hr, en, r, A', h', e, q⟩ => by
    cases r with
    | nil => cases e
    | @cons d0 v0 ds vs r0 rr =>
      obtain ⟨p1, e1, e2⟩ := Option.bind_eq_some_iff.mp (show (t.put T d0 A h).bind (fun p => putAll T ts ds p.1 p.2) = some (A', h') from e)
      exact ⟨v0, vs, rfl, m, A, h, d0, hr, en, r0, p1.1, p1.2, e1, fun m' H' σ1 ex1 hr1 en1 => ⟨m', p1.1, p1.2, ds, hr1, en1, rr.ext ex1, A', h', e2, fun m2 H2 σ2 ex2 hr2 en2 => q m2 H2 σ2 (ex1.trans ex2) hr2 en2⟩⟩
theorem ss_tgts {tgs : List Expr} {ts : List Tgt} {e : Expr} {fe : AE} {k n : Nat} {tp pos : Pos} (he : SE ct X W e fe) (hg : PGs X tgs (RTgs X.K ct T ts)) (hc : X.calm = true := by rfl) (hn : (assignEach tgs X.env).length = n := by rfl) (hst : (assignEach tgs X.env).findIdx? (·.1) = none := by rfl) (hln : ts.length = n := by rfl)
    (hs : swapsWithSole [.Tuple tgs k tp] e pos.line X.env = pure false := by rfl) (hw : swappedStores [.Tuple tgs k tp] e X.env = pure none := by rfl) (h1 : (assignEach [.Tuple tgs k tp] X.env).map (·.2) = [assign (.Tuple tgs k tp) X.env] := by rfl) : SS ct X W (.Assign [.Tuple tgs k tp] e pos) (sTgts T ts fe) :=
  PS.imp (ps_asg he (pg_tup hc hg hn hst) hs hw h1) fun En σ H ⟨m, A, h, hr, en, po⟩ => ⟨m, A, h, hr, en, (SPost.ofE en po).imp fun d m1 h1 H1 e1 r1 p1 v rv => by
    cases d with
    | tup ds =>
      cases rv with
      | @tup _ a vs s rl =>
        dsimp only at p1
        cases q : putAll T ts ds A h1 with
        | none => rw [q] at p1; exact (show False from p1).elim
        | some p =>
          rw [q] at p1
          have hl : ∀ {ts : List Tgt} {ds : List D} {A : AEnv} {h : AH} {p}, putAll T ts ds A h = some p → ds.length = ts.length := by
            intro ts
            induction ts with
            | nil => intro ds A h p e; cases ds with
              | nil => rfl
              | cons _ _ => cases e
            | cons t ts ih => intro ds A h p e; cases ds with
              | nil => cases e
              | cons d ds =>
                obtain ⟨p1, _, e2⟩ := Option.bind_eq_some_iff.mp (show (t.put T d A h).bind (fun p => putAll T ts ds p.1 p.2) = some p from e)
                rw [List.length_cons, List.length_cons, ih e2]
          exact ⟨a, vs, rfl, s, by rw [← rl.length, hl q, hln], m1, A, h1, ds, r1, en.ext e1, rl, p.1, p.2, q, fun m' H' σ' ex' hr' en' => p1 m' H' σ' ex' hr' en'⟩
    | _ => exact (show False from p1).elim⟩
end
end Led
/-! LedM2: tuples that the module keeps, unpacking of lists, a list held against [], dict displays. -/
namespace Led
open PySem L2
/-! ### tuples of the module -/
mutual
def tupB (K : PySem.W.Frag) : D → Value → Bool
  | .str x, .str y _ => x == y
  | .int x, .int y _ => decide (x = y)
  | .tup ds, .ref a => match K.lookup a with
    | some o => (match o.cls with
        | .type n => decide (n = "tuple")
        | _ => false) && (o.dict.isNone && (match o.data with
        | .seq its _ => decide (its.size ≤ 1000) && tupBL K ds its.toList
        | _ => false))
    | none => false
  | _, _ => false
def tupBL (K : PySem.W.Frag) : List D → List Value → Bool
  | [], [] => true
  | d :: ds, u :: us => tupB K d u && tupBL K ds us
  | _, _ => false
end
mutual
theorem tupB_rep {K : PySem.W.Frag} (ct : CTab) (m : Mp) (H : Hp) : ∀ (d : D) (u : Value), tupB K d u = true → ∃ v, RelV v u ∧ Rep K ct m H d v
  | .str x, u, e => by
    cases u with
    | str y t => have e : (x == y) = true := by simpa [tupB] using e
                 cases eq_of_beq e
                 exact ⟨.str x, ⟨t, rfl⟩, .str⟩
    | _ => simp [tupB] at e
  | .int x, u, e => by
    cases u with
    | int y t => have e : x = y := by simpa [tupB] using e
                 cases e
                 exact ⟨.int x, ⟨t, rfl⟩, .int⟩
    | _ => simp [tupB] at e
  | .tup ds, u, e => by
    cases u with
    | ref a =>
      unfold tupB at e
      cases q : K.lookup a with
      | none => rw [q] at e; cases e
      | some o =>
        rw [q] at e
        rw [Bool.and_eq_true, Bool.and_eq_true] at e
        obtain ⟨e1, e2, e3⟩ := e
        split at e1
        · rename_i n hc
          split at e3
          · rename_i its k hd
            rw [Bool.and_eq_true] at e3
            obtain ⟨vs, rv, rl⟩ := tupBL_rep ct m H ds its.toList e3.2
            have hn := of_decide_eq_true e1
            subst hn
            exact ⟨.ref a, rfl, .tup (.inr ⟨o, its, k, q, hc, hd, Nat.le_trans (of_decide_eq_true e3.1) (by decide), rv⟩) rl⟩
          · cases e3
        · cases e1
    | _ => simp [tupB] at e
  | .non, u, e => by simp [tupB] at e
  | .bl _, u, e => by simp [tupB] at e
  | .obj _ _, u, e => by simp [tupB] at e
  | .ref _, u, e => by simp [tupB] at e
  | .ty _, u, e => by simp [tupB] at e
  | .cls _, u, e => by simp [tupB] at e
theorem tupBL_rep {K : PySem.W.Frag} (ct : CTab) (m : Mp) (H : Hp) : ∀ (ds : List D) (us : List Value), tupBL K ds us = true → ∃ vs, Vals vs us ∧ RepL K ct m H ds vs
  | [], us, e => by
    cases us with
    | nil => exact ⟨[], .nil, .nil⟩
    | cons u us => simp [tupBL] at e
  | d :: ds, us, e => by
    cases us with
    | nil => simp [tupBL] at e
    | cons u us =>
      unfold tupBL at e
      rw [Bool.and_eq_true] at e
      obtain ⟨v, r1, r2⟩ := tupB_rep ct m H d u e.1
      obtain ⟨vs, r3, r4⟩ := tupBL_rep ct m H ds us e.2
      exact ⟨v :: vs, .cons r1 r3, .cons r2 r4⟩
end
/-- the place of a text in a tuple of texts -/
def idxS : List Str → Str → Option Nat
  | [], _ => none
  | y :: ys, z => if y == z then some 0 else (idxS ys z).map (· + 1)
theorem idxS_ok : ∀ {ys : List Str} {z : Str} {j : Nat}, idxS ys z = some j → ys[j]? = some z ∧ ∀ m, m < j → ys[m]? ≠ some z
  | [], z, j, e => by cases e
  | y :: ys, z, j, e => by
    unfold idxS at e
    split at e
    · rename_i hy
      cases e
      exact ⟨by rw [eq_of_beq hy]; rfl, fun m hm => by omega⟩
    · rename_i hy
      cases q : idxS ys z with
      | none => rw [q] at e; cases e
      | some i =>
        rw [q] at e
        cases e
        obtain ⟨h1, h2⟩ := idxS_ok q
        refine ⟨h1, fun m hm => ?_⟩
        cases m with
        | zero => intro z'; cases z'; exact hy (by simp)
        | succ m => exact h2 m (Nat.lt_of_succ_lt_succ hm)
def idxA (ys : List Str) : AF := fun ds h => match ds with
  | [.str z] => match idxS ys z with
    | some j => .ok (.int (j : Nat)) h
    | none => .stuck
  | _ => .stuck
section
variable {X : Cx} {ct : CTab} {W : WX} {pos apos cpos : Pos} {x : Str} {e : Expr} {fe : AE}
theorem se_gtup {d : D} {u : Value} (hm : X.mg x = some u) (ht : tupB X.K d u = true) (hg : Gl X x := by rfl) (hd : (x == ("__debug__" : Str)) = false := by decide) : SE ct X W (.Name x pos) (eC d) := by
  refine ⟨fun pins s σ H Q I z => ?_⟩
  obtain ⟨m, A, h, hr, en, po⟩ := z
  obtain ⟨v, rv, rp⟩ := tupB_rep ct m H d u ht
  exact (pe_glob hg hm rv hd).run pins s σ H Q I ((show Post X.K ct m H W σ (.ok d h) _ from po).here hr v rp)
theorem tupBL_strs {K : PySem.W.Frag} : ∀ {ys : List Str} {us : List Value}, tupBL K (ys.map .str) us = true → Vals (ys.map V.str) us
  | [], us, h => by
    cases us with
    | nil => exact .nil
    | cons u us => simp [tupBL] at h
  | y :: ys, us, h => by
    cases us with
    | nil => simp [tupBL] at h
    | cons u us =>
      simp only [List.map_cons] at h
      unfold tupBL at h
      rw [Bool.and_eq_true] at h
      cases u with
      | str z t =>
        have e : (y == z) = true := by simpa [tupB] using h.1
        cases eq_of_beq e
        exact .cons ⟨t, rfl⟩ (tupBL_strs h.2)
      | _ => simp [tupB] at h
theorem tupB_obj {K : PySem.W.Frag} {ys : List Str} {a : Addr} (h : tupB K (.tup (ys.map .str)) (.ref a) = true) : (∃ o, K.lookup a = some o ∧ o.cls = .type "tuple" ∧ o.dict = none) ∧ ∀ H, SqT K H a (ys.map V.str) := by
  unfold tupB at h
  cases q : K.lookup a with
  | none => rw [q] at h; cases h
  | some o =>
    rw [q] at h
    rw [Bool.and_eq_true, Bool.and_eq_true] at h
    obtain ⟨e1, e2, e3⟩ := h
    split at e1
    · rename_i n hc
      have hn := of_decide_eq_true e1
      subst hn
      split at e3
      · rename_i its k hd
        rw [Bool.and_eq_true] at e3
        exact ⟨⟨o, rfl, hc, Option.isNone_iff_eq_none.mp e2⟩, fun H => .inr ⟨o, its, k, q, hc, hd, Nat.le_trans (of_decide_eq_true e3.1) (by decide), tupBL_strs e3.2⟩⟩
      · cases e3
    · cases e1
theorem se_cidx {ys : List Str} {a : Addr} {p : Pos} (hm : X.mg x = some (.ref a)) (ht : tupB X.K (.tup (ys.map .str)) (.ref a) = true) (he : SE ct X W e fe) (hg : Gl X x := by rfl) (hd : (x == ("__debug__" : Str)) = false := by decide)
    (hbase : attributeBase (.Name x p) "index" X.env (eval (.Name x p) X.env) = eval (.Name x p) X.env := by rfl)
    (hfew : ((backTo cpos (starEach [e] X.env)).all (fun x => !x.1) && (backToKw cpos (keywordEach [] X.env)).all (fun x => x.1.isSome)
      && decide ([e].length + ([] : List Keyword).length + (if ([] : List Keyword).isEmpty then 0 else 1) < 30)) = true := by rfl)
    (hline : (apos.endLine == cpos.line) = true := by rfl) (hst : starEach [e] X.env = (false, eval e X.env) :: starEach [] X.env := by rfl) (hplain : (backTo cpos (starEach [] X.env)).any (·.1) = false := by rfl) :
    SE ct X W (.Call (.Attribute (.Name x p) "index" apos) [e] [] cpos) (eCall (idxA ys) (aCons fe aNil)) := by
  obtain ⟨ho, hs⟩ := tupB_obj ht
  refine PE.imp (pe_bm (T := "tuple") PySem.F.plainAttrs_tuple PySem.F.slot_tuple_index rfl mt_tup_index (pe_glob (v := .ref a) hg hm rfl hd) (sa_cons he sa_nil hst) hbase hfew hline hst hplain) fun σ H Q ⟨m, A, h, hr, en, po⟩ => ?_
  refine ⟨.inr (.inl ⟨rfl, ho⟩), m, A, h, hr, en, po.bind.imp fun ds m1 h1 H1 e1 r1 p1 vs rvs => ?_⟩
  unfold idxA at p1
  split at p1
  · rename_i z
    split at p1
    · rename_i j ej
      cases rvs with
      | cons ra rt =>
        cases rt
        cases ra
        obtain ⟨q1, q2⟩ := idxS_ok ej
        exact ⟨a, ys, z, j, rfl, rfl, hs H1, q1, q2, Post.val p1 r1 .int⟩
    · exact (show False from p1).elim
  · exact (show False from p1).elim
end
/-! ### unpacking of lists -/
def gTL (n : Nat) (gs : AGs) : AG := fun d A h => match d with
  | .ref k => match getL h k with
    | some ds => if ds.length = n then gs ds A h else none
    | none => none
  | _ => none
section
variable {X : Cx} {ct : CTab} {tgs : List Expr} {gs : AGs} {ws : List Nat} {pos : Pos}
theorem sg_lst {k n : Nat} (h : SGs ct X tgs gs ws) (hc : X.calm = true := by rfl) (hn : (assignEach tgs X.env).length = n := by rfl) (hst : (assignEach tgs X.env).findIdx? (·.1) = none := by rfl) : SG ct X (.Tuple tgs k pos) (gTL n gs) ws :=
  PG.imp (pg_lst hc h hn hst) fun v σ H Q ⟨m, A, h, d, hr, en, r, A', e, q⟩ => by
    unfold gTL at e
    split at e
    · split at e
      · rename_i ds eg
        split at e
        · rename_i hl
          obtain ⟨a, vs, rfl, _, rd, rl⟩ := hr.getL eg r
          exact ⟨a, vs, rfl, .inl rd, by rw [← rl.length]; exact hl, m, A, h, ds, hr, en, rl, A', e, q⟩
        · cases e
      · cases e
    · cases e
end
/-! ### a list held against [] -/
def neL (x y : D) (h : AH) : Res D := match x, y with
  | .ref a, .ref b => match getL h a, getL h b with
    | some (_ :: _), some [] => .ok (.bl true) h
    | _, _ => neA x y h
  | _, _ => neA x y h
def rNeL (K : PySem.W.Frag) : R2 := fun x y H Q => rNeD K x y H Q ∨ ∃ a b v vs, x = .ref a ∧ y = .ref b ∧ SqL K H a (v :: vs) ∧ SqL K H b [] ∧ Q (.bl true) H
section
variable {X : Cx} {ct : CTab}
theorem op_neL (hu : X.A.units + 64 < cLine) : OpR X (compareOp .NotEq) (rNeL X.K) := by
  refine (op_neD hu).or ?_
  intro pins s σ H x y v u Q I rx ry z
  obtain ⟨a, b, w, ws, rfl, rfl, ha, hb, q⟩ := z
  cases (show v = Value.ref a from rx)
  cases (show u = Value.ref b from ry)
  obtain ⟨i1, r1, p1, _⟩ := I.list ha
  obtain ⟨i2, r2, p2, _⟩ := I.list hb
  have l1 := r1.length
  have l2 := r2.length
  exact PySem.SeqAt.RcNeAt.lists_lengths p1.isList p2.isList (by simp only [List.size_toArray, ← l1, ← l2]; rfl) (by omega) X.prog X.w X.xe _ ⟨.bl true, H, I, rfl, q⟩
theorem os_neL {K : PySem.W.Frag} : OpS K ct (rNeL K) neL := by
  intro m H h x y vx vy Q W σ hr rx ry p
  unfold neL at p
  split at p
  · split at p
    · rename_i d ds ea eb
      obtain ⟨a, vs, rfl, _, rd, rl⟩ := hr.getL ea rx
      obtain ⟨b, vs', rfl, _, rd', rl'⟩ := hr.getL eb ry
      cases rl'
      cases rl with
      | cons r t => exact .inr ⟨a, b, _, _, rfl, rfl, .inl rd, .inl rd', Post.val p hr .bl⟩
    · exact .inl (os_ne m H h _ _ vx vy Q W σ hr rx ry p)
  · exact .inl (os_ne m H h _ _ vx vy Q W σ hr rx ry p)
end
end Led
/-! LedM3: dict displays, dict comprehensions. -/
namespace Led
open PySem L2
section
variable {X : Cx} {ct : CTab} {m : Mp} {h : AH} {pins : List (Addr × Obj)} {σ : St} {H : Hp} {s : Shared} {A : Around} {E : Value → Shared → Prop} {a : Addr} {n : Nat} {kvs : List (D × D)} {es : List DictEntry} {k : D} {vk : V} {u : Value}
theorem d_roomP (hu : A.units + 9 < cLine) : (nestedKind X.prog X.w).room A := by show A.units + 8 < cLine; omega
/-- a pair is put into a dict by a display or a comprehension -/
theorem d_put' {Q : Unit → Shared → Prop} {d : D} {vd : V} {r : Value} (hu : A.units + 9 < cLine) (hw : ct.w = X.w) (I : Inv X pins σ H s) (hr : HR X.K ct m h H) (ea : m[n]? = some (some a)) (eH : H a = some (rawD a es)) (rel : DRep X.K ct m H kvs es)
    (nd : (kvs.map fun p => nkOf p.1).Nodup) (ok : okKey kvs k = true) (hl : kvs.length < sizeLine) (rk : Rep X.K ct m H k vk) (ru : RelV vk u) (rd : Rep X.K ct m H d vd) (rr : RelV vd r)
    (hq : ∀ es' s', Inv X pins σ (upd H a (rawD a es')) s' → HR X.K ct m (h.set n (.dic (dput kvs k d))) (upd H a (rawD a es')) → Ext m H m (upd H a (rawD a es')) → Q () s') : wpAny (model X.prog X.w) A (dictSet a u r) Q E s := by
  have eR : Rd H a (rawD a es) := .inl eH
  have hs := (d_raw I eR).1
  have ekl : kvs.length = es.length := paired_len rel
  have nt : ∀ xs, ¬ Rd H a (.tup xs) := by
    obtain ⟨o0, e0, n0, r0⟩ := hr.live ea
    exact r0.some.choose_spec.2
  have fin : ∀ {h' : Heap} {es' : List DictEntry} {o : Obj} {ep t' : Nat}, Heap.SameBut a s.heap h' → h'.get? a = some o → o.ExactDict → o.data = .dict es'.toArray ep → es'.length ≤ sizeLine → DRep X.K ct m (upd H a (rawD a es')) (dput kvs k d) es' → Q () { s with heap := h', toks := t' } := fun {h' es' o ep t'} sb ho hx hd hl' rel' => by
    have I' : Inv X pins σ (upd H a (rawD a es')) { s with heap := h', toks := t' } := d_write I (raw_mut eH) sb ⟨o, ho⟩ (raw_ok hs hl' ho hx hd)
    obtain ⟨hr', ex⟩ := hr.upd (o := rawD a es') (ao := .dic (dput kvs k d)) ea (by intro z; cases z) (NoFz.raw eH) ⟨es', upd_same, rel', dput_nd nd⟩
    exact hq _ _ I' hr' ex
  rcases d_view hw I eR rel nd ok with ⟨kk, vs, hk, sv, dd⟩ | ⟨nk, xs, hn, hd, ht, tv, dd⟩
  · have lv : vs.length = kvs.length := (paired_len sv).symm
    refine wpAny_dictSet_pairs (hsz := by omega) (key_of_rel hk rk ru) dd fun h' dd' sb => ?_
    obtain ⟨o, es', ep, ho, hx, hd, ks, ps, nd'⟩ := dd'
    have sv' := sv.put hk rr rd
    have ll : es'.toList.length = (dput kvs k d).length := by rw [ps.length]; exact (paired_len sv').symm
    refine fin (es' := es'.toList) sb ho hx (by rw [Array.toArray_toList]; exact hd) (by have := dput_len kvs k d; omega) ?_
    refine SV.back (P := X.prog) (sv'.ext (Ext.upd n ea nt (NoFz.raw eH))) (by rw [hw]; exact ps) fun e he => ?_
    obtain ⟨k', a1, a2⟩ := ks e (by simpa using he)
    exact ⟨k', a1, by rw [hw]; exact a2⟩
  · obtain ⟨b, rfl, rfl, is⟩ := d_key I hn hd ht rk ru
    have lv : xs.length = kvs.length := (paired_len tv).symm
    refine wpAny_dictSet_heap (hsz := by omega) (d_roomP hu) is dd fun h' dd' sb => ?_
    obtain ⟨o, es', ep, ho, hx, hd', he, _, _⟩ := dd'
    have tv' := tv.put hn hd ht rk rr rd
    have ll : es'.toList.length = (dput kvs k d).length := by rw [he, List.length_map]; exact (paired_len tv').symm
    refine fin (es' := es'.toList) sb ho hx (by rw [Array.toArray_toList]; exact hd') (by have := dput_len kvs k d; omega) ?_
    rw [he, ← hw]
    exact TV.back (P := X.prog) (tv'.ext (Ext.upd n ea nt (NoFz.raw eH)))
end
/-! ### displays -/
def putL (n : Nat) : List D → AH → Option AH
  | [], h => some h
  | [_], _ => none
  | k :: v :: r, h => match h[n]? with
    | some (.dic kvs) => if okKey kvs k = true ∧ kvs.length < sizeLine then putL n r (h.set n (.dic (dput kvs k v))) else none
    | _ => none
def eDisp (g : AA) : AE := fun A h => (g A (h ++ [.dic []])).bind fun ds h1 => match putL h.length ds h1 with
  | some h2 => .ok (.ref h.length) h2
  | none => .stuck
def gP : List (AE × AE) → AA
  | [] => aNil
  | p :: r => aCons p.1 (aCons p.2 (gP r))
inductive RepP (K : PySem.W.Frag) (ct : CTab) (m : Mp) (H : Hp) : List D → List (V × V) → Prop
  | nil : RepP K ct m H [] []
  | cons {k v ds p ps} : Rep K ct m H k p.1 → Rep K ct m H v p.2 → RepP K ct m H ds ps → RepP K ct m H (k :: v :: ds) (p :: ps)
section
variable {X : Cx} {ct : CTab} {W : WX} {pos : Pos}
theorem RepP.ext {K : PySem.W.Frag} {m m' : Mp} {H H' : Hp} (e : Ext m H m' H') : ∀ {ds : List D} {ps : List (V × V)}, RepP K ct m H ds ps → RepP K ct m' H' ds ps
  | _, _, .nil => .nil
  | _, _, .cons a b c => .cons (a.ext e) (b.ext e) (c.ext e)
theorem pairs_imp {σ : St} {A : AEnv} : ∀ {l : List (AE × AE)} {m : Mp} {h : AH} {H : Hp} {R : List (V × V) → Hp → Prop} {P : List D → Mp → AH → Hp → Prop}, HR X.K ct m h H → EnvR X.K ct m H A σ → Post X.K ct m H W σ (gP l A h) P →
    (∀ ds m' h' H' ps, Ext m H m' H' → HR X.K ct m' h' H' → P ds m' h' H' → RepP X.K ct m' H' ds ps → R ps H') → tPairs (l.map fun p => (RE X.K ct W p.1, RE X.K ct W p.2)) σ H R
  | [], m, h, H, R, P, hr, en, po, q => q [] m h H [] (Ext.refl _ _) hr ((show Post X.K ct m H W σ (.ok [] h) P from po).here hr) .nil
  | p :: l, m, h, H, R, P, hr, en, po, q => by
    refine ⟨m, A, h, hr, en, (Post.bind po).imp fun x m1 h1 H1 e1 r1 p1 vx rx => ⟨m1, A, h1, r1, en.ext e1, ?_⟩⟩
    have p1 : Post X.K ct m1 H1 W σ ((aCons p.2 (gP l) A h1).bind fun ds h2 => .ok (x :: ds) h2) P := p1
    refine (Post.bind (Post.bind p1)).imp fun y m2 h2 H2 e2 r2 p2 vy ry => ?_
    have p2' : Post X.K ct m2 H2 W σ (gP l A h2) fun ds m' h' H' => P (x :: y :: ds) m' h' H' := by
      refine (Post.bind p2).imp fun ds m3 h3 H3 e3 r3 p3 => ?_
      exact ((show Post X.K ct m3 H3 W σ (.ok (y :: ds) h3) _ from p3).here r3) |> fun z => ((show Post X.K ct m3 H3 W σ (.ok (x :: y :: ds) h3) P from z).here r3)
    exact pairs_imp r2 ((en.ext e1).ext e2) p2' fun ds m3 h3 H3 ps e3 r3 z rp => q (x :: y :: ds) m3 h3 H3 ((vx, vy) :: ps) ((e1.trans e2).trans e3) r3 z (.cons (rx.ext (e2.trans e3)) (ry.ext e3) rp)
theorem put_all (hu : X.A.units + 9 < cLine) (hw : ct.w = X.w) {pins : List (Addr × Obj)} {σ : St} {D0 : Addr} {n : Nat} : ∀ {ds : List D} {ps : List (V × V)} {vs : List (Value × Value)} {m : Mp} {h h2 : AH} {H : Hp} {s : Shared}, Inv X pins σ H s → HR X.K ct m h H → Rep X.K ct m H (.ref n) (.ref D0) → RepP X.K ct m H ds ps → VV ps vs → putL n ds h = some h2 →
    ∀ (Q : PUnit → Shared → Prop), (∀ H' s', Inv X pins σ H' s' → HR X.K ct m h2 H' → Ext m H m H' → Q PUnit.unit s') →
    wpAny (model X.prog X.w) X.A (forIn vs PUnit.unit fun (x : Value × Value) (_ : PUnit) => (do dictSet D0 x.1 x.2; pure (ForInStep.yield PUnit.unit) : Sem (ForInStep PUnit))) Q X.xe s
  | _, _, _, m, h, h2, H, s, I, hr, rL, .nil, .nil, e, Q, q => by
    cases e
    rw [List.forIn_nil]
    exact wpAny_pure (q _ _ I hr (Ext.refl _ _))
  | _, _, _, m, h, h2, H, s, I, hr, rL, .cons rk rd rp, .cons rv rvs, e, Q, q => by
    unfold putL at e
    split at e
    · rename_i kvs ex
      split at e
      · rename_i ok
        obtain ⟨a, eb, ea, es, eH, rel, nd⟩ := hr.at ex (by intro z; cases z) rL
        cases eb
        rw [List.forIn_cons]
        refine wpAny_bind (wpAny_bind (d_put' hu hw I hr ea eH rel nd ok.1 ok.2 rk rv.1 rd rv.2 fun es' s' I' hr' ex' => wpAny_pure ?_))
        exact put_all hu hw I' hr' (rL.ext ex') (rp.ext ex') rvs e Q fun H2 s2 I2 r2 e2 => q H2 s2 I2 r2 (ex'.trans e2)
      · cases e
    · cases e
theorem se_disp (hu : X.A.units + 9 < cLine) (hw : ct.w = X.w) {keys : List (Option Expr)} {values : List Expr} {l : List (AE × AE)} (hp : PPs X pos keys values (l.map fun p => (RE X.K ct W p.1, RE X.K ct W p.2)))
    (hall : keys.all (·.isSome) = true := by rfl) (hl : keys.length = values.length := by rfl) (h0 : keys ≠ [] := by intro z; cases z) (h15 : keys.length ≤ 15 := by decide) : SE ct X W (.Dict keys values pos) (eDisp (gP l)) := by
  refine ⟨fun pins s σ H Q I z => ?_⟩
  obtain ⟨m, A, h, hr, en, po⟩ := z
  have hn := I.hok.fresh (Nat.le_refl s.heap.objs.size)
  have hb := I.big
  have I1 := I.laid (a := s.heap.objs.size) (o := rawD s.heap.objs.size []) (h' := s.heap.push { cls := .type "dict", data := .dict #[] }) (t' := s.toks) (fun _ _ q => Heap.get?_push_of_some _ q) (Nat.le_refl _)
    (raw_ok (beq_eq_false_iff_ne.mpr (Ne.symm (Nat.ne_of_lt hb))) (Nat.zero_le _) (Heap.get?_push_size _ rfl) ⟨rfl, rfl, rfl⟩ rfl)
  have ea : Ext m H (m ++ [some s.heap.objs.size]) (upd H s.heap.objs.size (rawD s.heap.objs.size [])) := Ext.alloc hn
  have ra : HR X.K ct (m ++ [some s.heap.objs.size]) (h ++ [.dic []]) (upd H s.heap.objs.size (rawD s.heap.objs.size [])) := hr.alloc hn (by intro z; cases z) ⟨[], upd_same, .nil, List.nodup_nil⟩
  have rL : Rep X.K ct (m ++ [some s.heap.objs.size]) (upd H s.heap.objs.size (rawD s.heap.objs.size [])) (.ref h.length) (.ref s.heap.objs.size) := .ref (by rw [← hr.len]; simp)
  have hlen := pairTrees_length keys values X.env pos hall hl
  have po2 : Post X.K ct (m ++ [some s.heap.objs.size]) (upd H s.heap.objs.size (rawD s.heap.objs.size [])) W σ (gP l A (h ++ [.dic []])) fun ds m1 h1 H1 => Post X.K ct m1 H1 W σ (match putL h.length ds h1 with
      | some h2 => Res.ok (D.ref h.length) h2
      | none => Res.stuck) fun d m' _ H' => ∀ v, Rep X.K ct m' H' d v → Q v H' := Post.later ea (Post.bind po)
  rw [arm_eval_Dict, zip_pairTrees keys values X.env pos hall hl, dictDisplay_pairs _ (by intro z; rw [z] at hlen; exact h0 (List.length_eq_zero_iff.mp hlen.symm)) (by rw [hlen]; omega)]
  refine wpAny_bind (wpAny_standAt (wpAny_bind ?_))
  unfold subDict
  refine wpAny_bind (wpAny_alloc ?_)
  refine wpAny_bind (wpAny_holding ?_)
  rw [if_pos (by rw [hlen]; exact h15)]
  refine wpAny_bind (thn (hp.run pins _ σ _ (fun ps H2 => ∃ m2 h2 ds, HR X.K ct m2 h2 H2 ∧ RepP X.K ct m2 H2 ds ps ∧ Ext (m ++ [some s.heap.objs.size]) (upd H s.heap.objs.size (rawD s.heap.objs.size [])) m2 H2 ∧ Post X.K ct m2 H2 W σ (match putL h.length ds h2 with
      | some h3 => Res.ok (D.ref h.length) h3
      | none => Res.stuck) fun d m' _ H' => ∀ v, Rep X.K ct m' H' d v → Q v H') I1 (pairs_imp ra (en.ext ea) po2 fun ds m2 h2 H2 ps e2 r2 p2 rp => ⟨m2, h2, ds, r2, rp, e2, p2⟩)) fun vs s2 z2 => ?_)
  obtain ⟨ps, H2, I2, rel, m2, h2, ds, r2, rp, e2, p2⟩ := z2
  refine wpAny_holding ?_
  cases ep : putL h.length ds h2 with
  | none => rw [ep] at p2; exact p2.elim
  | some h3 =>
    rw [ep] at p2
    refine wpAny_bind (put_all hu hw I2 r2 (rL.ext e2) rp rel ep _ fun H3 s3 I3 r3 e3 => wpAny_pure (wpAny_pure (wpAny_pure ?_)))
    exact ⟨.ref s.heap.objs.size, H3, I3, rfl, p2 m2 H3 e3 r3 _ ((rL.ext e2).ext e3)⟩
end
end Led
/-! LedDc: dict comprehensions, keys of any kind that dicts of mine take. -/
namespace Led
open PySem L2 PySem.Spec PyProof.Rows
/-- what a turn asks of the dict at D before (y, z) is put -/
def PutOk (K : PySem.W.Frag) (w : World) (D : Addr) (y z : V) (H : Hp) (R : Hp → Prop) : Prop := ∃ (ct : CTab) (m : Mp) (h : AH) (n : Nat) (kvs : List (Led.D × Led.D)) (es : List DictEntry) (k d : Led.D), ct.w = w ∧ HR K ct m h H ∧ m[n]? = some (some D) ∧ H D = some (rawD D es) ∧ DRep K ct m H kvs es ∧
  (kvs.map fun p => nkOf p.1).Nodup ∧ okKey kvs k = true ∧ kvs.length < sizeLine ∧ Rep K ct m H k y ∧ Rep K ct m H d z ∧ ∀ es', HR K ct m (h.set n (.dic (dput kvs k d))) (upd H D (rawD D es')) → Ext m H m (upd H D (rawD D es')) → R (upd H D (rawD D es'))
def tDcR (K : PySem.W.Frag) (w : World) (wi : TI) (g : TG) (tt : TT) (tk tv : TE) (vs : List Nat) : TE := fun σ H Q => wi σ H fun J H1 => ∀ D, H1 D = none → ∃ U : Nat → Nat → Hp → Prop, (∃ m, U 0 m (upd H1 D (rawD D []))) ∧ ∀ i m H, U i m H →
  (J.stop i H ∧ Q (.ref D) H) ∨ (J.go i H ∧ ∃ Nx : Hp → Prop, (∀ H', Nx H' → ∃ m', m' < m ∧ U (i + 1) m' H') ∧ ∀ x H', J.yld i H x H' → g x (wipe σ vs) H' fun σ2 H2 => wipe σ2 vs = wipe σ vs ∧ tt σ2 H2 fun b H3 =>
    if b = true then tk σ2 H3 fun y H4 => tv σ2 H4 fun z H5 => PutOk K w D y z H5 Nx else Nx H3)
section
variable {X : Cx}
theorem raw_empty {P : Program} {w : World} {H : Hp} (h : Heap) (hb : sysModules < h.objs.size) : ObjOk P w H (h.push { cls := .type "dict", data := .dict #[] }) h.objs.size (rawD h.objs.size []) :=
  raw_ok (beq_eq_false_iff_ne.mpr (Ne.symm (Nat.ne_of_lt hb))) (Nat.zero_le _) (Heap.get?_push_size _ rfl) ⟨rfl, rfl, rfl⟩ rfl
/-- the block of a dict comprehension over such a dict (the steps are those of the kit's proof for dicts of ints and texts, HandS.DictComp, turned to these dicts) -/
theorem dcR_core {pins : List (Addr × Obj)} {s : Shared} {σ : L2.St} {H : Hp} {Q : VK} {kx vx tg iter : Expr} {ifs : List Expr} {scope : Scope} {own : List (Str × Nat)} {pos pos' : Pos} {wi : TI} {g : TG} {tt : TT} {tk tv : TE} {use : Option (Value → Sem Unit)} {Qf : Value → Shared → Prop}
    (hu : X.A.units + 9 < cLine) (hc : X.calm = true) (hN : X.N.Nodup) (I : L2.Inv X pins σ H s) (hi : PI X tg iter wi) (ok : BlkOk X.N X.env.scope scope own)
    (hg : ∀ (s : Shared) (H : Hp) (C : Addr) (cl : List (Str × Addr)) (fp : List Addr), PG (X.blk s H scope (compEnvC scope cl C X.env) fp) tg g) (ht : ∀ (s : Shared) (H : Hp) (C : Addr) (cl : List (Str × Addr)) (fp : List Addr), PTs (X.blk s H scope (compEnvC scope cl C X.env) fp) ifs tt)
    (hk : ∀ (s : Shared) (H : Hp) (C : Addr) (cl : List (Str × Addr)) (fp : List Addr), PE (X.blk s H scope (compEnvC scope cl C X.env) fp) kx tk)
    (he : ∀ (s : Shared) (H : Hp) (C : Addr) (cl : List (Str × Addr)) (fp : List Addr), PE (X.blk s H scope (compEnvC scope cl C X.env) fp) vx tv) (hs : ∀ x, foldedSetIterable iter X.env x = pure x)
    (h : tDcR X.K X.w wi g tt tk tv (own.map (·.2)) σ H Q)
    (hRR : ∀ D C s' m H', L2.Inv X pins σ H' s' → Q (.ref D) H' → s'.heap.Ns C m → FpOk X pins H' C → compPost (model X.prog X.w) X.A X.xe use Qf (.ref D) C (.ok .next) s') :
    wpAny (model X.prog X.w) X.A (comprehension (.DictComp kx vx [⟨tg, iter, ifs, 0⟩] scope pos) scope X.env pos' newDict false (eval iter X.env) use) Qf X.xe s := by
  have hfree : ∀ y ∈ scope.names, y.2 = .free → ∃ c, X.env.cells.lookup y.1 = some c := fun y hy e => by
    rcases ok.free y hy e with k | k
    · exact I.ok.has _ (.inl k)
    · exact I.ok.has _ (.inr k)
  refine wpAny_comprehension_free (use := use) rfl hs (closure_ok hfree) ok.kind (fun y hy e => by rw [ok.uniq y hy, e])
    (thn (hi.run pins s σ H _ I h) fun xv s1 hx => thn hx fun itv s2 h2 => ?_)
  obtain ⟨it, fp, tn, J, H2, e, I2, T, st2, f2, q⟩ := h2
  subst e
  refine wpAny_newObj_type (newEnv_comp ?_)
  generalize hD : s2.heap.objs.size = D
  have hDn : H2 D = none := I2.hok.fresh (Nat.le_of_eq hD)
  obtain ⟨W, ⟨m0, w0⟩, turn⟩ := q D hDn
  -- the new list
  generalize hs3 : ({ s2 with heap := s2.heap.push { cls := .type "dict", data := .dict #[] } } : Shared) = s3
  have I3 : L2.Inv X pins σ (upd H2 D (rawD D [])) s3 := by
    rw [← hs3]
    refine I2.laid (t' := s2.toks) (fun b o e => Heap.get?_push_of_some _ e) (Nat.le_of_eq hD) ?_
    rw [← hD]
    exact raw_empty s2.heap I2.big
  have h3 : s3.heap = s2.heap.push { cls := .type "dict", data := .dict #[] } := by rw [← hs3]
  have sz : ∀ b ∈ fp, b < s2.heap.objs.size := fun b hb => by
    obtain ⟨o, e, _⟩ := T.obj _ _ st2 b hb
    exact Heap.lt_size e
  have f3 : ∀ b ∈ fp, FpOk X pins (upd H2 D (rawD D [])) b ∧ b < s3.heap.objs.size := fun b hb => by
    have hlt := sz b hb
    refine ⟨⟨?_, (f2 b hb).2⟩, by rw [h3, Heap.size_push]; exact Nat.lt_succ_of_lt hlt⟩
    rw [upd_ne (by rw [← hD]; exact Nat.ne_of_lt hlt)]
    exact (f2 b hb).1
  have st3 : tn 0 s3.heap := T.keep _ _ _ st2 fun b _ o e => by rw [h3]; exact Heap.get?_push_of_some _ e
  have I4 := block_start I3 ok hN f3
  have pg := hg s3 (upd H2 D (rawD D [])) s3.heap.objs.size (cellsFrom (s3.heap.objs.size + 1) scope.names (cloFrom X.env.cells scope.names [])) fp
  have pt := ht s3 (upd H2 D (rawD D [])) s3.heap.objs.size (cellsFrom (s3.heap.objs.size + 1) scope.names (cloFrom X.env.cells scope.names [])) fp
  have pk := hk s3 (upd H2 D (rawD D [])) s3.heap.objs.size (cellsFrom (s3.heap.objs.size + 1) scope.names (cloFrom X.env.cells scope.names [])) fp
  have pe := he s3 (upd H2 D (rawD D [])) s3.heap.objs.size (cellsFrom (s3.heap.objs.size + 1) scope.names (cloFrom X.env.cells scope.names [])) fp
  show codeAny _ _ (.compStart (.DictComp kx vx [⟨tg, iter, ifs, 0⟩] scope pos) 0 (.ref it) (.ref D) (compEnvC scope (cellsFrom (s3.heap.objs.size + 1) scope.names (cloFrom X.env.cells scope.names [])) s3.heap.objs.size X.env)) (compPost (model X.prog X.w) X.A X.xe use Qf (.ref D) s3.heap.objs.size) { s3 with heap := pushCells (s3.heap.push { cls := .type "dict", data := .dict #[] }) scope.names }
  have nfp : ∀ b ∈ fp, (upd H2 D (rawD D [])) b = none := fun b hb => (f3 b hb).1.1
  generalize hce : compEnvC scope (cellsFrom (s3.heap.objs.size + 1) scope.names (cloFrom X.env.cells scope.names [])) s3.heap.objs.size X.env = ce at I4 pg pt pk pe ⊢
  have cL : ce.locals = s3.heap.objs.size := by subst hce; rfl
  generalize hH3 : upd H2 D (rawD D []) = H3 at I3 I4 pg pt pk pe w0 nfp f3
  generalize hs4 : ({ s3 with heap := pushCells (s3.heap.push { cls := .type "dict", data := .dict #[] }) scope.names } : Shared) = s4 at I4 ⊢
  have st4 : tn 0 s4.heap := T.keep _ _ _ st3 fun b _ o e => by rw [← hs4]; exact pushCells_keeps _ _ _ _ (Heap.get?_push_of_some _ e)
  have stat : ∀ {σ' : L2.St} {H' : Hp} {s' : Shared}, L2.Inv (X.blk s3 H3 scope ce fp) [] σ' H' s' → (∀ b ∈ fp, H' b = none) → ∀ b ∈ fp, FpOk (X.blk s3 H3 scope ce fp) [] H' b := fun {σ' H' s'} I' hn b hb =>
    ⟨hn b hb, (I'.ok.exf b hb).1, I'.ok.exfs b hb, .inl hb, fun x c e => (I'.ok.exf b hb).2 x c e, fun p hp => absurd (show p ∈ ([] : List (Addr × Obj)) ++ [] from hp) (by simp)⟩
  have loop : codeAny (model X.prog X.w) X.A (.compLoop (.DictComp kx vx [⟨tg, iter, ifs, 0⟩] scope pos) 0 (.ref it) (.ref D) ce) (compPost (model X.prog X.w) X.A X.xe use Qf (.ref D) s3.heap.objs.size) s4 := by
    refine compLoop_anyD (fun n s' => ∃ i H', L2.Inv (X.blk s3 H3 scope ce fp) [] (wipe σ (own.map (·.2))) H' s' ∧ tn i s'.heap ∧ (∀ b ∈ fp, H' b = none) ∧ W i n H') ?_ m0 ⟨0, H3, I4, st4, nfp, w0⟩
    rintro n s5 ⟨i, H5, I5, st5, n5, w5⟩
    rcases turn i n H5 w5 with ⟨stop, qq⟩ | ⟨go, Nx, hNx, step⟩
    · have td := T.done (X.blk s3 H3 scope ce fp) rfl rfl rfl hc i [] s5 _ H5 (fun _ _ => False) I5 (stat I5 n5) st5 stop
      refine thnF td fun r s6 ⟨hr, I6⟩ => ?_
      subst hr
      -- back in the def's context
      have I7 : L2.Inv X pins σ H5 s6 := I3.call' (ch := fp) I6.os I6.base I6.hok I6.bare fun b hb => ⟨(f3 b hb).1.2.2.2.1, (f3 b hb).1.2.1, (f3 b hb).1.2.2.2.2.1, (f3 b hb).1.2.2.2.2.2⟩
      have nC : H5 s3.heap.objs.size = none := by
        have z : H5 ce.locals = none := I6.free
        rw [cL] at z
        exact z
      obtain ⟨m, hn, _⟩ := I6.loc
      have hn : s6.heap.Ns ce.locals m := hn
      rw [cL] at hn
      exact hRR D s3.heap.objs.size s6 m H5 I7 qq hn (I3.fpOk (Nat.le_refl _) nC)
    · have ti := T.item (X.blk s3 H3 scope ce fp) rfl rfl rfl hc i [] s5 _ H5 (fun _ _ => False) I5 (stat I5 n5) st5 go
      refine thnF ti fun r s6 ⟨u, hr, h6⟩ => ?_
      subst hr
      refine thnF h6 fun _ s7 ⟨x, H7, I7, r7, y7, st7, n7⟩ => ?_
      have I7' := I7.pinned (stat I7 n7) (T.obj _ _ st7)
      refine thnF (pg.run _ s7 _ H7 x u _ I7' r7 (step x H7 y7)) fun _ s8 ⟨σ8, H8, I8, hw8, q8⟩ => ?_
      refine thnF (pt.run _ s8 σ8 H8 _ I8 q8) fun b s9 ⟨H9, I9, q9⟩ => ?_
      -- the turn's end
      have fin : ∀ {s' : Shared} {H' : Hp}, L2.Inv (X.blk s3 H3 scope ce fp) ([] ++ pinsAt fp s7.heap) σ8 H' s' → Nx H' → ∃ m, m < n ∧ ∃ i H', L2.Inv (X.blk s3 H3 scope ce fp) [] (wipe σ (own.map (·.2))) H' s' ∧ tn i s'.heap ∧ (∀ b ∈ fp, H' b = none) ∧ W i m H' := fun {s' H'} I' nx => by
        obtain ⟨m', hm, w'⟩ := hNx H' nx
        have pin' : ∀ b ∈ fp, ∀ o, s7.heap.get? b = some o → s'.heap.get? b = some o ∧ H' b = none := fun b hb o e =>
          let z := I'.pin (b, o) (List.mem_append_right _ (List.mem_append_right _ (mem_pinsAt hb e)))
          ⟨z.1, z.2.1⟩
        have hl : (wipe σ (own.map (·.2))).length = σ8.length := by rw [← hw8, wipe_length]
        refine ⟨m', hm, i + 1, H', (I'.unpinned (pins := [])).weak hl (fun j v e => ?_), T.keep _ _ _ st7 fun b hb o e => (pin' b hb o e).1, fun b hb => ?_, w'⟩
        · rw [← hw8] at e
          exact (wipe_some e).1
        · obtain ⟨o, e, _⟩ := T.obj _ _ st7 b hb
          exact (pin' b hb o e).2
      cases b with
      | false =>
        simp only [Bool.false_eq_true, if_false] at q9 ⊢
        exact fin I9 q9
      | true =>
        simp only [if_true] at q9 ⊢
        refine thnF (pk.run _ s9 σ8 H9 _ I9 q9) fun z s10 ⟨yk, H10, I10, r10, q10⟩ => ?_
        refine thnF (pe.run _ s10 σ8 H10 _ I10 q10) fun z2 s11 ⟨yv, H11, I11, r11, ct, mm, hh, nn, kvs, es, k, d, ew, hr, em, eH, rel, nd, ok, hz, rk, rd, nx⟩ => ?_
        exact d_put' (X := X.blk s3 H3 scope ce fp) hu ew I11 hr em eH rel nd ok hz rk r10 rd r11 fun es' s12 I12 hr' ex' => fin I12 (nx es' hr' ex')
  exact codeAny_compStart_dict loop (T.self X.A 0 _ _ _ st4 loop)
/-- as a value -/
theorem pe_dcR {kx vx tg iter : Expr} {ifs : List Expr} {scope : Scope} {own : List (Str × Nat)} {pos : Pos} {wi : TI} {g : TG} {tt : TT} {tk tv : TE} (hu : X.A.units + 9 < cLine) (hc : X.calm = true) (hN : X.N.Nodup) (hi : PI X tg iter wi) (ok : BlkOk X.N X.env.scope scope own)
    (hg : ∀ (s : Shared) (H : Hp) (C : Addr) (cl : List (Str × Addr)) (fp : List Addr), PG (X.blk s H scope (compEnvC scope cl C X.env) fp) tg g) (ht : ∀ (s : Shared) (H : Hp) (C : Addr) (cl : List (Str × Addr)) (fp : List Addr), PTs (X.blk s H scope (compEnvC scope cl C X.env) fp) ifs tt)
    (hk : ∀ (s : Shared) (H : Hp) (C : Addr) (cl : List (Str × Addr)) (fp : List Addr), PE (X.blk s H scope (compEnvC scope cl C X.env) fp) kx tk)
    (he : ∀ (s : Shared) (H : Hp) (C : Addr) (cl : List (Str × Addr)) (fp : List Addr), PE (X.blk s H scope (compEnvC scope cl C X.env) fp) vx tv) (hs : ∀ x, foldedSetIterable iter X.env x = pure x := by intro _; rfl) :
    PE X (.DictComp kx vx [⟨tg, iter, ifs, 0⟩] scope pos) (tDcR X.K X.w wi g tt tk tv (own.map (·.2))) := by
  refine ⟨fun pins s σ H Q I h => ?_⟩
  rw [arm_eval_DictComp]
  refine dcR_core hu hc hN I hi ok hg ht hk he hs h fun D C s' m H' I' q hn f => ⟨m, hn, fun h'' sb => ?_⟩
  obtain ⟨f0, f1, f2, f3, f4, f5⟩ := f
  exact ⟨.ref D, H', I'.turned (t' := s'.toks) (fun b o hb e => (sb.2 b hb).trans e) f0 f1 f3 f4 f5, rfl, q⟩
end
def putD1 (n : Nat) (y z : D) (h : AH) : Res Unit := match h[n]? with
  | some (.dic kvs) => if okKey kvs y = true ∧ kvs.length < sizeLine then .ok () (h.set n (.dic (dput kvs y z))) else .stuck
  | _ => .stuck
def dcN (S : Src) (g : AG) (t : AT) (ek ev : AE) (A : AEnv) (n : Nat) : Nat → Nat → AH → Res Unit
  | 0, _, _ => .stuck
  | f + 1, i, h => match S.nxt h i with
    | some none => .ok () h
    | some (some d) => match g d A h with
      | some A1 => (t A1 h).calm.bind fun b h1 => match b with
        | false => dcN S g t ek ev A n f (i + 1) h1
        | true => (ek A1 h1).calm.bind fun y h2 => (ev A1 h2).calm.bind fun z h3 => (putD1 n y z h3).bind fun _ h4 => dcN S g t ek ev A n f (i + 1) h4
      | none => .stuck
    | none => .stuck
def eDc (it : AI) (g : AG) (t : AT) (ek ev : AE) (vs : List Nat) : AE := fun A h => (it A h).bind fun S h1 =>
  lcR h1.length (dcN S g t ek ev (wipeA A vs) h1.length FUEL 0 (h1 ++ [.dic []]))
section
variable {ct : CTab} {X : Cx} {W : WX} {kx vx tg iter : Expr} {ifs : List Expr} {scope : Scope} {own : List (Str × Nat)} {it : AI} {g : AG} {t : AT} {ek ev : AE} {ws : List Nat} {pos : Pos}
theorem dc_imp (hct : ct.w = X.w) {σ : L2.St} {H : Hp} {Q : VK} {vs : List Nat} (hw : ∀ i ∈ ws, i ∈ vs) (z : RE X.K ct W (eDc it g t ek ev vs) σ H Q) : tDcR X.K X.w (RI X.K ct W it) (RG X.K ct g ws) (RT X.K ct W0 t) (RE X.K ct W0 ek) (RE X.K ct W0 ev) vs σ H Q := by
  obtain ⟨m, A, h, hr, en, po⟩ := z
  refine ⟨m, A, h, hr, en, po.bind.imp fun S m1 h1 H1 e1 r1 p1 J hJ L hL => ?_⟩
  have ea : Ext m1 H1 (m1 ++ [some L]) (upd H1 L (rawD L [])) := Ext.alloc hL
  have ra : HR X.K ct (m1 ++ [some L]) (h1 ++ [.dic []]) (upd H1 L (rawD L [])) := r1.alloc hL (by intro z; cases z) ⟨[], upd_same, .nil, List.nodup_nil⟩
  have eL : (m1 ++ [some L])[h1.length]? = some (some L) := by rw [← r1.len]; simp
  have en1 : EnvR X.K ct (m1 ++ [some L]) (upd H1 L (rawD L [])) (wipeA A vs) (L2.wipe σ vs) := ((en.ext e1).ext ea).wipe vs
  refine ⟨fun i n H2 => ∃ m2 h2, HR X.K ct m2 h2 H2 ∧ Ext (m1 ++ [some L]) (upd H1 L (rawD L [])) m2 H2 ∧ Post X.K ct m2 H2 W σ (lcR h1.length (dcN S g t ek ev (wipeA A vs) h1.length n i h2)) (fun d m' _ H' => ∀ v, Rep X.K ct m' H' d v → Q v H'),
    ⟨FUEL, m1 ++ [some L], h1 ++ [.dic []], ra, Ext.refl _ _, ?_⟩, fun i n H2 z2 => ?_⟩
  · exact Post.later ea p1
  · obtain ⟨m2, h2, r2, e2, p2⟩ := z2
    cases n with
    | zero => exact (show False from p2).elim
    | succ n =>
      have hj := hJ m2 H2 h2 i (ea.trans e2) r2
      unfold dcN at p2
      cases en' : S.nxt h2 i with
      | none => rw [en'] at p2; exact p2.elim
      | some o =>
        cases o with
        | none =>
          rw [en'] at p2 hj
          refine .inl ⟨hj, (show Post X.K ct m2 H2 W σ (.ok (D.ref h1.length) h2) _ from p2).here r2 _ ?_⟩
          rcases e2.ref _ _ eL with q | q
          · exact .ref q
          · exact .lost q
        | some d =>
          rw [en'] at p2 hj
          obtain ⟨go, yl⟩ := hj
          dsimp only at p2
          cases eg : g d (wipeA A vs) h2 with
          | none => rw [eg] at p2; exact p2.elim
          | some A3 =>
            rw [eg] at p2
            dsimp only at p2
            refine .inr ⟨go, fun H' => ∃ m2 h2, HR X.K ct m2 h2 H' ∧ Ext (m1 ++ [some L]) (upd H1 L (rawD L [])) m2 H' ∧ Post X.K ct m2 H' W σ (lcR h1.length (dcN S g t ek ev (wipeA A vs) h1.length n (i + 1) h2)) (fun d m' _ H' => ∀ v, Rep X.K ct m' H' d v → Q v H'),
              fun H' q => ⟨n, Nat.lt_succ_self n, q⟩, fun x H3 y => ?_⟩
            obtain ⟨m3, e3, r3, rx⟩ := yl x H3 y
            refine ⟨m3, wipeA A vs, h2, d, r3, (en1.ext e2).ext e3, rx, A3, eg, fun σ4 en4 o4 => ⟨wipe_out o4 hw, m3, A3, h2, r3, en4, ?_⟩⟩
            rw [lcR_bind] at p2
            refine Post.calm (W := W) (σ := σ) ((Post.later e3 (Post.bind p2)).imp fun b m4 h4 H4 e4 r4 p4 => ?_)
            have e24 := e2.trans (e3.trans e4)
            dsimp only
            cases b with
            | false =>
              rw [if_neg Bool.false_ne_true]
              exact ⟨m4, h4, r4, e24, p4⟩
            | true =>
              rw [if_pos rfl]
              dsimp only at p4
              rw [lcR_bind] at p4
              refine ⟨m4, A3, h4, r4, en4.ext e4, Post.calm (W := W) (σ := σ) ((Post.bind p4).imp fun y m5 h5 H5 e5 r5 p5 v5 ry => ?_)⟩
              rw [lcR_bind] at p5
              refine ⟨m5, A3, h5, r5, (en4.ext e4).ext e5, Post.calm (W := W) (σ := σ) ((Post.bind p5).imp fun z m6 h6 H6 e6 r6 p6 v6 rz => ?_)⟩
              rw [lcR_bind] at p6
              have e26 := (e24.trans e5).trans e6
              unfold putD1 at p6
              split at p6
              · rename_i kvs ex
                split at p6
                · rename_i ok
                  have rL : Rep X.K ct m6 H6 (.ref h1.length) (.ref L) := Rep.ext e26 (.ref eL)
                  obtain ⟨a, eb, ea', es, eH, rl', nd⟩ := r6.at ex (by intro z; cases z) rL
                  cases eb
                  exact ⟨ct, m6, h6, h1.length, kvs, es, y, z, hct, r6, ea', eH, rl', nd, ok.1, ok.2, ry.ext e6, rz, fun es' hr' ex' => ⟨m6, _, hr', e26.trans ex', Post.later ex' p6⟩⟩
                · exact (show False from p6).elim
              · exact (show False from p6).elim
theorem se_dc (hu : X.A.units + 9 < cLine) (hct : ct.w = X.w) (hc : X.calm = true) (hN : X.N.Nodup) (hi : SI ct X W tg iter it) (ok : BlkOk X.N X.env.scope scope own) (hg : BX X scope fun Y => SG ct Y tg g ws) (ht : BX X scope fun Y => STs ct Y W0 ifs t) (hk : BX X scope fun Y => SE ct Y W0 kx ek) (he : BX X scope fun Y => SE ct Y W0 vx ev)
    (hw : ∀ i ∈ ws, i ∈ own.map (·.2) := by decide) (hs : ∀ x, foldedSetIterable iter X.env x = pure x := by intro _; rfl) : SE ct X W (.DictComp kx vx [⟨tg, iter, ifs, 0⟩] scope pos) (eDc it g t ek ev (own.map (·.2))) :=
  PE.imp (pe_dcR (g := RG X.K ct g ws) (tt := RT X.K ct W0 t) (tk := RE X.K ct W0 ek) (tv := RE X.K ct W0 ev) hu hc hN hi ok hg ht hk he hs) fun _ _ _ z => dc_imp hct hw z
end
end Led
/-! LedSet: len(set(xs)), xs a list of texts (the steps are those of the kit's HandS.Strs for at most one text, turned to lists of any length). -/
namespace Led
open PySem PySem.Spec PyProof.Rows
/-- how many unlike texts stand among the first i -/
def nT (xs : List Str) : Nat → Nat
  | 0 => 0
  | i + 1 => if (xs.take i).any (· == xs.getD i Str.empty) then nT xs i else nT xs i + 1
theorem nT_le (xs : List Str) : ∀ i, nT xs i ≤ i
  | 0 => Nat.le_refl _
  | i + 1 => by
    have := nT_le xs i
    unfold nT
    split <;> omega
theorem take_any (xs : List Str) (i : Nat) (hi : i < xs.length) (k : Str) : ((xs.take i).any (· == k) || decide (k = xs.getD i Str.empty)) = (xs.take (i + 1)).any (· == k) := by
  have e : xs.getD i Str.empty = xs[i] := by simp [hi]
  rw [List.take_succ_eq_append_getElem hi, List.any_append, e]
  congr 1
  simp only [List.any_cons, List.any_nil, Bool.or_false]
  by_cases h : k = xs[i]
  · rw [decide_eq_true h, h]; simp
  · rw [decide_eq_false h]
    exact (beq_eq_false_iff_ne.mpr fun z => h z.symm).symm
section
variable {prog : Program} {w : World} {A : Around} {R : Result → Shared → Prop} {I : Addr} {fp wr : List Addr} {G : Array GenState → Array GenState → Prop} {n : Nat} {P : Nat → Value → Prop} {St : Nat → Shared → Prop}
theorem loopSt (W : WalksS prog w A.in1 I fp wr G n P St) (S : Addr) (hSf : S ∉ fp) (xs : List Str) (hsz : xs.length = n) (hn1 : n ≤ 1000)
    (hval : ∀ i v, P i v → ∃ t, v = .str (xs.getD i Str.empty) t) :
    ∀ (k i : Nat) (s : Shared), n - i = k → i ≤ n → St i s →
      s.heap.SetOf (PySem.strKind prog w) S (fun k' => (xs.take i).any (· == k')) (nT xs i) →
      (∀ s', Moved (S :: wr) G s s' → s'.heap.SetOf (PySem.strKind prog w) S (fun k' => (xs.take n).any (· == k')) (nT xs n) → R (.ok (.ret .none)) s') →
      codeAny (model prog w) A (.builtin "set.update.loop" ⟨[.ref S, .ref I], []⟩) R s := by
  have hSw : S ∉ wr := fun h => hSf (W.sub _ h)
  have hsub : ∀ b ∈ wr, b ∈ S :: wr := fun b hb => List.mem_cons_of_mem _ hb
  intro k
  induction k with
  | zero =>
    intro i s hk hi hst hS hR
    have hin : i = n := by omega
    subst hin
    refine codeAny_builtin PyProof.Rows.F.entry_set_update_loop ?_
    rw [Around.under_plainId PyProof.Rows.F.plain_set_update_loop _]
    show wpAny _ A.in1 (pyNext (.ref I) >>= _) _ _ s
    refine wpAny_bind (W.done s _ _ hst fun s' hm => ?_)
    show wpAny _ A.in1 (ret Value.none) _ _ s'
    exact wpAny_pure (hR s' (hm.mono hsub) (by
      obtain ⟨o, es, ep, t, ho, rest⟩ := hS
      exact ⟨o, es, ep, t, hm.heap S _ hSw ho, rest⟩))
  | succ k ih =>
    intro i s hk hi hst hS hR
    have hlt : i < n := by omega
    have hni := nT_le xs i
    refine codeAny_builtin PyProof.Rows.F.entry_set_update_loop ?_
    rw [Around.under_plainId PyProof.Rows.F.plain_set_update_loop _]
    show wpAny _ A.in1 (pyNext (.ref I) >>= _) _ _ s
    refine wpAny_bind (W.item i s _ _ hlt hst fun v s' hP hst' hm => ?_)
    obtain ⟨t, rfl⟩ := hval i v hP
    have hS' : s'.heap.SetOf (PySem.strKind prog w) S (fun k' => (xs.take i).any (· == k')) (nT xs i) := by
      obtain ⟨o, es, ep, tb, ho, rest⟩ := hS
      exact ⟨o, es, ep, tb, hm.heap S _ hSw ho, rest⟩
    show wpAny _ A.in1 (holding [Value.str (xs.getD i Str.empty) t] (setAdd S (.str (xs.getD i Str.empty) t)) >>= _) _ _ s'
    refine wpAny_bind (wpAny_holding ?_)
    unfold setAdd
    refine wpAny_holding ?_
    refine wpAny_bind ((PySem.strKind prog w).pyHash (k := xs.getD i Str.empty) (strKind_is _ _ _ _) ?_)
    refine wpAny_setAddHashed_of (knd := PySem.strKind prog w) (s := { s' with toks := s'.toks + 1 }) (strKind_is _ _ _ _) rfl hS' (by unfold scanBound; omega) fun h' hsb hS2 => ?_
    have hSi : h'.SetOf (PySem.strKind prog w) S (fun k' => (xs.take (i + 1)).any (· == k')) (nT xs (i + 1)) := by
      refine SetOf_congr hS2 (fun k' => ?_) rfl
      rw [take_any xs i (by omega) k']
    refine wpAny_pure ⟨plainId_quiet PyProof.Rows.F.plain_set_update_loop _, ih (i + 1) _ (by omega) hlt (W.frame _ s' _ _ hst' (Nat.le_succ _) fun b hb o e => ?_) hSi fun s'' hm'' hS'' => ?_⟩
    · rw [hsb.2 b (fun h : b = S => hSf (by rw [← h]; exact hb))]; exact e
    · refine hR s'' (Moved.trans W.gtrans ((hm.mono hsub).then_heap (Nat.le_succ _) fun b o hb e => ?_) hm'') hS''
      rw [hsb.2 b (fun h : b = S => hb (by rw [h]; exact List.mem_cons_self))]; exact e
end
section
variable {prog : Program} {w : World} {A : Around} {E : Value → Shared → Prop} {s : Shared}
set_option maxHeartbeats 3200000 in
theorem call_set_listT {l : Addr} {items : Array Value} {xs : List Str} {Q : Value → Shared → Prop}
    (hh : A.handled = none) (hl : s.heap.IsList l items) (hi : PyProof.Rows.StrsAre items.toList xs) (hn1 : xs.length ≤ 1000)
    (h : ∀ (h' : Heap) (tk : Nat), h'.SetOf (PySem.strKind prog w) s.heap.objs.size (fun k' => (xs.take items.size).any (· == k')) (nT xs items.size) →
      (∀ b o, b < s.heap.objs.size → s.heap.get? b = some o → h'.get? b = some o) → Q (.ref s.heap.objs.size) { s with heap := h', toks := tk }) :
    wpAny (model prog w) A (call (.type "set") [.ref l]) Q E s := by
  obtain ⟨c, tl, hmro⟩ := PySem.F.called_set.mro
  have hmade := PySem.F.called_set.made
  have hsub := PySem.F.called_set.sub
  refine wpAny_call (codeAny_of_tree ?_)
  show wpAny _ _ (callAny (.type "set") _) _ _ _
  refine wpAny_pure ⟨Code.quiet_builtin _ (by decide +kernel), codeAny_builtin PySem.F.entry_type_call ?_⟩
  rw [Around.under_plain (weight_type_call_type "set" [.ref l] []) rfl]
  have h1 := PySem.F.called_set.notType
  have h2 := PySem.F.called_set.canCreate
  have hct := PySem.F.typeCall_set_1 (.ref l)
  repeat (any_goals (first | assumption | wp_step))

  refine codeAny_mono (code_set_new_1 (.ref l) (E := E) (Q₁ := fun obj s₁ => ∃ led : Bool, obj = .ref s.heap.objs.size ∧ s₁ = { s with heap := s.heap.push { cls := .type "set", dict := none, data := .set #[] 0 (.fresh 0 0 led) } }) fun led => ⟨led, rfl, rfl⟩) fun r s₁ hr => ?_
  cases r with
  | error e => exact hr
  | ok fl =>
    cases fl with
    | ret obj =>
      obtain ⟨led, rfl, rfl⟩ := hr
      have hS : (s.heap.push { cls := .type "set", dict := none, data := .set #[] 0 (.fresh 0 0 led) }).get? s.heap.objs.size = some { cls := .type "set", dict := none, data := .set #[] 0 (.fresh 0 0 led) } := Heap.get?_push_size _ rfl
      have hT : Shared.TypeIs { s with heap := s.heap.push { cls := .type "set", dict := none, data := .set #[] 0 (.fresh 0 0 led) } } (.ref s.heap.objs.size) "set" := ⟨_, hS, rfl⟩
      have hli := PySem.F.called_set.init.lookup
      have hbi := PySem.F.called_set.init.bind (.ref s.heap.objs.size)
      repeat (any_goals (first | assumption | wp_step))

      refine codeAny_mono (codeAny_call_builtin (R := wants (fun r s₂ => r = .none ∧ ∃ h' tk, s₂ = { s with heap := h', toks := tk } ∧
          h'.SetOf (PySem.strKind prog w) s.heap.objs.size (fun k' => (xs.take items.size).any (· == k')) (nT xs items.size) ∧
          (∀ b o, b < s.heap.objs.size → s.heap.get? b = some o → h'.get? b = some o)) E) PySem.F.called_set.init.plain PySem.F.entry_set_init (check_set_init_1 hT ?_)) fun r₂ s₂ hr₂ => ?_
      · obtain ⟨ol, hol, hcl, nl, hdl⟩ := hl
        obtain ⟨ocls, odict, odata, oslots⟩ := ol
        simp only at hcl hdl
        subst hcl; subst hdl
        have hol' : (s.heap.push { cls := .type "set", dict := none, data := .set #[] 0 (.fresh 0 0 led) }).get? l = some { cls := .type "list", dict := odict, data := .seq items nl, slots := oslots } := Heap.get?_push_of_some _ hol
        have hsls := PySem.F.sub_list_set
        have hslf := PySem.F.sub_list_frozenset
        have hne : (Value.type "list" == Value.type "dict") = false := by decide
        have hl1 : (s.heap.push { cls := .type "set", dict := none, data := .set #[] 0 (.fresh 0 0 led) }).IsList l items := ⟨_, hol', rfl, nl, rfl⟩
        unfold Builtin.«set.__init__» noKeywords Builtin.Frozenset.updateFrom
        generalize hPI : pyIter = PI
        wp_walk
        subst hPI

        refine wpAny_pyIter_list hl1 ?_
        refine wpAny_bind (wpAny_runValue ?_)
        have hlS : l < s.heap.objs.size := Heap.lt_size hol
        have hh3 : A.in1.in1.in1.handled = none := by simp [hh]
        have hneI : l ≠ (s.heap.push { cls := .type "set", dict := none, data := .set #[] 0 (.fresh 0 0 led) }).objs.size := by
          rw [Heap.size_push]; exact Nat.ne_of_lt (Nat.lt_succ_of_lt hlS)
        have hSf : s.heap.objs.size ∉ [(s.heap.push { cls := .type "set", dict := none, data := .set #[] 0 (.fresh 0 0 led) }).objs.size, l] := by
          rw [Heap.size_push]; simp only [List.mem_cons, List.mem_singleton, List.not_mem_nil, or_false, not_or]
          exact ⟨Nat.ne_of_lt (Nat.lt_succ_self _), Nat.ne_of_gt hlS⟩
        have hsz : xs.length = items.size := by rw [← StrsAre.len_eq hi, Array.length_toList]
        have hval : ∀ (i : Nat) (v : Value), items[i]? = some v → ∃ t, v = .str (xs.getD i Str.empty) t := fun i v hv => SS.strs_at hi i v (by rw [Array.getElem?_toList]; exact hv)
        refine loopSt ((Walks.list hh3 _ l hneI items).toS) s.heap.objs.size
          hSf xs hsz (by rw [← hsz]; exact hn1) hval (items.size - 0) 0 _ (by omega) (Nat.zero_le _)
          ⟨⟨_, Heap.get?_push_size _ rfl, rfl, rfl⟩, (hl1.push _)⟩ ?hS0 ?hR
        case hS0 =>
          have hget : ((s.heap.push { cls := .type "set", dict := none, data := .set #[] 0 (.fresh 0 0 led) }).push { cls := .type "list_iterator", data := .fields #[.ref l, .int 0 0] }).get? s.heap.objs.size
              = some { cls := .type "set", dict := none, data := .set #[] 0 (.fresh 0 0 led) } := Heap.get?_push_of_some _ hS
          exact PyProof.Rows.SetOf_congr ((PyProof.Rows.setObjOf_fresh (knd := PySem.strKind prog w) led).setOf hget (by unfold scanBound; omega)) (fun _ => rfl) rfl
        case hR =>
          intro s' hm hS'
          obtain ⟨h', g', d', tk', os'⟩ := s'
          have eg : g' = s.gens := hm.gens
          have ed : d' = s.drawn := hm.drawn
          have eo : os' = s.os := hm.os
          subst eg; subst ed; subst eo
          show wpAny _ _ _ _ _ _
          refine wpAny_pure ?_
          show wpAny _ _ (ret Value.none) _ _ _
          refine wpAny_pure ⟨rfl, h', tk', rfl, hS', fun b o hb e => ?_⟩
          have hb1 : b ≠ s.heap.objs.size := Nat.ne_of_lt hb
          have hb2 : b ≠ (s.heap.push { cls := .type "set", dict := none, data := .set #[] 0 (.fresh 0 0 led) }).objs.size := by
            rw [Heap.size_push]; exact Nat.ne_of_lt (Nat.lt_succ_of_lt hb)
          exact hm.heap b o (by simp only [List.mem_cons, List.mem_singleton, List.not_mem_nil, or_false, not_or]; exact ⟨hb1, hb2⟩) (Heap.get?_push_of_some _ (Heap.get?_push_of_some _ e))

      · cases r₂ with
        | error e => exact hr₂
        | ok fl₂ =>
          cases fl₂ with
          | ret r =>
            obtain ⟨rfl, h', tk, rfl, hS', hk'⟩ := hr₂
            repeat (any_goals (first | assumption | wp_step))
            exact h _ _ hS' hk'
          | _ => exact hr₂.elim
    | _ => exact hr.elim

end
end Led
/-! LedM4: len(set(xs)). -/
namespace Led
open PySem L2
def strsOf : List D → Option (List Str)
  | [] => some []
  | .str x :: ds => (strsOf ds).map (x :: ·)
  | _ :: _ => none
theorem strsOf_rep {K : PySem.W.Frag} {ct : CTab} {m : Mp} {H : Hp} : ∀ {ds : List D} {vs : List V} {xs : List Str}, strsOf ds = some xs → RepL K ct m H ds vs → vs = xs.map V.str := by
  intro ds
  induction ds with
  | nil => intro vs xs e r; cases r; cases e; rfl
  | cons d ds ih =>
    intro vs xs e r
    cases r with
    | cons r t =>
      cases d with
      | str x =>
        cases r
        have e : (strsOf ds).map (x :: ·) = some xs := e
        cases q : strsOf ds with
        | none => rw [q] at e; cases e
        | some ys =>
          rw [q] at e
          cases e
          rw [ih q t]
          rfl
      | _ => cases e
def lenSetA : AF := fun ds h => match ds with
  | [.ref n] => match getL h n with
    | some xs => match strsOf xs with
      | some ys => if ys.length ≤ 1000 then .ok (.int (nT ys ys.length)) h else .stuck
      | none => .stuck
    | none => .stuck
  | _ => .stuck
def tLenSetT (K : PySem.W.Frag) (ta : TE) : TE := fun σ H Q => ta σ H fun x H1 => ∃ l, ∃ xs : List Str, x = .ref l ∧ SqL K H1 l (xs.map V.str) ∧ xs.length ≤ 1000 ∧ Q (.int (nT xs xs.length)) H1
section
variable {X : Cx} {ct : CTab} {W : WX} {a : Expr} {ta : TE} {fe : AE} {p p2 q pos : Pos}
theorem pe_lenSetT (hc : X.calm = true) (hg : Gl X "len") (hm : X.mg "len" = none) (hg2 : Gl X "set") (hm2 : X.mg "set" = none) (ha : PE X a ta)
    (na : starEach [a] X.env = (false, eval a X.env) :: starEach [] X.env) : PE X (.Call (.Name "len" p) [.Call (.Name "set" p2) [a] [] q] [] pos) (tLenSetT X.K ta) := by
  refine ⟨fun pins s σ H Q I h => ?_⟩
  refine PyProof.Rows.Call_ (ld_blt I hg hm bt_len (PyProof.Rows.callWith_builtin1 (PyProof.Rows.args_cons (PyProof.Rows.Call_ (ld_blt I hg2 hm2 bt_set ?_)) rfl) rfl rfl))
  refine PyProof.Rows.callWith_type1 (PyProof.Rows.args_cons (thn (ha.run pins s σ H _ I h) fun v s1 ⟨x, H1, I1, r1, l, xs, ex, hq, h1, q1⟩ => PyProof.Rows.args_nil ?_) na) na rfl
  subst ex
  cases r1
  obtain ⟨its, r, pl, hz⟩ := I1.list hq
  have hl : its.toArray.size = xs.length := by rw [List.size_toArray, ← r.length, List.length_map]
  refine call_set_listT (I1.ok.hd hc) pl.isList (by simpa using strsAre_of r) h1 fun h' tk hS hk => PyProof.Rows.args_nil ?_
  rw [hl] at hS
  have hn1 := nT_le xs xs.length
  obtain ⟨o, es, ep, t, ho, hex, hd, _, _, _, hf, hn⟩ := hS
  have I2 : Inv X pins σ H1 { s1 with heap := h', toks := tk } := I1.kept fun b o e => hk b o (Heap.lt_size e) e
  exact call_len_set ho hex hd hf (by rw [hn]; omega) ⟨.int (nT xs xs.length), H1, I2.tok _, ⟨_, by rw [hn]⟩, q1⟩
theorem se_lenSet (hm : X.mg "len" = none) (hm2 : X.mg "set" = none) (he : SE ct X W a fe) (hc : X.calm = true := by rfl) (hg : Gl X "len" := by rfl) (hg2 : Gl X "set" := by rfl)
    (na : starEach [a] X.env = (false, eval a X.env) :: starEach [] X.env := by rfl) : SE ct X W (.Call (.Name "len" p) [.Call (.Name "set" p2) [a] [] q] [] pos) (eCall lenSetA (aCons fe aNil)) :=
  PE.imp (pe_lenSetT hc hg hm hg2 hm2 he na) fun σ H Q ⟨m, A, h, hr, en, po⟩ => ⟨m, A, h, hr, en, by
    have po1 := Post.bind po
    have po2 := Post.bind po1
    refine po2.imp fun d m1 h1 H1 e1 r1 p1 v rv => ?_
    have p1 : Post X.K ct m1 H1 W σ (.ok [d] h1) _ := p1
    have p2 := p1.here r1
    unfold lenSetA at p2
    split at p2
    · rename_i n ed
      cases ed
      split at p2
      · rename_i xs ex
        split at p2
        · rename_i ys ey
          split at p2
          · rename_i hl
            obtain ⟨b, vs, rfl, _, rd, rl⟩ := r1.getL ex rv
            exact ⟨b, ys, rfl, by rw [← strsOf_rep ey rl]; exact .inl rd, hl, Post.val p2 r1 .int⟩
          · exact (show False from p2).elim
        · exact (show False from p2).elim
      · exact (show False from p2).elim
    · exact (show False from p2).elim⟩
end
end Led
/-! LedHead: the head: what the top has written, by names, as one Bool. -/
namespace Led
open PySem L2
abbrev Frg := PySem.W.Frag
open He (ga ma fAd ba)
/-- the classes by their names -/
def ctOf (cn : List Str) (K : Frg) (w : World) : CTab := ⟨fun c => ga K (cn.getD c ""), w⟩
def insB (K : Frg) (C : Addr) : Bool := (PySem.W.plainGet K C Str.empty && (PySem.W.hasDictIn K C && (PySem.W.plainOver K C && He.eqO (PySem.W.findIn K (.ref C) "__setattr__") (some (some (.builtin "object.__setattr__")))))) &&
  (He.eqO (PySem.W.findIn K (.ref C) "__class__") (some (some (.builtin "object.__class__"))) && (He.eqO (PySem.W.specialIn K (.builtin "object.__class__") "__get__") (some (some (.builtin "getset_descriptor.__get__"))) &&
    (decide (PySem.W.takesIn K (.builtin "object.__class__") = some true) && decide (PySem.W.mroIn K C (.type "object") = some true))))
theorem insB_ok {K : Frg} {C : Addr} (h : insB K C = true) : InsF K C := by
  obtain ⟨c, h⟩ := ba h
  obtain ⟨c1, c⟩ := ba c
  obtain ⟨c2, c⟩ := ba c
  obtain ⟨c3, c4⟩ := ba c
  obtain ⟨h1, h⟩ := ba h
  obtain ⟨h2, h⟩ := ba h
  obtain ⟨h3, h4⟩ := ba h
  exact ⟨⟨c1, c2, c3, He.eqO_ok c4⟩, He.eqO_ok h1, He.eqO_ok h2, of_decide_eq_true h3, of_decide_eq_true h4⟩
/-- what is asked of the classes: which are plain, their fields, isinstance -/
structure TabD where
  cs : List Nat
  fl : List (Nat × List Str)
  is : List (Ty × Ty × Bool)
def lookN {α : Type} (c : Nat) : List (Nat × α) → Option α
  | [] => none
  | (k, x) :: r => if k = c then some x else lookN c r
theorem lookN_mem {α : Type} {c : Nat} {x : α} : ∀ {l : List (Nat × α)}, lookN c l = some x → (c, x) ∈ l
  | [], h => by cases h
  | (k, y) :: r, h => by
    unfold lookN at h
    split at h
    · rename_i e
      subst e
      cases h
      exact List.mem_cons_self
    · exact List.mem_cons_of_mem _ (lookN_mem h)
def lookT (t u : Ty) : List (Ty × Ty × Bool) → Option Bool
  | [] => none
  | (a, b, x) :: r => if a = t ∧ b = u then some x else lookT t u r
theorem lookT_mem {t u : Ty} {x : Bool} : ∀ {l : List (Ty × Ty × Bool)}, lookT t u l = some x → (t, u, x) ∈ l
  | [], h => by cases h
  | (a, b, y) :: r, h => by
    unfold lookT at h
    split at h
    · rename_i e
      obtain ⟨rfl, rfl⟩ := e
      cases h
      exact List.mem_cons_self
    · exact List.mem_cons_of_mem _ (lookT_mem h)
def TabD.T (d : TabD) : Tabs := ⟨fun c => d.cs.contains c, fun c => (lookN c d.fl).getD [], fun t u => lookT t u d.is⟩
def tyK (cn : List Str) (K : Frg) : Ty → Value
  | .b n => .type n
  | .c n => .ref (ga K (cn.getD n ""))
theorem tyK_eq (cn : List Str) (K : Frg) (w : World) (t : Ty) : tyV (ctOf cn K w) t = tyK cn K t := by cases t <;> rfl
def TabD.ok (d : TabD) (cn : List Str) (K : Frg) : Bool := (d.cs.all fun c => insB K (ga K (cn.getD c ""))) && ((d.fl.all fun p => p.2.all fun f => He.eqO (PySem.W.findIn K (.ref (ga K (cn.getD p.1 ""))) f) (some none)) &&
  d.is.all fun q => decide (PySem.W.kitOne K (tyK cn K q.1) (tyK cn K q.2.1) = some q.2.2))
theorem TabD.tabOk {d : TabD} {cn : List Str} {K : Frg} {w : World} (h : d.ok cn K = true) : TabOk K (ctOf cn K w) d.T := by
  obtain ⟨h1, h⟩ := ba h
  obtain ⟨h2, h3⟩ := ba h
  refine ⟨fun c hc => ?_, fun c f hf => ?_, fun t u b hb => ?_⟩
  · have hm : c ∈ d.cs := List.contains_iff_mem.mp hc
    exact insB_ok (List.all_eq_true.mp h1 c hm)
  · have hf : ((lookN c d.fl).getD []).contains f = true := hf
    cases e : lookN c d.fl with
    | none => rw [e] at hf; cases hf
    | some l =>
      rw [e] at hf
      have hm : f ∈ l := List.contains_iff_mem.mp hf
      exact He.eqO_ok (List.all_eq_true.mp (List.all_eq_true.mp h2 _ (lookN_mem e)) f hm)
  · rw [tyK_eq, tyK_eq]
    exact of_decide_eq_true (List.all_eq_true.mp h3 _ (lookT_mem hb))
/-- an own exception class with its own __init__ -/
def oexB (K : Frg) (C : Addr) : Bool := (match K.lookup C with
  | some ⟨.type t, _, .cls cd, sl⟩ => (match cd.mro, sl.toList with
    | .ref C' :: bm, [_, _, _, _, some (.builtin n), _] => decide (t = "type") && (decide (C' = C) && (decide (n = "ValueError.__new__") && (!cd.hasDel && (cd.hasDict && PySem.HandSPX.refsVE bm))))
    | _, _ => false)
  | _ => false) && (He.eqO (PySem.W.findIn K (.ref C) "__setattr__") (some (some (.builtin "object.__setattr__"))) && (decide (PySem.W.subIn K (.ref C) (.type "BaseException") = some true) && (decide (PySem.W.typeIn K (.ref C) = some (.type "type")) && PySem.W.keepIn K (.ref C))))
theorem oexB_ok {K : Frg} {C : Addr} (h : oexB K C = true) : OexC K C := by
  obtain ⟨h1, h⟩ := ba h
  obtain ⟨h2, h⟩ := ba h
  obtain ⟨h3, h⟩ := ba h
  obtain ⟨h4, h5⟩ := ba h
  refine ⟨?_, He.eqO_ok h2, of_decide_eq_true h3, of_decide_eq_true h4, h5⟩
  split at h1
  · rename_i t dd cd sl hl
    split at h1
    · rename_i C' bm k0 k1 k2 k3 n k5 hm hs
      obtain ⟨q1, h1⟩ := ba h1
      obtain ⟨q2, h1⟩ := ba h1
      obtain ⟨q3, h1⟩ := ba h1
      obtain ⟨q4, h1⟩ := ba h1
      obtain ⟨q5, q6⟩ := ba h1
      have q1 := of_decide_eq_true q1
      have q2 := of_decide_eq_true q2
      have q3 := of_decide_eq_true q3
      subst q1 q2 q3
      obtain ⟨nm, bs, mro, ns, qn, hd, sn, sub, ab, col, del⟩ := cd
      dsimp only at hm q4 q5
      have q4 : del = false := by simpa using q4
      subst hm q4 q5
      have hsl : sl = #[k0, k1, k2, k3, some (.builtin "ValueError.__new__"), k5] := by
        obtain ⟨l⟩ := sl
        simp only at hs
        rw [hs]
      subst hsl
      exact ⟨nm, qn, ns, bs, bm, sn, sub, ab, col, dd, k0, k1, k2, k3, k5, hl, q6⟩
    · cases h1
  · cases h1
/-- facts by names -/
inductive Fc where
  | fa (f : He.Fa)
  | same (x m y m' : Str)
  | oex (x : Str)
  | xf (x : Str)
  | ini (x : Str)
  | eqf (x : Str)
  | nf (x : Str) (t : Ty)
  | tupc (x : Str) (d : D)
def Fc.ok (cn : List Str) (K : Frg) : Fc → Bool
  | .fa f => f.ok K
  | .same x m y m' => decide (ma K (ga K x) m = ma K (ga K y) m')
  | .oex x => oexB K (ga K x)
  | .xf x => xfB K (ga K x)
  | .ini x => He.eqO (PySem.W.findIn K (.ref (ga K x)) "__init__") (some (some (.ref (ma K (ga K x) "__init__")))) && decide (PySem.W.typeIn K (.ref (ma K (ga K x) "__init__")) = some (.type "function"))
  | .eqf x => He.eqO (PySem.W.findIn K (.ref (ga K x)) "__eq__") (some (some (.ref (ma K (ga K x) "__eq__")))) && PySem.W.isFn K (.ref (ma K (ga K x) "__eq__"))
  | .nf x t => PySem.W.notFirst K (ga K x) (tyK cn K t)
  | .tupc x d => tupB K d (.ref (ga K x))
/-! ### the hook -/
structure HeadD where
  cn : List Str
  tab : TabD
  nf : List (Nat × Ty)
  ms : List (Nat × Str × Str)
  ex : List (Nat × Nat × Bool)
  xf : List (Nat × List Str)
  fc : List Fc
  fn : List He.DefD
def HeadD.C (d : HeadD) (K : Frg) (c : Nat) : Addr := ga K (d.cn.getD c "")
def HeadD.ok (d : HeadD) (K : Frg) : Bool := d.tab.ok d.cn K && ((d.nf.all fun p => PySem.W.notFirst K (d.C K p.1) (tyK d.cn K p.2)) &&
  ((d.ms.all fun p => (He.Fa.meth (d.cn.getD p.1 "") p.2.1).ok K && decide (ma K (d.C K p.1) p.2.1 = ma K (ga K p.2.2) p.2.1)) &&
  ((d.ex.all fun p => decide (PySem.W.exmOne K (.ref (d.C K p.1)) (.ref (d.C K p.2.1)) = some p.2.2)) &&
  ((d.xf.all fun p => xfB K (d.C K p.1) && p.2.all fun f => He.eqO (PySem.W.findIn K (.ref (d.C K p.1)) f) (some none)) &&
  ((d.fc.all fun f => f.ok d.cn K) && d.fn.all fun f => f.ok K)))))
def obsL (d : HeadD) (K : Frg) : He.AlD := (d.ok K, d.fn.map fun f => He.fnW K f.at_)
def valL (d : HeadD) : He.AlD := (true, d.fn.map He.DefD.val)
def SaysL (d : HeadD) (K : Frg) : Prop := obsL d K = valL d
def notL (o : Obj) : Bool := match o.cls with
  | .type n => !(n == "list")
  | _ => true
def frL (g : Addr → Option Obj) (as : List Addr) : Frg := (He.frG g as).filter fun q => notL q.2
theorem mem_lookup {a : Addr} {o : Obj} : ∀ {l : List (Addr × Obj)}, l.lookup a = some o → (a, o) ∈ l
  | [], h => by cases h
  | (b, u) :: r, h => by
    have h2 : (match a == b with | true => some u | false => r.lookup a) = some o := h
    cases q : (a == b) with
    | true =>
      rw [q] at h2
      have e : u = o := Option.some.inj h2
      rw [beq_iff_eq.mp q, e]
      exact List.mem_cons_self
    | false =>
      rw [q] at h2
      exact List.mem_cons_of_mem _ (mem_lookup h2)
theorem frL_mem {g : Addr → Option Obj} {as : List Addr} {a : Addr} {o : Obj} (h : (frL g as).lookup a = some o) : g a = some o ∧ notL o = true := by
  obtain ⟨h1, h2⟩ := List.mem_filter.mp (mem_lookup h)
  refine ⟨?_, h2⟩
  unfold He.frG at h1
  obtain ⟨b, _, e⟩ := List.mem_filterMap.mp h1
  cases hb : g b with
  | none => rw [hb] at e; cases e
  | some u =>
    rw [hb] at e
    have e2 : (b, u) = (a, o) := Option.some.inj e
    injection e2 with e3 e4
    rw [← e3, ← e4]
    exact hb
/-- no list among the objects that the top has written -/
def NoLst (K : Frg) : Prop := ∀ a o, K.lookup a = some o → notL o = true
def obsLG (n : Nat) (d : HeadD) (g : Addr → Option Obj) : He.AlD := obsL d (frL g (He.asD g n))
def hookL (n : Nat) (d : HeadD) : PySem.W.Hook where
  α := He.AlD
  obs := fun s => obsLG n d s.heap.get?
  val := fun _ => valL d
  says := fun _ h => ∃ K : Frg, K.In h ∧ SaysL d K ∧ NoLst K
  of := fun _ _ e => ⟨_, fun _ _ z => (frL_mem z).1, e, fun _ _ z => (frL_mem z).2⟩
  keeps := fun _ _ _ ⟨K, hK, c⟩ k => ⟨K, PySem.W.Frag.In.keeps hK k, c⟩
theorem obsLG_eq {n : Nat} {d : HeadD} {g : Addr → Option Obj} {s : Shared} (h : ∀ a, g a = s.heap.get? a) : obsLG n d g = (hookL n d).obs s := by
  have e : g = s.heap.get? := funext h
  rw [e] <;> rfl
/-- a def of the text, by its place -/
abbrev defD (at_ : Str × Option Str) (name qual : Str) (st : Stmt) : He.DefD := ⟨at_, name, qual, defArgs st, defBody st, defScope st, [], []⟩
section
variable {d : HeadD} {K : Frg}
theorem SaysL.all (c : SaysL d K) : d.ok K = true := congrArg (fun z : He.AlD => z.1) c
theorem SaysL.tabOk (c : SaysL d K) (w : World) : TabOk K (ctOf d.cn K w) d.tab.T := TabD.tabOk (ba c.all).1
theorem SaysL.nfOk (c : SaysL d K) (w : World) (k : Nat) (t : Ty) (h : decide ((k, t) ∈ d.nf) = true) : PySem.W.notFirst K ((ctOf d.cn K w).ad k) (tyV (ctOf d.cn K w) t) = true := by
  rw [tyK_eq]
  exact List.all_eq_true.mp (ba (ba c.all).2).1 _ (of_decide_eq_true h)
theorem SaysL.meth (c : SaysL d K) {k : Nat} {m y : Str} (h : (k, m, y) ∈ d.ms) : Meth K (d.C K k) m (ma K (ga K y) m) := by
  obtain ⟨h1, h2⟩ := ba (List.all_eq_true.mp (ba (ba (ba c.all).2).2).1 _ h)
  have := He.meth_ok h1
  rw [← of_decide_eq_true h2]
  exact this
def isxOf (d : HeadD) (y : Nat) : Nat → Option Bool := fun k => lookN k (d.ex.filterMap fun p => if p.2.1 = y then some (p.1, p.2.2) else none)
theorem isx_mem {y k : Nat} {b : Bool} (h : isxOf d y k = some b) : (k, y, b) ∈ d.ex := by
  obtain ⟨p, hp, e⟩ := List.mem_filterMap.mp (lookN_mem h)
  obtain ⟨a, a', b'⟩ := p
  dsimp only at e
  split at e
  · rename_i e'
    subst e'
    cases e
    exact hp
  · cases e
theorem SaysL.isx (c : SaysL d K) (w : World) (y k : Nat) (b : Bool) (h : isxOf d y k = some b) : PySem.W.exmOne K (.ref ((ctOf d.cn K w).ad k)) (.ref ((ctOf d.cn K w).ad y)) = some b :=
  of_decide_eq_true (List.all_eq_true.mp (ba (ba (ba (ba c.all).2).2).2).1 _ (isx_mem h))
/-- every class that the clause y takes has its fields told -/
def xfAll (d : HeadD) (y : Nat) (f : Str) : Bool := d.ex.all fun p => !(decide (p.2.1 = y) && p.2.2) || (d.xf.any fun q => decide (q.1 = p.1) && q.2.contains f)
theorem xf_get (c : SaysL d K) {y k : Nat} {f : Str} (ha : xfAll d y f = true) (h : isxOf d y k = some true) : XfC K (d.C K k) ∧ PySem.W.findIn K (.ref (d.C K k)) f = some none := by
  have h1 := List.all_eq_true.mp ha _ (isx_mem h)
  simp only [decide_true, Bool.and_true, Bool.not_true, Bool.false_or] at h1
  obtain ⟨q, hq, e⟩ := List.any_eq_true.mp h1
  obtain ⟨e1, e2⟩ := ba e
  have e1 := of_decide_eq_true e1
  obtain ⟨z1, z2⟩ := ba (List.all_eq_true.mp (ba (ba (ba (ba (ba c.all).2).2).2).2).1 q hq)
  rw [e1] at z1 z2
  exact ⟨xfB_ok z1, He.eqO_ok (List.all_eq_true.mp z2 f (List.contains_iff_mem.mp e2))⟩
theorem SaysL.fact (c : SaysL d K) (i : Nat) {f : Fc} (h : d.fc[i]? = some f := by rfl) : f.ok d.cn K = true := List.all_eq_true.mp (ba (ba (ba (ba (ba (ba c.all).2).2).2).2).2).1 f (List.mem_of_getElem? h)
theorem SaysL.def_ (c : SaysL d K) (i : Nat) {at_ : Str × Option Str} {name qual : Str} {st : Stmt} (h : d.fn[i]? = some (defD at_ name qual st) := by rfl) : ∃ fd, Fun K name qual st (fAd K at_) fd := by
  have e : d.fn.map (fun f => He.fnW K f.at_) = d.fn.map He.DefD.val := congrArg (fun z : He.AlD => z.2) c
  have e2 : (d.fn.map fun f => He.fnW K f.at_)[i]? = (d.fn.map He.DefD.val)[i]? := by rw [e]
  rw [List.getElem?_map, List.getElem?_map, h] at e2
  obtain ⟨fd, F⟩ := He.DefD.funD (d := defD at_ name qual st) (Option.some.inj e2) (List.all_eq_true.mp (ba (ba (ba (ba (ba (ba c.all).2).2).2).2).2).2 _ (List.mem_of_getElem? h))
  exact ⟨fd, He5.fun_of F⟩
variable {h : Heap} {mg : Str → Option Value}
theorem SaysL.glo (c : SaysL d K) (X : K.In h) (G : h.Ns mainGlobals mg) (i : Nat) {x : Str} (e : d.fc[i]? = some (.fa (.glo x)) := by rfl) : mg x = some (.ref (ga K x)) := He.glo_ok X G (c.fact i e)
theorem SaysL.free (c : SaysL d K) (X : K.In h) (G : h.Ns mainGlobals mg) (i : Nat) {x : Str} (e : d.fc[i]? = some (.fa (.free x)) := by rfl) : mg x = none := He.free_ok X G (c.fact i e)
theorem SaysL.ini (c : SaysL d K) (i : Nat) {x : Str} (e : d.fc[i]? = some (.ini x) := by rfl) : PySem.W.findIn K (.ref (ga K x)) "__init__" = some (some (.ref (ma K (ga K x) "__init__"))) ∧ PySem.W.typeIn K (.ref (ma K (ga K x) "__init__")) = some (.type "function") := by
  obtain ⟨h1, h2⟩ := ba (c.fact i e)
  exact ⟨He.eqO_ok h1, of_decide_eq_true h2⟩
theorem SaysL.eqf (c : SaysL d K) (i : Nat) {x : Str} (e : d.fc[i]? = some (.eqf x) := by rfl) : PySem.W.findIn K (.ref (ga K x)) "__eq__" = some (some (.ref (ma K (ga K x) "__eq__"))) ∧ PySem.W.isFn K (.ref (ma K (ga K x) "__eq__")) = true := by
  obtain ⟨h1, h2⟩ := ba (c.fact i e)
  exact ⟨He.eqO_ok h1, h2⟩
end
/-! ### the end -/
theorem fn_mkE {P : Program} {w : World} {K : Frg} {mg : Str → Option Value} {base : Heap} {ct : CTab} {x qual : Str} {st : Stmt} {f : Addr} {fd : FuncData} {N ps : List Str} {k n c : Nat} {g : AS} (F : Fun K x qual st f fd) (S : FnScope N ps (defScope st)) (hn : ps.length = n) (hc : N.length = c)
    (hbody : ∀ (cdv : Value) (A : Around) (outer : List Env) (s : Shared) (H : Hp) (E : XK), Room k (A.deeper (PyProof.Rows.envOfC qual (defScope st) s.heap.objs.size f cdv)) →
      CtxOk (cxOf (L2.CX P w) P w K mg base N qual (defScope st) f cdv A outer s H E) (fun cls d _ H => E cls d H) →
      SSs ct (cxOf (L2.CX P w) P w K mg base N qual (defScope st) f cdv A outer s H E) (fun cls d _ H => E cls d H) (defBody st) g) :
    FnOk P w K mg base CX0 (k + 1) f fd ps (fun vs H Q _ => spA K ct n (fnA n c g) vs H Q fun _ _ _ => False) := by
  have F1 : FnOk P w K mg base (L2.CX P w) (k + 1) f fd ps (spA K ct n (fnA n c g)) := by
    refine F.okX S (fun vs H Q E h => h.1.trans hn.symm) (fun cdv A outer s H vs Q E hr h => ?_)
    refine ⟨_, hbody cdv A outer s H E hr ⟨takes_of rfl rfl rfl rfl, passes_of rfl⟩, ?_⟩
    obtain ⟨hl, m, h, ds, hr, rl, po⟩ := h
    have hd : ds.length = n := rl.length.trans hl
    unfold fnA at po
    rw [if_pos hd] at po
    refine ⟨m, ds.map some ++ List.replicate (c - n) none, h, hr, ?_, ?_⟩
    · unfold L2.start
      rw [hc, hl]
      exact rl.env
    · cases e : g (ds.map some ++ List.replicate (c - n) none) h with
      | next A' h' => rw [e] at po; exact fun m' H' σ' ex hr' en => po m' H' ex hr' _ .non
      | ret d h' => rw [e] at po; exact fun m' H' v ex hr' rv => po m' H' ex hr' v rv
      | exc x A' h' => rw [e] at po; exact fun m' H' σ' cls d ex hr' en xr => po m' H' cls d ex hr' xr
      | brk A' h' => rw [e] at po; exact po.elim
      | cont A' h' => rw [e] at po; exact po.elim
      | stuck => rw [e] at po; exact po.elim
  refine ⟨fun vs H Q E h => F1.len vs H Q _ h, fun A outer s H args us vs Q E hr e0 hb hv hs => codeAny_mono (F1.run A outer s H args us vs Q (fun _ _ _ => False) hr e0 hb hv hs) fun r s' q => ?_⟩
  cases r with
  | error e =>
    obtain ⟨_, _, _, _, _, _, _, _, _, _, _, _, z⟩ := q
    exact z.elim
  | ok fl => cases fl <;> exact q
/-- the law's promise, from what its function gives for every script -/
theorem law_sp {K : Frg} {ct : CTab} {F : AF} {n : Nat} (nl : NoLst K) (hF : ∀ ns : List Int, ns.length ≤ n → ∃ h', F [.ref 0] [.fls (ns.map .int)] = .ok (.bl true) h') (H : Hp) (a : Addr) (ns : List Int) (hl : ns.length ≤ n) (hO : Only H) (hS : SqL K H a (ns.map V.int)) :
    spA K ct 1 F [.ref a] H (fun v _ => v = .bl true) fun _ _ _ => False := by
  have hH : ∃ o, H a = some (.frz o (.lst (ns.map V.int))) := by
    rcases hS with (h | ⟨o, h⟩) | ⟨o, its, k, h1, h2, _⟩
    · rcases hO a with z | ⟨o, xs, z⟩
      · rw [h] at z; cases z
      · rw [h] at z; cases z
    · exact ⟨o, h⟩
    · have := nl a o h1
      unfold notL at this
      rw [h2] at this
      cases this
  obtain ⟨o, hH⟩ := hH
  obtain ⟨h', e⟩ := hF ns hl
  have rl : ∀ (l : List Int), RepL K ct [some a] H (l.map .int) (l.map V.int) := fun l => by
    induction l with
    | nil => exact .nil
    | cons i l ih => exact .cons .int ih
  refine ⟨rfl, [some a], [.fls (ns.map .int)], [.ref 0], ⟨rfl, fun i q => ?_, fun i u q ng => ?_, fun i i' b q q' => ?_⟩, .cons (.ref rfl) .nil, ?_⟩
  · cases i with
    | zero => cases q
    | succ i => cases q
  · cases i with
    | zero => cases q; exact ⟨a, rfl, o, _, hH, rl ns⟩
    | succ i => cases q
  · cases i with
    | zero =>
      cases i' with
      | zero => rfl
      | succ i' => cases q'
    | succ i => cases q
  · rw [e]
    intro m' H' _ _ v rv
    exact rv.blv
end Led
/-! LedPure: how the abstract loops run. -/
namespace Led
open PySem L2
theorem set_last {α : Type} (l : List α) (a b : α) : (l ++ [a]).set l.length b = l ++ [b] := by
  induction l with
  | nil => rfl
  | cons c l ih => simp only [List.cons_append, List.length_cons, List.set_cons_succ, ih]
theorem get_last {α : Type} (l : List α) (a : α) : (l ++ [a])[l.length]? = some a := by simp
/-- a comprehension whose turns leave the heap alone -/
theorem lcN_pure {S : Src} {g : AG} {t : AT} {e : AE} {A : AEnv} {n : Nat} {items : List D} {tb : D → Bool} {ed : D → D} (I : AH → Prop) (hI : ∀ h ys, I h → I (h.set n (.lst ys))) (hS : ∀ h i, I h → S.nxt h i = some items[i]?)
    (he : ∀ h d, I h → d ∈ items → ∃ A1, g d A h = some A1 ∧ t A1 h = .ok (tb d) h ∧ (tb d = true → e A1 h = .ok (ed d) h)) :
    ∀ (f i : Nat) (h : AH) (xs : List D), I h → h[n]? = some (.lst xs) → items.length - i < f → xs.length + (items.length - i) ≤ sizeLine → lcN S g t e A n f i h = .ok () (h.set n (.lst (xs ++ ((items.drop i).filter tb).map ed))) := by
  intro f
  induction f with
  | zero => intro i h xs _ _ hf; omega
  | succ f ih =>
    intro i h xs hi hn hf hs
    unfold lcN
    rw [hS h i hi]
    have hlt : n < h.length := lt_of_get hn
    cases ed' : items[i]? with
    | none =>
      have hge : items.length ≤ i := List.getElem?_eq_none_iff.mp ed'
      rw [List.drop_eq_nil_of_le hge]
      simp only [List.filter_nil, List.map_nil, List.append_nil]
      rw [show h.set n (.lst xs) = h from by
        apply List.ext_getElem?
        intro j
        by_cases hj : n = j
        · subst hj; rw [List.getElem?_set_self hlt, hn]
        · rw [List.getElem?_set_ne hj]]
    | some d =>
      have hil : i < items.length := lt_of_get ed'
      have hd : items.drop i = d :: items.drop (i + 1) := by
        rw [List.drop_eq_getElem_cons hil]
        congr 1
        exact Option.some.inj ((List.getElem?_eq_getElem hil).symm.trans ed')
      obtain ⟨A1, e1, e2, e3⟩ := he h d hi (List.mem_of_getElem? ed')
      dsimp only
      rw [e1]
      dsimp only
      rw [e2]
      rw [hd]
      cases ht : tb d with
      | false =>
        show lcN S g t e A n f (i + 1) h = _
        rw [ih (i + 1) h xs hi hn (by omega) (by omega)]
        rw [List.filter_cons_of_neg (by rw [ht]; exact Bool.false_ne_true)]
      | true =>
        show ((e A1 h).calm.bind fun y h2 => (pushA n y h2).bind fun _ h3 => lcN S g t e A n f (i + 1) h3) = _
        rw [e3 ht]
        show ((pushA n (ed d) h).bind fun _ h3 => lcN S g t e A n f (i + 1) h3) = _
        unfold pushA
        rw [hn]
        dsimp only
        rw [if_pos (by omega)]
        show lcN S g t e A n f (i + 1) (h.set n (.lst (xs ++ [ed d]))) = _
        rw [ih (i + 1) _ (xs ++ [ed d]) (hI h _ hi) (List.getElem?_set_self hlt) (by omega) (by rw [List.length_append]; simp; omega)]
        rw [List.filter_cons_of_pos ht, List.map_cons, List.set_set, List.append_assoc]
        rfl
theorem eLc_pure {it : AI} {g : AG} {t : AT} {e : AE} {vs : List Nat} {A : AEnv} {h : AH} {S : Src} {items : List D} (tb : D → Bool) (ed : D → D) (hit : it A h = .ok S h) (hS : ∀ ys i, S.nxt (h ++ [.lst ys]) i = some items[i]?)
    (he : ∀ ys d, d ∈ items → ∃ A1, g d (wipeA A vs) (h ++ [.lst ys]) = some A1 ∧ t A1 (h ++ [.lst ys]) = .ok (tb d) (h ++ [.lst ys]) ∧ (tb d = true → e A1 (h ++ [.lst ys]) = .ok (ed d) (h ++ [.lst ys]))) (hl : items.length ≤ sizeLine) :
    eLc it g t e vs A h = .ok (.ref h.length) (h ++ [.lst ((items.filter tb).map ed)]) := by
  unfold eLc
  rw [hit]
  show lcR h.length (lcN S g t e (wipeA A vs) h.length FUEL 0 (h ++ [.lst []])) = _
  rw [lcN_pure (items := items) (tb := tb) (ed := ed) (fun h' => ∃ ys, h' = h ++ [.lst ys]) (fun h' ys ⟨zs, e⟩ => ⟨ys, by rw [e, set_last]⟩) (fun h' i ⟨zs, e⟩ => by rw [e]; exact hS zs i) (fun h' d ⟨zs, e⟩ hd => by rw [e]; exact he zs d hd)
    FUEL 0 _ [] ⟨[], rfl⟩ (get_last _ _) (Nat.lt_of_le_of_lt (by simpa using hl) (by decide : sizeLine < FUEL)) (by simpa using hl)]
  show Res.ok (D.ref h.length) _ = _
  rw [set_last]
  rfl
theorem bools_map (f : D → Bool) : ∀ l : List D, bools (l.map fun d => .bl (f d)) = some (l.map f)
  | [] => rfl
  | d :: l => by
    show (bools (l.map fun d => .bl (f d))).map (f d :: ·) = _
    rw [bools_map f l]
    rfl
/-- what a function answers that leaves the heap alone -/
inductive Ans where
  | val (d : D) | exc (x : Exc)
def clean (f : List D → AH → Option Ans) : AF := fun ds h => match f ds h with
  | some (.val d) => .ok d h
  | some (.exc x) => .exc x h
  | none => .stuck
theorem sim_clean {F : AF} {f : List D → AH → Option Ans} (hv : ∀ ds h d, f ds h = some (.val d) → ∃ h1, F ds h = .ok d h1 ∧ h <+: h1 ∧ Cl h.length d) (hx : ∀ ds h x, f ds h = some (.exc x) → ∃ h1, F ds h = .exc x h1 ∧ h <+: h1 ∧ ClF h.length x.fs) : SimQ F (clean f) := Sim.q fun ds h => by
  cases e : f ds h with
  | none => unfold clean; rw [e]; trivial
  | some a =>
    cases a with
    | val d =>
      obtain ⟨h1, e1, p, c⟩ := hv ds h d e
      unfold clean
      rw [e]
      exact ⟨h1, e1, Tr.refl_of p, c⟩
    | exc x =>
      obtain ⟨h1, e1, p, c⟩ := hx ds h x e
      unfold clean
      rw [e]
      exact ⟨h1, e1, Tr.refl_of p, c⟩
theorem filter_true {α : Type} (l : List α) : l.filter (fun _ => true) = l := by induction l with
  | nil => rfl
  | cons a l ih => rw [List.filter_cons_of_pos rfl, ih]
/-! ### plain data, without the heap -/
mutual
def pd : D → Option PyData
  | .non => some .none
  | .bl b => some (.bool b)
  | .int i => some (.int i)
  | .str x => if PyData.strOk x = true then some (.str x) else none
  | .tup ds => (pdL ds).map .tuple
  | _ => none
def pdL : List D → Option (List PyData)
  | [] => some []
  | d :: ds => match pd d, pdL ds with
    | some p, some ps => some (p :: ps)
    | _, _ => none
end
mutual
theorem pd_toPy (h : AH) : ∀ (n : Nat) (d : D) (p : PyData), pd d = some p → p.depth ≤ n → toPy h n d = some p
  | n, .non, p, e, _ => by cases e; cases n <;> rfl
  | n, .bl b, p, e, _ => by cases e; cases n <;> rfl
  | n, .int b, p, e, _ => by cases e; cases n <;> rfl
  | n, .str b, p, e, _ => by
    unfold pd at e
    split at e
    · cases e; cases n <;> rfl
    · cases e
  | n, .tup ds, p, e, hp => by
    unfold pd at e
    cases q : pdL ds with
    | none => rw [q] at e; cases e
    | some ps =>
      rw [q] at e
      cases e
      have hp : PyData.depthAll ps + 1 ≤ n := by simpa [PyData.depth] using hp
      match n, hp with
      | n + 1, hp =>
        show (toPyL (toPy h n) ds).map PyData.tuple = _
        rw [pdL_toPy h n ds ps q (by omega)]
        rfl
  | n, .obj _ _, p, e, _ => by cases e
  | n, .ref _, p, e, _ => by cases e
  | n, .ty _, p, e, _ => by cases e
  | n, .cls _, p, e, _ => by cases e
theorem pdL_toPy (h : AH) : ∀ (n : Nat) (ds : List D) (ps : List PyData), pdL ds = some ps → PyData.depthAll ps ≤ n → toPyL (toPy h n) ds = some ps
  | n, [], ps, e, _ => by cases e; rfl
  | n, d :: ds, ps, e, hp => by
    unfold pdL at e
    split at e
    · rename_i p qs e1 e2
      cases e
      have hp : max p.depth (PyData.depthAll qs) ≤ n := by simpa [PyData.depthAll] using hp
      unfold toPyL
      rw [pd_toPy h n d p e1 (by omega), pdL_toPy h n ds qs e2 (by omega)]
      rfl
    · cases e
end
mutual
theorem pd_lay : ∀ (d : D) (p : PyData), pd d = some p → p.canLay0 = true
  | .non, p, e => by cases e; rfl
  | .bl b, p, e => by cases e; rfl
  | .int b, p, e => by cases e; rfl
  | .str b, p, e => by
    unfold pd at e
    split at e
    · rename_i hs; cases e; simpa [PyData.canLay0] using hs
    · cases e
  | .tup ds, p, e => by
    unfold pd at e
    cases q : pdL ds with
    | none => rw [q] at e; cases e
    | some ps => rw [q] at e; cases e; simpa [PyData.canLay0] using pdL_lay ds ps q
  | .obj _ _, p, e => by cases e
  | .ref _, p, e => by cases e
  | .ty _, p, e => by cases e
  | .cls _, p, e => by cases e
theorem pdL_lay : ∀ (ds : List D) (ps : List PyData), pdL ds = some ps → PyData.canLayAll0 ps = true
  | [], ps, e => by cases e; rfl
  | d :: ds, ps, e => by
    unfold pdL at e
    split at e
    · rename_i p qs e1 e2
      cases e
      have h1 := pd_lay d p e1
      have h2 := pdL_lay ds qs e2
      simp [PyData.canLayAll0, h1, h2]
    · cases e
end
theorem py_pd {h : AH} {d : D} {p : PyData} (e : pd d = some p) (hp : p.depth ≤ 40) : py h d = some p := by
  unfold py
  rw [pd_toPy h 40 d p e hp]
  have hs : SeqAt.shaped p = true := by
    unfold SeqAt.shaped
    rw [pd_lay d p e, Bool.true_and]
    exact decide_eq_true (Nat.le_trans hp (by decide))
  dsimp only
  rw [if_pos hs]
theorem py_lst {h : AH} {n : Nat} {xs : List D} {ps : List PyData} (g : getL h n = some xs) (e : pdL xs = some ps) (hp : PyData.depthAll ps ≤ 39) : py h (.ref n) = some (.list ps) := by
  unfold py
  have e1 : toPy h 40 (.ref n) = some (.list ps) := by
    show (match getL h n with
      | some xs => (toPyL (toPy h 39) xs).map PyData.list
      | none => none) = _
    rw [g]
    show (toPyL (toPy h 39) xs).map PyData.list = _
    rw [pdL_toPy h 39 xs ps e hp]
    rfl
  rw [e1]
  have hs : SeqAt.shaped (.list ps) = true := by
    unfold SeqAt.shaped
    have h1 : (PyData.list ps).canLay0 = true := by simpa [PyData.canLay0] using pdL_lay xs ps e
    rw [h1, Bool.true_and]
    refine decide_eq_true ?_
    have : (PyData.list ps).depth = PyData.depthAll ps + 1 := by simp [PyData.depth]
    omega
  dsimp only
  rw [if_pos hs]
theorem eqA_py {h : AH} {x y : D} {p q : PyData} (ex : py h x = some p) (ey : py h y = some q) : eqA x y h = .ok (.bl (PyData.eqv p q)) h := by unfold eqA; rw [ex, ey]
theorem neA_py {h : AH} {x y : D} {p q : PyData} (ex : py h x = some p) (ey : py h y = some q) : neA x y h = .ok (.bl (!PyData.eqv p q)) h := by unfold neA; rw [ex, ey]
/-- data, nested at most k deep -/
def okL (k : Nat) (l : List D) : Prop := ∀ d ∈ l, ∃ p, pd d = some p ∧ p.depth ≤ k
theorem okL.pdL {k : Nat} : ∀ {l : List D}, okL k l → ∃ ps, Led.pdL l = some ps ∧ PyData.depthAll ps ≤ k ∧ ps.length = l.length
  | [], _ => ⟨[], rfl, Nat.zero_le _, rfl⟩
  | d :: l, h => by
    obtain ⟨p, e1, h1⟩ := h d List.mem_cons_self
    obtain ⟨ps, e2, h2, h3⟩ := okL.pdL (l := l) fun x hx => h x (List.mem_cons_of_mem _ hx)
    refine ⟨p :: ps, ?_, ?_, ?_⟩
    · unfold Led.pdL; rw [e1, e2]
    · have : PyData.depthAll (p :: ps) = max p.depth (PyData.depthAll ps) := by simp [PyData.depthAll]
      omega
    · rw [List.length_cons, List.length_cons, h3]
theorem eqA_nil {h : AH} {n m k : Nat} {l : List D} (g : getL h n = some l) (o : okL k l) (hk : k ≤ 39) (g2 : getL h m = some []) : eqA (.ref n) (.ref m) h = .ok (.bl l.isEmpty) h := by
  obtain ⟨ps, e, hp, hl⟩ := o.pdL
  rw [eqA_py (py_lst g e (Nat.le_trans hp hk)) (py_lst g2 rfl (Nat.zero_le _))]
  cases l with
  | nil => cases ps with
    | nil => rfl
    | cons p ps => cases hl
  | cons d l => cases ps with
    | nil => cases hl
    | cons p ps => rfl
theorem getL_app {h : AH} {l : AH} {n : Nat} {xs : List D} (g : getL h n = some xs) : getL (h ++ l) n = some xs := by
  unfold getL at g ⊢
  cases e : h[n]? with
  | none => rw [e] at g; cases g
  | some o => rw [List.getElem?_append_left (lt_of_get e), e]; rw [e] at g; exact g
theorem getL_last (h : AH) (xs : List D) : getL (h ++ [.lst xs]) h.length = some xs := by unfold getL; rw [get_last]; rfl
theorem all_filter {α : Type} (f : α → Bool) : ∀ l : List α, (l.filter fun d => !f d).isEmpty = l.all f
  | [] => rfl
  | d :: l => by
    cases e : f d with
    | true => rw [List.filter_cons_of_neg (by simp [e]), List.all_cons, e, all_filter f l]; rfl
    | false => rw [List.filter_cons_of_pos (by simp [e]), List.all_cons, e]; rfl
end Led
/-! LedStep: the abstract constructs step by step. -/
namespace Led
open PySem L2
section
variable {A A1 : AEnv} {h h1 h2 h3 : AH} {f g k : AE} {t u : AT} {ga : AA} {x y z d : D} {ds : List D} {b : Bool} {op : D → D → AH → Res D} {s s' : AS} {e : Exc}
theorem ev_bin (hf : f A h = .ok x h1) (hg : g A h1 = .ok y h2) : eBin op f g A h = op x y h2 := by unfold eBin; rw [hf]; show (g A h1).bind _ = _; rw [hg]; rfl
theorem ev_un {op : D → AH → Res D} (hf : f A h = .ok x h1) : eUn op f A h = op x h1 := by unfold eUn; rw [hf]; rfl
theorem ev_call {F : AF} (hg : ga A h = .ok ds h1) : eCall F ga A h = F ds h1 := by unfold eCall; rw [hg]; rfl
theorem ev_cons (hf : f A h = .ok d h1) (hg : ga A h1 = .ok ds h2) : aCons f ga A h = .ok (d :: ds) h2 := by unfold aCons; rw [hf]; show (ga A h1).bind _ = _; rw [hg]; rfl
theorem ev_nil : aNil A h = .ok [] h := rfl
theorem ev_tup (hg : ga A h = .ok ds h1) (hl : ds.length ≤ sizeLine) : eTup ga A h = .ok (.tup ds) h1 := by unfold eTup; rw [hg]; show (if _ then _ else _) = _; rw [if_pos hl]
theorem ev_lst (hg : ga A h = .ok ds h1) (hl : ds.length ≤ sizeLine) : eLst ga A h = .ok (.ref h1.length) (h1 ++ [.lst ds]) := by unfold eLst; rw [hg]; show (if _ then _ else _) = _; rw [if_pos hl]
theorem ev_ift (ht : t A h = .ok true h1) : eIfA t f g A h = f A h1 := by unfold eIfA; rw [ht]; rfl
theorem ev_iff (ht : t A h = .ok false h1) : eIfA t f g A h = g A h1 := by unfold eIfA; rw [ht]; rfl
theorem ev_tE (hf : f A h = .ok (.bl b) h1) : tE f A h = .ok b h1 := by unfold tE; rw [hf]; rfl
theorem ev_tnot (ht : t A h = .ok b h1) : tNotA t A h = .ok (!b) h1 := by unfold tNotA; rw [ht]; rfl
theorem ev_tand_t (ht : t A h = .ok true h1) : tAndA t u A h = u A h1 := by unfold tAndA; rw [ht]; rfl
theorem ev_tand_f (ht : t A h = .ok false h1) : tAndA t u A h = .ok false h1 := by unfold tAndA; rw [ht]; rfl
theorem ev_tor_t (ht : t A h = .ok true h1) : tOrA t u A h = .ok true h1 := by unfold tOrA; rw [ht]; rfl
theorem ev_tor_f (ht : t A h = .ok false h1) : tOrA t u A h = u A h1 := by unfold tOrA; rw [ht]; rfl
theorem ev_and_t (ht : f A h = .ok (.bl true) h1) : eAndA f g A h = g A h1 := by unfold eAndA; rw [ht]; rfl
theorem ev_and_f (ht : f A h = .ok (.bl false) h1) : eAndA f g A h = .ok (.bl false) h1 := by unfold eAndA; rw [ht]; rfl
theorem ev_or_t (ht : f A h = .ok (.bl true) h1) : eOrA f g A h = .ok (.bl true) h1 := by unfold eOrA; rw [ht]; rfl
theorem ev_or_f (ht : f A h = .ok (.bl false) h1) : eOrA f g A h = g A h1 := by unfold eOrA; rw [ht]; rfl
theorem ev_not (ht : f A h = .ok (.bl b) h1) : eNotA f A h = .ok (.bl (!b)) h1 := by unfold eNotA; rw [ht]; rfl
theorem ev_fld {T : Tabs} {n : Str} (hf : f A h = .ok x h1) : eFld T n f A h = fldA T n x h1 := by unfold eFld; rw [hf]; rfl
/-! statements -/
theorem st_seq (hs : s A h = .next A1 h1) : sSeq s s' A h = s' A1 h1 := by unfold sSeq; rw [hs]
theorem st_seq_ret (hs : s A h = .ret d h1) : sSeq s s' A h = .ret d h1 := by unfold sSeq; rw [hs]
theorem st_seq_exc (hs : s A h = .exc e A1 h1) : sSeq s s' A h = .exc e A1 h1 := by unfold sSeq; rw [hs]
theorem st_seq_cont (hs : s A h = .cont A1 h1) : sSeq s s' A h = .cont A1 h1 := by unfold sSeq; rw [hs]
theorem st_seq_brk (hs : s A h = .brk A1 h1) : sSeq s s' A h = .brk A1 h1 := by unfold sSeq; rw [hs]
theorem st_ift (ht : t A h = .ok true h1) : sIf t s s' A h = s A h1 := by unfold sIf; rw [ht]; rfl
theorem st_iff (ht : t A h = .ok false h1) : sIf t s s' A h = s' A h1 := by unfold sIf; rw [ht]; rfl
theorem st_ret (hf : f A h = .ok d h1) : sRet f A h = .ret d h1 := by unfold sRet; rw [hf]; rfl
theorem st_set {i : Nat} (hf : f A h = .ok d h1) : sSet i f A h = .next (A.set i (some d)) h1 := by unfold sSet; rw [hf]; rfl
theorem st_set_exc {i : Nat} (hf : f A h = .exc e h1) : sSet i f A h = .exc e A h1 := by unfold sSet; rw [hf]; rfl
theorem st_drop (hf : f A h = .ok d h1) : sDrop f A h = .next A h1 := by unfold sDrop; rw [hf]; rfl
theorem st_asg {G : AG} (hf : f A h = .ok d h1) (hg : G d A h1 = some A1) : sAsg G f A h = .next A1 h1 := by unfold sAsg; rw [hf]; show (match G d A h1 with | some A' => SRes.next A' h1 | none => SRes.stuck) = _; rw [hg]
theorem st_par {i j : Nat} (hg : ga A h = .ok [x, y] h1) : sPar i j ga A h = .next ((A.set i (some x)).set j (some y)) h1 := by unfold sPar; rw [hg]; rfl
theorem st_fld {T : Tabs} {n : Str} {h' : AH} (hv : g A h = .ok d h1) (ho : f A h1 = .ok x h2) (hs : setFA T n x d h2 = some h') : sFldA T n f g A h = .next A h' := by unfold sFldA; rw [hv]; show (f A h1).toS A _ = _; rw [ho]; show (match setFA T n x d h2 with | some h3 => SRes.next A h3 | none => SRes.stuck) = _; rw [hs]
theorem st_fld_exc {T : Tabs} {n : Str} (hv : g A h = .exc e h1) : sFldA T n f g A h = .exc e A h1 := by unfold sFldA; rw [hv]; rfl
theorem st_raise {m : AX} (hm : m A h = .ok e h1) : sRaise m A h = .exc e A h1 := by unfold sRaise; rw [hm]; rfl
theorem ev_mkX {c : Nat} {ns : List Str} (hg : ga A h = .ok ds h1) (hl : ds.length = ns.length) (hl' : ds.length ≤ 1000) : mkXA c ns ga A h = .ok ⟨c, zr ns ds []⟩ h1 := by unfold mkXA; rw [hg]; show (if _ then _ else _) = _; rw [if_pos ⟨hl, hl'⟩]
/-! defs -/
theorem fn_ret {n c : Nat} (hl : ds.length = n) (hs : s (ds.map some ++ List.replicate (c - n) none) h = .ret d h1) : fnA n c s ds h = .ok d h1 := by unfold fnA; rw [if_pos hl, hs]
theorem fn_next {n c : Nat} (hl : ds.length = n) (hs : s (ds.map some ++ List.replicate (c - n) none) h = .next A1 h1) : fnA n c s ds h = .ok .non h1 := by unfold fnA; rw [if_pos hl, hs]
theorem fn_exc {n c : Nat} (hl : ds.length = n) (hs : s (ds.map some ++ List.replicate (c - n) none) h = .exc e A1 h1) : fnA n c s ds h = .exc e h1 := by unfold fnA; rw [if_pos hl, hs]
theorem st_try {body : AS} {isx : Nat → Option Bool} {i : Nat} {sx : Exc → AS} (hb : body A h = .next A1 h1) : sTry body isx i sx A h = .next A1 h1 := by unfold sTry; rw [hb]
theorem st_try_exc {body : AS} {isx : Nat → Option Bool} {i : Nat} {sx : Exc → AS} {A2 : AEnv} (hb : body A h = .exc e A1 h1) (hi : isx e.c = some true) (hl : i < A1.length) (hs : sx e (A1.set i none) h1 = .next A2 h2) : sTry body isx i sx A h = .next (A2.set i none) h2 := by
  unfold sTry
  rw [hb]
  dsimp only
  rw [hi]
  dsimp only
  rw [if_pos hl, hs]
end
end Led
/-! LedDig: the laws' own source of digits. -/
namespace Led
open PySem L2
def digB : AS := (sSeq (sIf (tE (eBin (cmpI (fun i j => decide (j < i))) (eBin ixA (eVar 0) (eC (.int 0))) (eC (.int 0)))) (sSeq (sSet 3 (eBin modA (eCall intA (aCons (eBin ixA (eVar 0) (eC (.int 0))) aNil)) (eVar 1)))
  (sSeq (sSub (eVar 0) (eC (.int 0)) (eBin fdivA (eBin ixA (eVar 0) (eC (.int 0))) (eVar 1)))
  (sRet (eVar 3)))) sNil)
  (sSeq (sSet 2 (eBin mulA (eBin ixA (eVar 0) (eC (.int 1))) (eBin addA (eBin fdivA (eBin ixA (eVar 0) (eC (.int 1))) (eC (.int 1009))) (eC (.int 69621)))))
  (sSeq (sSub (eVar 0) (eC (.int 1)) (eBin addA (eBin modA (eCall intA (aCons (eBin addA (eVar 2) (eBin ixA (eVar 0) (eC (.int 2)))) aNil)) (eC (.int 2147483629))) (eC (.int 7))))
  (sRet (eBin modA (eCall intA (aCons (eBin fdivA (eBin ixA (eVar 0) (eC (.int 1))) (eC (.int 97))) aNil)) (eVar 1))))))
def stB : AS := (sSeq (sSet 0 (eCall absA (aCons (eVar 0) aNil)))
  (sRet (eLst (aCons (eBin mulA (eVar 0) (eCall intA (aCons (eBin (cmpI (fun i j => decide (j ≤ i))) (eVar 0) (eBin powA (eC (.int 10)) (eC (.int 18)))) aNil))) (aCons (eBin addA (eBin modA (eCall intA (aCons (eVar 0) aNil)) (eC (.int 2147483629))) (eC (.int 7))) (aCons (eBin modA (eCall intA (aCons (eVar 0) aNil)) (eC (.int 2147483587))) aNil))))))
/-- a state of the source stands at n -/
def StA (o : AO) : Prop := ∃ p q r : Int, o = .lst [.int p, .int q, .int r] ∧ 0 ≤ q ∧ q < 2 ^ 40 ∧ 0 ≤ p
def St (h : AH) (n : Nat) : Prop := ∃ o, h[n]? = some o ∧ StA o
theorem ix0 {h : AH} {n : Nat} {p q r : D} (e : h[n]? = some (.lst [p, q, r])) : ixA (.ref n) (.int 0) h = .ok p h := by unfold ixA; dsimp only; rw [e]; rfl
theorem ix1 {h : AH} {n : Nat} {p q r : D} (e : h[n]? = some (.lst [p, q, r])) : ixA (.ref n) (.int 1) h = .ok q h := by unfold ixA; dsimp only; rw [e]; rfl
theorem ix2 {h : AH} {n : Nat} {p q r : D} (e : h[n]? = some (.lst [p, q, r])) : ixA (.ref n) (.int 2) h = .ok r h := by unfold ixA; dsimp only; rw [e]; rfl
theorem set0 {h : AH} {n : Nat} {p q r x : D} (e : h[n]? = some (.lst [p, q, r])) : setA (.ref n) (.int 0) x h = some (h.set n (.lst [x, q, r])) := by unfold setA; dsimp only; rw [e]; rfl
theorem set1 {h : AH} {n : Nat} {p q r x : D} (e : h[n]? = some (.lst [p, q, r])) : setA (.ref n) (.int 1) x h = some (h.set n (.lst [p, x, r])) := by unfold setA; dsimp only; rw [e]; rfl
theorem st_sub {A : AEnv} {h h1 h2 h3 h4 : AH} {fo fi fv : AE} {d o i : D} (hv : fv A h = .ok d h1) (ho : fo A h1 = .ok o h2) (hi : fi A h2 = .ok i h3) (hs : setA o i d h3 = some h4) : sSub fo fi fv A h = .next A h4 := by
  unfold sSub
  rw [hv]
  show (fo A h1).toS A _ = _
  rw [ho]
  show (fi A h2).toS A _ = _
  rw [hi]
  show (match setA o i d h3 with
    | some h4 => SRes.next A h4
    | none => SRes.stuck) = _
  rw [hs]
theorem ev_mod {h : AH} {i j : Int} (hj : 0 < j) : modA (.int i) (.int j) h = .ok (.int (i % j)) h := by show (if 0 < j then _ else _) = _; rw [if_pos hj]
theorem ev_fdiv {h : AH} {i j : Int} (hj : 0 < j) (hj' : j < 1073741824) : fdivA (.int i) (.int j) h = .ok (.int (i / j)) h := by show (if 0 < j ∧ j < 1073741824 then _ else _) = _; rw [if_pos ⟨hj, hj'⟩]
theorem ev_mul {h : AH} {i j : Int} (hj : (-(2 ^ 64) < i ∧ i < 2 ^ 64) ∨ (-(2 ^ 64) < j ∧ j < 2 ^ 64)) : mulA (.int i) (.int j) h = .ok (.int (i * j)) h := by show (if _ then _ else _) = _; rw [if_pos hj]
/-- a digit below b; the state goes on -/
theorem digit_ok {h : AH} {n : Nat} {b : Int} (st : St h n) (hb : 0 < b) (hb' : b < 1073741824) : ∃ (d : Nat) (o : AO), (d : Int) < b ∧ StA o ∧ fnA 2 4 digB [.ref n, .int b] h = .ok (.int d) (h.set n o) := by
  obtain ⟨_, e, p, q, r, rfl, hq, hq', hp0⟩ := st
  have hlt := lt_of_get e
  by_cases hp : 0 < p
  · refine ⟨(p % b).toNat, .lst [.int (p / b), .int q, .int r], ?_, ⟨_, _, _, rfl, hq, hq', Int.ediv_nonneg hp0 (by omega)⟩, ?_⟩
    · have := Int.emod_nonneg p (by omega : b ≠ 0)
      have := Int.emod_lt_of_pos p hb
      omega
    · rw [show (((p % b).toNat : Nat) : Int) = p % b from by have := Int.emod_nonneg p (by omega : b ≠ 0); omega]
      refine fn_ret rfl (st_seq_ret ((st_ift (h1 := h) (ev_tE ((ev_bin (ev_bin rfl rfl |>.trans (ix0 e)) rfl).trans ?_))).trans ((st_seq (st_set ((ev_bin ((ev_call (ev_cons ((ev_bin rfl rfl).trans (ix0 e)) ev_nil)).trans rfl) rfl).trans (ev_mod hb)))).trans ((st_seq (st_sub ((ev_bin ((ev_bin rfl rfl).trans (ix0 e)) rfl).trans (ev_fdiv hb hb')) rfl rfl (set0 e))).trans (st_ret rfl)))))
      show Res.ok (D.bl (decide (0 < p))) h = _
      rw [decide_eq_true hp]
  · have hm : 0 ≤ (q * (q / 1009 + 69621) + r) % 2147483629 := Int.emod_nonneg _ (by decide)
    have hm' : (q * (q / 1009 + 69621) + r) % 2147483629 < 2147483629 := Int.emod_lt_of_pos _ (by decide)
    generalize hz : (q * (q / 1009 + 69621) + r) % 2147483629 = z at hm hm'
    refine ⟨(((z + 7) / 97) % b).toNat, .lst [.int p, .int (z + 7), .int r], ?_, ⟨_, _, _, rfl, by omega, by omega, hp0⟩, ?_⟩
    · have := Int.emod_nonneg ((z + 7) / 97) (by omega : b ≠ 0)
      have := Int.emod_lt_of_pos ((z + 7) / 97) hb
      omega
    · rw [show (((((z + 7) / 97) % b).toNat : Nat) : Int) = ((z + 7) / 97) % b from by have := Int.emod_nonneg ((z + 7) / 97) (by omega : b ≠ 0); omega]
      have e2 : (h.set n (.lst [.int p, .int (z + 7), .int r]))[n]? = some (.lst [.int p, .int (z + 7), .int r]) := List.getElem?_set_self hlt
      refine fn_ret rfl ((st_seq (st_iff (h1 := h) (ev_tE ((ev_bin ((ev_bin rfl rfl).trans (ix0 e)) rfl).trans ?_)))).trans ((st_seq (st_set ((ev_bin ((ev_bin rfl rfl).trans (ix1 e)) ((ev_bin ((ev_bin ((ev_bin rfl rfl).trans (ix1 e)) rfl).trans (ev_fdiv (by decide) (by decide))) rfl).trans rfl)).trans (ev_mul (.inl ⟨by omega, by omega⟩))))).trans
        ((st_seq (st_sub (d := .int (z + 7)) ((ev_bin ((ev_bin ((ev_call (ev_cons ((ev_bin rfl ((ev_bin rfl rfl).trans (ix2 e))).trans rfl) ev_nil)).trans rfl) rfl).trans (ev_mod (by decide))) rfl).trans ?_) rfl rfl (set1 e))).trans
          (st_ret ((ev_bin ((ev_call (ev_cons ((ev_bin ((ev_bin rfl rfl).trans (ix1 e2)) rfl).trans (ev_fdiv (by decide) (by decide))) ev_nil)).trans rfl) rfl).trans (ev_mod hb))))))
      · show Res.ok (D.bl (decide (0 < p))) h = _
        rw [decide_eq_false hp]
      · show Res.ok (D.int ((q * (q / 1009 + 69621) + r) % 2147483629 + 7)) h = _
        rw [hz]
theorem state_ok (i : Int) (h : AH) : ∃ o, StA o ∧ fnA 1 1 stB [.int i] h = .ok (.ref h.length) (h ++ [o]) := by
  have ha : 0 ≤ (if i < 0 then -i else i) := by split <;> omega
  generalize hz : (if i < 0 then -i else i) = a at ha
  have h1 := Int.emod_nonneg a (by decide : (2147483629 : Int) ≠ 0)
  have h2 := Int.emod_lt_of_pos a (by decide : (0 : Int) < 2147483629)
  refine ⟨.lst [.int (a * (if decide ((10 : Int) ^ 18 ≤ a) = true then 1 else 0)), .int (a % 2147483629 + 7), .int (a % 2147483587)], ⟨_, _, _, rfl, by omega, by omega, ?_⟩, ?_⟩
  · apply Int.mul_nonneg ha
    split <;> decide
  · refine fn_ret rfl ((st_seq (st_set (d := .int a) (h1 := h) ((ev_call (ev_cons rfl ev_nil)).trans ?_))).trans (st_ret ?_))
    · show Res.ok (D.int (if i < 0 then -i else i)) h = _
      rw [hz]
    · refine ev_lst (h1 := h) (ev_cons (h1 := h) ((ev_bin (h1 := h) (h2 := h) rfl ((ev_call (ev_cons (h1 := h) ((ev_bin (h1 := h) (h2 := h) rfl (show eBin powA (eC (.int 10)) (eC (.int 18)) _ h = .ok (.int (10 ^ 18)) h from rfl)).trans rfl) ev_nil)).trans rfl)).trans (ev_mul (.inr ?_))) (ev_cons (h1 := h) ((ev_bin (h1 := h) (h2 := h) ((ev_bin (h1 := h) (h2 := h) ((ev_call (ev_cons rfl ev_nil)).trans rfl) rfl).trans (ev_mod (by decide))) rfl).trans rfl) (ev_cons (h1 := h) ((ev_bin (h1 := h) (h2 := h) ((ev_call (ev_cons rfl ev_nil)).trans rfl) rfl).trans (ev_mod (by decide))) ev_nil))) (show 3 ≤ sizeLine by decide)
      split <;> decide
end Led
/-! LedWp: what is asked of the abstract constructs' results; loops by invariants; what stays of a heap. -/
namespace Led
open PySem L2
def Wp {α : Type} (r : Res α) (Q : α → AH → Prop) (E : Exc → AH → Prop) : Prop := match r with
  | .ok a h => Q a h
  | .exc x h => E x h
  | .stuck => False
def SWp (r : SRes) (N : AEnv → AH → Prop) (R : D → AH → Prop) (B C : AEnv → AH → Prop) (X : Exc → AEnv → AH → Prop) : Prop := match r with
  | .next A h => N A h
  | .ret d h => R d h
  | .brk A h => B A h
  | .cont A h => C A h
  | .exc x A h => X x A h
  | .stuck => False
abbrev NoX : Exc → AH → Prop := fun _ _ => False
section
variable {α β : Type} {A A1 : AEnv} {h h1 : AH} {f g : AE} {t u : AT} {ga : AA} {x y d : D} {ds : List D} {b : Bool} {op op' : D → D → AH → Res D} {s s' : AS} {Q : D → AH → Prop} {E : Exc → AH → Prop} {N B C : AEnv → AH → Prop} {R : D → AH → Prop} {X : Exc → AEnv → AH → Prop}
theorem wp_ok {a : α} {Q : α → AH → Prop} (q : Q a h) : Wp (.ok a h) Q E := q
theorem wp_exc {x : Exc} {Q : α → AH → Prop} (q : E x h) : Wp (.exc x h : Res α) Q E := q
theorem wp_eq {r : Res α} {a : α} {Q : α → AH → Prop} (e : r = .ok a h1) (q : Q a h1) : Wp r Q E := by rw [e]; exact q
theorem wp_eqx {r : Res α} {x : Exc} {Q : α → AH → Prop} (e : r = .exc x h1) (q : E x h1) : Wp r Q E := by rw [e]; exact q
theorem wp_mono {r : Res α} {P Q : α → AH → Prop} {E' : Exc → AH → Prop} (w : Wp r P E') (q : ∀ a h, P a h → Q a h) (qe : ∀ x h, E' x h → E x h) : Wp r Q E := by
  cases r with
  | ok a h => exact q a h w
  | exc x h => exact qe x h w
  | stuck => exact w
theorem wp_get {r : Res α} {Q : α → AH → Prop} (w : Wp r Q NoX) : ∃ a h, r = .ok a h ∧ Q a h := by
  cases r with
  | ok a h => exact ⟨a, h, rfl, w⟩
  | exc x h => exact w.elim
  | stuck => exact w.elim
theorem wp_bind {r : Res α} {k : α → AH → Res β} {Q : β → AH → Prop} (w : Wp r (fun a h => Wp (k a h) Q E) E) : Wp (r.bind k) Q E := by
  cases r with
  | ok a h => exact w
  | exc x h => exact w
  | stuck => exact w
theorem wp_calm {r : Res α} {Q : α → AH → Prop} (w : Wp r Q NoX) : Wp r.calm Q E := by
  cases r with
  | ok a h => exact w
  | exc x h => exact w.elim
  | stuck => exact w
theorem wp_toS {r : Res α} {k : α → AH → SRes} (w : Wp r (fun a h => SWp (k a h) N R B C X) (fun x h => X x A h)) : SWp (r.toS A k) N R B C X := by
  cases r with
  | ok a h => exact w
  | exc x h => exact w
  | stuck => exact w
theorem wp_var {i : Nat} (e : A[i]? = some (some d)) (q : Q d h) : Wp (eVar i A h) Q E := by unfold eVar; rw [e]; exact q
theorem wp_c (q : Q d h) : Wp (eC d A h) Q E := q
theorem wp_bin (w : Wp (f A h) (fun x h1 => Wp (g A h1) (fun y h2 => Wp (op x y h2) Q E) E) E) : Wp (eBin op f g A h) Q E := wp_bind (wp_mono w (fun _ _ z => wp_bind z) fun _ _ z => z)
theorem wp_un {op : D → AH → Res D} (w : Wp (f A h) (fun x h1 => Wp (op x h1) Q E) E) : Wp (eUn op f A h) Q E := wp_bind w
theorem wp_call {F : AF} (w : Wp (ga A h) (fun ds h1 => Wp (F ds h1) Q E) E) : Wp (eCall F ga A h) Q E := wp_bind w
theorem wp_nil {Q : List D → AH → Prop} (q : Q [] h) : Wp (aNil A h) Q E := q
theorem wp_cons {Q : List D → AH → Prop} (w : Wp (f A h) (fun d h1 => Wp (ga A h1) (fun ds h2 => Q (d :: ds) h2) E) E) : Wp (aCons f ga A h) Q E := wp_bind (wp_mono w (fun _ _ z => wp_bind (wp_mono z (fun _ _ y => y) fun _ _ y => y)) fun _ _ z => z)
theorem wp_tup (w : Wp (ga A h) (fun ds h1 => ds.length ≤ sizeLine ∧ Q (.tup ds) h1) E) : Wp (eTup ga A h) Q E := wp_bind (wp_mono w (fun _ _ z => by show Wp (if _ then _ else _) _ _; rw [if_pos z.1]; exact z.2) fun _ _ z => z)
theorem wp_lst (w : Wp (ga A h) (fun ds h1 => ds.length ≤ sizeLine ∧ Q (.ref h1.length) (h1 ++ [.lst ds])) E) : Wp (eLst ga A h) Q E := wp_bind (wp_mono w (fun _ _ z => by show Wp (if _ then _ else _) _ _; rw [if_pos z.1]; exact z.2) fun _ _ z => z)
theorem wp_if (w : Wp (t A h) (fun b h1 => (b = true → Wp (f A h1) Q E) ∧ (b = false → Wp (g A h1) Q E)) E) : Wp (eIfA t f g A h) Q E := wp_bind (wp_mono w (fun b _ z => by cases b; exact z.2 rfl; exact z.1 rfl) fun _ _ z => z)
theorem br_t {P R : Prop} (hb : b = true) (p : P) : (b = true → P) ∧ (b = false → R) := ⟨fun _ => p, fun z => (by rw [hb] at z; cases z)⟩
theorem br_f {P R : Prop} (hb : b = false) (p : R) : (b = true → P) ∧ (b = false → R) := ⟨fun z => (by rw [hb] at z; cases z), fun _ => p⟩
theorem wp_tE {Q : Bool → AH → Prop} (w : Wp (f A h) (fun d h1 => ∃ b, d = .bl b ∧ Q b h1) E) : Wp (tE f A h) Q E := wp_bind (wp_mono w (fun d _ z => by obtain ⟨b, rfl, q⟩ := z; exact q) fun _ _ z => z)
theorem wp_tnot {Q : Bool → AH → Prop} (w : Wp (t A h) (fun b h1 => Q (!b) h1) E) : Wp (tNotA t A h) Q E := wp_bind w
theorem wp_tand {Q : Bool → AH → Prop} (w : Wp (t A h) (fun b h1 => (b = true → Wp (u A h1) Q E) ∧ (b = false → Q false h1)) E) : Wp (tAndA t u A h) Q E := wp_bind (wp_mono w (fun b _ z => by cases b; exact z.2 rfl; exact z.1 rfl) fun _ _ z => z)
theorem wp_tor {Q : Bool → AH → Prop} (w : Wp (t A h) (fun b h1 => (b = true → Q true h1) ∧ (b = false → Wp (u A h1) Q E)) E) : Wp (tOrA t u A h) Q E := wp_bind (wp_mono w (fun b _ z => by cases b; exact z.2 rfl; exact z.1 rfl) fun _ _ z => z)
theorem wp_and (w : Wp (f A h) (fun d h1 => ∃ b, d = .bl b ∧ (b = true → Wp (g A h1) Q E) ∧ (b = false → Q (.bl false) h1)) E) : Wp (eAndA f g A h) Q E := wp_bind (wp_mono w (fun d _ z => by obtain ⟨b, rfl, q⟩ := z; cases b; exact q.2 rfl; exact q.1 rfl) fun _ _ z => z)
theorem wp_or (w : Wp (f A h) (fun d h1 => ∃ b, d = .bl b ∧ (b = true → Q (.bl true) h1) ∧ (b = false → Wp (g A h1) Q E)) E) : Wp (eOrA f g A h) Q E := wp_bind (wp_mono w (fun d _ z => by obtain ⟨b, rfl, q⟩ := z; cases b; exact q.2 rfl; exact q.1 rfl) fun _ _ z => z)
theorem wp_not (w : Wp (f A h) (fun d h1 => ∃ b, d = .bl b ∧ Q (.bl (!b)) h1) E) : Wp (eNotA f A h) Q E := wp_bind (wp_mono w (fun d _ z => by obtain ⟨b, rfl, q⟩ := z; exact q) fun _ _ z => z)
theorem wp_fld {Tb : Tabs} {n : Str} (w : Wp (f A h) (fun x h1 => Wp (fldA Tb n x h1) Q E) E) : Wp (eFld Tb n f A h) Q E := wp_bind w
theorem wp_meth {m : Str} {mt : Nat → Option AF} (w : Wp (f A h) (fun o h1 => ∃ c fs F, insOf h1 o = some (c, fs) ∧ fs.lookup m = none ∧ mt c = some F ∧ Wp (ga A h1) (fun ds h2 => Wp (F (o :: ds) h2) Q E) E) E) : Wp (eMeth m mt f ga A h) Q E :=
  wp_bind (wp_mono w (fun o h1 z => by
    obtain ⟨c, fs, F, e1, e2, e3, z⟩ := z
    rw [e1]
    dsimp only
    rw [e2, e3]
    exact wp_bind z) fun _ _ z => z)
theorem wp_bm {ty : String} {F : AM} (w : Wp (f A h) (fun o h1 => isT ty h1 o = true ∧ Wp (ga A h1) (fun ds h2 => Wp (F o ds h2) Q E) E) E) : Wp (eBM ty F f ga A h) Q E :=
  wp_bind (wp_mono w (fun o h1 z => by show Wp (if _ then _ else _) _ _; rw [if_pos z.1]; exact wp_bind z.2) fun _ _ z => z)
theorem wp_chain {k : AE} (w : Wp (f A h) (fun x h1 => Wp (g A h1) (fun y h2 => Wp (op x y h2) (fun d h3 => ∃ b, d = .bl b ∧ (b = true → Wp (k A h3) (fun z h4 => Wp (op' y z h4) Q E) E) ∧ (b = false → Q (.bl false) h3)) E) E) E) : Wp (eChain op op' f g k A h) Q E :=
  wp_bind (wp_mono w (fun _ _ z => wp_bind (wp_mono z (fun _ _ z => wp_bind (wp_mono z (fun d _ z => by
    obtain ⟨b, rfl, q⟩ := z
    cases b
    · exact q.2 rfl
    · exact wp_bind (q.1 rfl)) fun _ _ z => z)) fun _ _ z => z)) fun _ _ z => z)
/-! statements -/
theorem sw_eq {r : SRes} {A1 : AEnv} (e : r = .next A1 h1) (q : N A1 h1) : SWp r N R B C X := by rw [e]; exact q
theorem sw_mono {r : SRes} {N' B' C' : AEnv → AH → Prop} {R' : D → AH → Prop} {X' : Exc → AEnv → AH → Prop} (w : SWp r N R B C X) (h1 : ∀ A h, N A h → N' A h) (h2 : ∀ A h, R A h → R' A h) (h3 : ∀ A h, B A h → B' A h) (h4 : ∀ A h, C A h → C' A h) (h5 : ∀ x A h, X x A h → X' x A h) : SWp r N' R' B' C' X' := by
  cases r with
  | next A h => exact h1 _ _ w
  | ret A h => exact h2 _ _ w
  | brk A h => exact h3 _ _ w
  | cont A h => exact h4 _ _ w
  | exc x A h => exact h5 _ _ _ w
  | stuck => exact w
theorem swp_nil (q : N A h) : SWp (sNil A h) N R B C X := q
theorem swp_seq (w : SWp (s A h) (fun A1 h1 => SWp (s' A1 h1) N R B C X) R B C X) : SWp (sSeq s s' A h) N R B C X := by
  unfold sSeq
  cases e : s A h <;> (rw [e] at w; exact w)
theorem swp_drop (w : Wp (f A h) (fun _ h1 => N A h1) (fun x h1 => X x A h1)) : SWp (sDrop f A h) N R B C X := wp_toS w
theorem swp_ret (w : Wp (f A h) R (fun x h1 => X x A h1)) : SWp (sRet f A h) N R B C X := wp_toS w
theorem swp_retN (q : R .non h) : SWp (sRetN A h) N R B C X := q
theorem swp_brk (q : B A h) : SWp (sBrk A h) N R B C X := q
theorem swp_cont (q : C A h) : SWp (sCont A h) N R B C X := q
theorem swp_if (w : Wp (t A h) (fun b h1 => (b = true → SWp (s A h1) N R B C X) ∧ (b = false → SWp (s' A h1) N R B C X)) (fun x h1 => X x A h1)) : SWp (sIf t s s' A h) N R B C X := wp_toS (wp_mono w (fun b _ z => by cases b; exact z.2 rfl; exact z.1 rfl) fun _ _ z => z)
theorem swp_set {i : Nat} (w : Wp (f A h) (fun d h1 => N (A.set i (some d)) h1) (fun x h1 => X x A h1)) : SWp (sSet i f A h) N R B C X := wp_toS w
theorem swp_asg {G : AG} (w : Wp (f A h) (fun d h1 => ∃ A1, G d A h1 = some A1 ∧ N A1 h1) (fun x h1 => X x A h1)) : SWp (sAsg G f A h) N R B C X := wp_toS (wp_mono w (fun d h1 z => by obtain ⟨A1, e, q⟩ := z; rw [e]; exact q) fun _ _ z => z)
theorem swp_par {i j : Nat} (w : Wp (ga A h) (fun ds h1 => ∃ a b, ds = [a, b] ∧ N ((A.set i (some a)).set j (some b)) h1) (fun x h1 => X x A h1)) : SWp (sPar i j ga A h) N R B C X := wp_toS (wp_mono w (fun d h1 z => by obtain ⟨a, b, rfl, q⟩ := z; exact q) fun _ _ z => z)
theorem swp_par3 {i j l : Nat} (w : Wp (ga A h) (fun ds h1 => ∃ a b c, ds = [a, b, c] ∧ N (((A.set i (some a)).set j (some b)).set l (some c)) h1) (fun x h1 => X x A h1)) : SWp (sPar3 i j l ga A h) N R B C X := wp_toS (wp_mono w (fun d h1 z => by obtain ⟨a, b, c, rfl, q⟩ := z; exact q) fun _ _ z => z)
theorem swp_fld {Tb : Tabs} {n : Str} (w : Wp (g A h) (fun d h1 => Wp (f A h1) (fun o h2 => ∃ h3, setFA Tb n o d h2 = some h3 ∧ N A h3) (fun x h1 => X x A h1)) (fun x h1 => X x A h1)) : SWp (sFldA Tb n f g A h) N R B C X :=
  wp_toS (wp_mono w (fun d h1 z => wp_toS (wp_mono z (fun o h2 z => by obtain ⟨h3, e, q⟩ := z; rw [e]; exact q) fun _ _ z => z)) fun _ _ z => z)
theorem swp_sub {k : AE} (w : Wp (k A h) (fun d h1 => Wp (f A h1) (fun o h2 => Wp (g A h2) (fun i h3 => ∃ h4, setA o i d h3 = some h4 ∧ N A h4) (fun x h1 => X x A h1)) (fun x h1 => X x A h1)) (fun x h1 => X x A h1)) : SWp (sSub f g k A h) N R B C X :=
  wp_toS (wp_mono w (fun d h1 z => wp_toS (wp_mono z (fun o h2 z => wp_toS (wp_mono z (fun i h3 z => by obtain ⟨h4, e, q⟩ := z; rw [e]; exact q) fun _ _ z => z)) fun _ _ z => z)) fun _ _ z => z)
theorem swp_raise {m : AX} (w : Wp (m A h) (fun e h1 => X e A h1) (fun x h1 => X x A h1)) : SWp (sRaise m A h) N R B C X := wp_toS w
theorem wp_mkX {c : Nat} {ns : List Str} {Q : Exc → AH → Prop} (w : Wp (ga A h) (fun ds h1 => (ds.length = ns.length ∧ ds.length ≤ 1000) ∧ Q ⟨c, zr ns ds []⟩ h1) E) : Wp (mkXA c ns ga A h) Q E := wp_bind (wp_mono w (fun ds h1 z => by show Wp (if _ then _ else _) _ _; rw [if_pos z.1]; exact z.2) fun _ _ z => z)
theorem swp_try {body : AS} {isx : Nat → Option Bool} {i : Nat} {sx : Exc → AS} (w : SWp (body A h) N R B C (fun e A1 h1 => ∃ b, isx e.c = some b ∧ (b = true → i < A1.length ∧ SWp (sx e (A1.set i none) h1) (fun A2 h2 => N (A2.set i none) h2) R (fun A2 h2 => B (A2.set i none) h2) (fun A2 h2 => C (A2.set i none) h2) (fun _ _ _ => False)) ∧ (b = false → X e A1 h1))) : SWp (sTry body isx i sx A h) N R B C X := by
  unfold sTry
  cases e : body A h with
  | exc x A1 h1 =>
    rw [e] at w
    obtain ⟨b, e1, w1, w2⟩ := w
    dsimp only
    rw [e1]
    cases b with
    | false => exact w2 rfl
    | true =>
      obtain ⟨hl, w⟩ := w1 rfl
      dsimp only
      rw [if_pos hl]
      cases e2 : sx x (A1.set i none) h1 <;> (rw [e2] at w; exact w)
  | next A1 h1 => rw [e] at w; exact w
  | ret A1 h1 => rw [e] at w; exact w
  | brk A1 h1 => rw [e] at w; exact w
  | cont A1 h1 => rw [e] at w; exact w
  | stuck => rw [e] at w; exact w
theorem wp_fn {n c : Nat} (hl : ds.length = n) (w : SWp (s (ds.map some ++ List.replicate (c - n) none) h) (fun _ h1 => Q .non h1) Q (fun _ _ => False) (fun _ _ => False) (fun x _ h1 => E x h1)) : Wp (fnA n c s ds h) Q E := by
  unfold fnA
  rw [if_pos hl]
  cases e : s (ds.map some ++ List.replicate (c - n) none) h <;> (rw [e] at w; exact w)
/-- a new object that is a plain value from then on -/
theorem wp_mk {c : Nat} {F : AF} (w : Wp (F (.ref h.length :: ds) (h ++ [.ins c []])) (fun r h2 => r = .non ∧ ∃ c' fs, h2[h.length]? = some (.ins c' fs) ∧ Q (.obj c' fs) (h2.set h.length .gone)) E) : Wp (mkA c true F ds h) Q E :=
  wp_bind (wp_mono w (fun r h2 z => by
    obtain ⟨rfl, c', fs, e, q⟩ := z
    dsimp only
    rw [e]
    exact q) fun _ _ z => z)
theorem wp_mkF {c : Nat} {F : AF} (w : Wp (F (.ref h.length :: ds) (h ++ [.ins c []])) (fun r h2 => r = .non ∧ Q (.ref h.length) h2) E) : Wp (mkA c false F ds h) Q E :=
  wp_bind (wp_mono w (fun r h2 z => by
    obtain ⟨rfl, q⟩ := z
    exact q) fun _ _ z => z)
/-! loops -/
theorem forN_inv {S : Src} {g : AG} {b : AS} {N B C : AEnv → AH → Prop} {R : D → AH → Prop} {X : Exc → AEnv → AH → Prop} (I : Nat → AEnv → AH → Prop) (hb : ∀ i A h, I i A h → i < FUEL)
    (hs : ∀ i A h, I i A h → (S.nxt h i = some none ∧ N A h) ∨ ∃ d A1, S.nxt h i = some (some d) ∧ g d A h = some A1 ∧ SWp (b A1 h) (I (i + 1)) R N (I (i + 1)) X) :
    ∀ (n i : Nat) (A : AEnv) (h : AH), n + i = FUEL → I i A h → SWp (forN S g b n i A h) N R B C X := by
  intro n
  induction n with
  | zero => intro i A h e hi; have := hb i A h hi; omega
  | succ n ih =>
    intro i A h e hi
    unfold forN
    rcases hs i A h hi with ⟨e1, q⟩ | ⟨d, A1, e1, e2, w⟩
    · rw [e1]; exact q
    · rw [e1]
      dsimp only
      rw [e2]
      dsimp only
      cases eb : b A1 h with
      | next A' h' => rw [eb] at w; exact ih (i + 1) A' h' (by omega) w
      | cont A' h' => rw [eb] at w; exact ih (i + 1) A' h' (by omega) w
      | brk A' h' => rw [eb] at w; exact w
      | ret A' h' => rw [eb] at w; exact w
      | exc x A' h' => rw [eb] at w; exact w
      | stuck => rw [eb] at w; exact w
theorem for_items {S : Src} {g : AG} {b : AS} {N B C : AEnv → AH → Prop} {R : D → AH → Prop} {X : Exc → AEnv → AH → Prop} {A : AEnv} {h : AH} (items : List D) (I : Nat → AEnv → AH → Prop) (hl : items.length < FUEL) (hS : ∀ i A h, I i A h → S.nxt h i = some items[i]?) (h0 : I 0 A h)
    (hs : ∀ i A h d, I i A h → items[i]? = some d → ∃ A1, g d A h = some A1 ∧ SWp (b A1 h) (I (i + 1)) R N (I (i + 1)) X) (he : ∀ A h, I items.length A h → N A h) : SWp (forN S g b FUEL 0 A h) N R B C X := by
  refine forN_inv (fun i A h => i ≤ items.length ∧ I i A h) (fun i A h z => by omega) (fun i A h z => ?_) FUEL 0 A h rfl ⟨Nat.zero_le _, h0⟩
  rw [hS i A h z.2]
  cases ed : items[i]? with
  | none =>
    have hge : items.length ≤ i := List.getElem?_eq_none_iff.mp ed
    have : i = items.length := by omega
    subst this
    exact .inl ⟨rfl, he A h z.2⟩
  | some d =>
    obtain ⟨A1, e1, w⟩ := hs i A h d z.2 ed
    have hlt := lt_of_get ed
    exact .inr ⟨d, A1, rfl, e1, sw_mono w (fun A h q => ⟨by omega, q⟩) (fun _ _ q => q) (fun _ _ q => q) (fun A h q => ⟨by omega, q⟩) fun _ _ _ q => q⟩
theorem swp_for {it : AI} {g : AG} {b : AS} (w : Wp (it A h) (fun S h1 => SWp (forN S g b FUEL 0 A h1) N R B C X) (fun x h1 => X x A h1)) : SWp (sFor it g b A h) N R B C X := wp_toS w
theorem whileN_inv {c : AT} {b : AS} {N B C : AEnv → AH → Prop} {R : D → AH → Prop} {X : Exc → AEnv → AH → Prop} (I : Nat → AEnv → AH → Prop)
    (hs : ∀ m A h, I m A h → Wp (c A h) (fun k h1 => (k = true → SWp (b A h1) (fun A h => ∃ m', m' < m ∧ I m' A h) R N (fun A h => ∃ m', m' < m ∧ I m' A h) X) ∧ (k = false → N A h1)) (fun x h1 => X x A h1)) :
    ∀ (n m : Nat) (A : AEnv) (h : AH), m < n → I m A h → SWp (whileN c b n A h) N R B C X := by
  intro n
  induction n with
  | zero => intro m A h e; omega
  | succ n ih =>
    intro m A h e hi
    unfold whileN
    refine wp_toS (wp_mono (hs m A h hi) (fun k h1 z => ?_) fun _ _ z => z)
    cases k with
    | false => exact z.2 rfl
    | true =>
      have w := z.1 rfl
      dsimp only
      cases eb : b A h1 with
      | next A' h' => rw [eb] at w; obtain ⟨m', lt, w⟩ := w; exact ih m' A' h' (by omega) w
      | cont A' h' => rw [eb] at w; obtain ⟨m', lt, w⟩ := w; exact ih m' A' h' (by omega) w
      | brk A' h' => rw [eb] at w; exact w
      | ret A' h' => rw [eb] at w; exact w
      | exc x A' h' => rw [eb] at w; exact w
      | stuck => rw [eb] at w; exact w
theorem swp_while {c : AT} {b : AS} (I : Nat → AEnv → AH → Prop) (m : Nat) (hm : m < FUEL) (h0 : I m A h)
    (hs : ∀ m A h, I m A h → Wp (c A h) (fun k h1 => (k = true → SWp (b A h1) (fun A h => ∃ m', m' < m ∧ I m' A h) R N (fun A h => ∃ m', m' < m ∧ I m' A h) X) ∧ (k = false → N A h1)) (fun x h1 => X x A h1)) : SWp (sWhile c b A h) N R B C X :=
  whileN_inv I hs FUEL m A h hm h0
/-! comprehensions -/
theorem lcN_inv {S : Src} {g : AG} {t : AT} {e : AE} {A : AEnv} {n : Nat} (items : List D) (I : Nat → List D → AH → Prop) {Q : Unit → AH → Prop} (hS : ∀ i ys h, I i ys h → S.nxt h i = some items[i]?)
    (hs : ∀ i ys h d, I i ys h → items[i]? = some d → ∃ A1, g d A h = some A1 ∧ Wp (t A1 h) (fun b h' => (b = true → Wp (e A1 h') (fun y h2 => h2[n]? = some (.lst ys) ∧ ys.length < sizeLine ∧ I (i + 1) (ys ++ [y]) (h2.set n (.lst (ys ++ [y])))) NoX) ∧ (b = false → I (i + 1) ys h')) NoX)
    (he : ∀ ys h, I items.length ys h → Q () h) :
    ∀ (f i : Nat) (ys : List D) (h : AH), items.length < f + i → i ≤ items.length → I i ys h → Wp (lcN S g t e A n f i h) Q E := by
  intro f
  induction f with
  | zero => intro i ys h hf hi; omega
  | succ f ih =>
    intro i ys h hf hi hI
    unfold lcN
    rw [hS i ys h hI]
    cases ed : items[i]? with
    | none =>
      have hge : items.length ≤ i := List.getElem?_eq_none_iff.mp ed
      have : i = items.length := by omega
      subst this
      exact he ys h hI
    | some d =>
      have hlt := lt_of_get ed
      obtain ⟨A1, e1, w⟩ := hs i ys h d hI ed
      dsimp only
      rw [e1]
      refine wp_bind (wp_calm (wp_mono w (fun b h' z => ?_) fun _ _ z => z))
      cases b with
      | false => exact ih (i + 1) ys h' (by omega) (by omega) (z.2 rfl)
      | true =>
        refine wp_bind (wp_calm (wp_mono (z.1 rfl) (fun y h2 z => ?_) fun _ _ z => z))
        obtain ⟨z1, z2, z3⟩ := z
        refine wp_bind ?_
        unfold pushA
        rw [z1]
        dsimp only
        rw [if_pos z2]
        exact ih (i + 1) _ _ (by omega) (by omega) z3
theorem wp_lc {it : AI} {g : AG} {t : AT} {e : AE} {vs : List Nat} (w : Wp (it A h) (fun S h1 => Wp (lcN S g t e (wipeA A vs) h1.length FUEL 0 (h1 ++ [.lst []])) (fun _ h2 => Q (.ref h1.length) h2) E) E) : Wp (eLc it g t e vs A h) Q E :=
  wp_bind (wp_mono w (fun S h1 z => wp_bind z) fun _ _ z => z)
end
theorem ex_bl {b : Bool} {P : Bool → Prop} (q : P b) : ∃ b', D.bl b = D.bl b' ∧ P b' := ⟨b, rfl, q⟩
theorem ex_p2 {a b : D} {P : D → D → Prop} (q : P a b) : ∃ a' b', [a, b] = [a', b'] ∧ P a' b' := ⟨a, b, rfl, q⟩
theorem ex_p3 {a b c : D} {P : D → D → D → Prop} (q : P a b c) : ∃ a' b' c', [a, b, c] = [a', b', c'] ∧ P a' b' c' := ⟨a, b, c, rfl, q⟩
theorem ex_g {o : Option AEnv} {A1 : AEnv} {P : AEnv → Prop} (e : o = some A1) (q : P A1) : ∃ A2, o = some A2 ∧ P A2 := ⟨A1, e, q⟩
theorem szOk {l : List D} {P : Prop} (h : Nat.ble l.length 1000 = true) (p : P) : l.length ≤ sizeLine ∧ P := ⟨Nat.le_trans (Nat.le_of_ble_eq_true h) (by decide), p⟩
/-! ### what stays of a heap -/
/-- nothing of h but at ns has changed -/
structure Fr (ns : List Nat) (h h' : AH) : Prop where
  len : h.length ≤ h'.length
  get : ∀ i, i < h.length → i ∉ ns → h'[i]? = h[i]?
theorem Fr.refl (ns : List Nat) (h : AH) : Fr ns h h := ⟨Nat.le_refl _, fun _ _ _ => rfl⟩
theorem Fr.trans {ns : List Nat} {h h1 h2 : AH} (a : Fr ns h h1) (b : Fr ns h1 h2) : Fr ns h h2 := ⟨Nat.le_trans a.len b.len, fun i hi hn => (b.get i (Nat.lt_of_lt_of_le hi a.len) hn).trans (a.get i hi hn)⟩
theorem Fr.mono {ns ms : List Nat} {h h' : AH} (a : Fr ns h h') (s : ∀ i ∈ ns, i < h.length → i ∈ ms) : Fr ms h h' := ⟨a.len, fun i hi hn => a.get i hi fun z => hn (s i z hi)⟩
theorem Fr.trans' {ns ms : List Nat} {h h1 h2 : AH} (a : Fr ns h h1) (b : Fr ms h1 h2) (s : ∀ i ∈ ms, i < h.length → i ∈ ns) : Fr ns h h2 := ⟨Nat.le_trans a.len b.len, fun i hi hn => (b.get i (Nat.lt_of_lt_of_le hi a.len) fun z => hn (s i z hi)).trans (a.get i hi hn)⟩
theorem Fr.app (ns : List Nat) (h l : AH) : Fr ns h (h ++ l) := ⟨by rw [List.length_append]; omega, fun i hi _ => List.getElem?_append_left hi⟩
theorem Fr.set {ns : List Nat} {h : AH} {n : Nat} {o : AO} (hn : n ∈ ns) : Fr ns h (h.set n o) := ⟨by rw [List.length_set]; exact Nat.le_refl _, fun i _ hi => List.getElem?_set_ne fun z => hi (by rw [← z]; exact hn)⟩
theorem Fr.keep {ns : List Nat} {h h' : AH} (a : Fr ns h h') {n : Nat} {o : AO} (e : h[n]? = some o) (hn : n ∉ ns) : h'[n]? = some o := (a.get n (lt_of_get e) hn).trans e
theorem Fr.getL {ns : List Nat} {h h' : AH} (a : Fr ns h h') {n : Nat} {xs : List D} (e : Led.getL h n = some xs) (hn : n ∉ ns) : Led.getL h' n = some xs := by
  unfold Led.getL at e ⊢
  cases q : h[n]? with
  | none => rw [q] at e; cases e
  | some o => rw [a.keep q hn]; rw [q] at e; exact e
end Led
/-! LedEnum: enumerate of a list or of a tuple. -/
namespace PySem
open Sem (wp)
open AutoSeq1 (wpAny_loadPart')
theorem ledEnumNew (l : Addr) (items : Array Value) (n : Nat) (dct : Option Addr) (sl : Array (Option Value)) :
    Meets (Builtin.«enumerate.__new__» ⟨[.type "enumerate", .ref l], []⟩) (fun _ R s => s.heap.get? l = some { cls := .type "tuple", dict := dct, data := .seq items n, slots := sl } ∧
      R (.ok (.ret (.ref (s.heap.push { cls := .type "tuple_iterator", data := .fields #[.ref l, .int 0 0] }).objs.size)))
        { s with heap := (s.heap.push { cls := .type "tuple_iterator", data := .fields #[.ref l, .int 0 0] }).push { cls := .type "enumerate", data := .fields #[.none, .bool false, .ref s.heap.objs.size, rawInt 0, .none, .none] } }) :=
  .of_wp fun prog w A R s h => by
    obtain ⟨hp, g, d, tk, os⟩ := s; obtain ⟨hl, h⟩ := h
    have hsub := sub_enumerate
    have hL : Heap.IsTuple (Shared.heap ⟨hp, g, d, tk, os⟩) l items := ⟨_, hl, rfl, n, rfl⟩
    wp_walk using wpAny_loadPart' hl
    refine wpAny_stack_any fun st => wpAny_pure ?_
    split
    · rename_i c _ _ _ _ _
      cases (c == Value.type "enumerate") <;> (wp_walk using wpAny_loadPart' hl, wpAny_pyIter_tuple hL; exact ⟨_, rfl, h⟩)
    · wp_walk using wpAny_loadPart' hl, wpAny_pyIter_tuple hL
      exact ⟨_, rfl, h⟩
section
variable {prog : Program} {w : World} {A : Around} {E : Value → Shared → Prop} {s : Shared}
theorem ledEnumTup {l : Addr} {items : Array Value} {Q : Value → Shared → Prop} (hL : s.heap.IsTuple l items)
    (h : ∀ h', IsEnum h' (s.heap.objs.size + 1) s.heap.objs.size 0 .none → h'.IsTupleIter s.heap.objs.size l 0 → h'.objs.size = s.heap.objs.size + 2 →
      (∀ b o, s.heap.get? b = some o → h'.get? b = some o) → Q (.ref (s.heap.objs.size + 1)) { s with heap := h' }) :
    wpAny (model prog w) A (call (.type "enumerate") [.ref l]) Q E s := by
  obtain ⟨⟨c, dct, dt, sl⟩, hl, hc, n, hd⟩ := hL
  replace hc : c = .type "tuple" := hc
  replace hd : dt = .seq items n := hd
  subst hc hd
  refine callType_new F.called_enumerate (by decide) (F.typeCall_enumerate_1 _) (F.newCall_enumerate_1 _) (fun obj => F.args_object_init_2 obj _) F.entry_enumerate_new (ledEnumNew l items n dct sl) ⟨hl, ?_⟩
  have hz : (s.heap.push { cls := .type "tuple_iterator", data := .fields #[.ref l, .int 0 0] }).objs.size = s.heap.objs.size + 1 := Heap.size_push ..
  show _ ∧ _
  rw [hz]
  have he : IsEnum ((s.heap.push { cls := .type "tuple_iterator", data := .fields #[.ref l, .int 0 0] }).push
      { cls := .type "enumerate", data := .fields #[.none, .bool false, .ref s.heap.objs.size, rawInt 0, .none, .none] }) (s.heap.objs.size + 1) s.heap.objs.size 0 .none := by
    have := Heap.get?_push_size (s.heap.push { cls := .type "tuple_iterator", data := .fields #[.ref l, .int 0 0] })
      (o := { cls := .type "enumerate", data := .fields #[.none, .bool false, .ref s.heap.objs.size, rawInt 0, .none, .none] }) rfl
    rw [hz] at this; exact this
  exact ⟨⟨_, he, rfl⟩, h _ he ⟨_, Heap.get?_push_of_some _ (Heap.get?_push_size _ rfl), rfl, rfl⟩ (by rw [Heap.size_push, hz]) fun b o x => Heap.get?_push_of_some _ (Heap.get?_push_of_some _ x)⟩
theorem ledEnumEnd {e it l : Addr} {i : Nat} {items : Array Value} {old : Value} {Q : Option Value → Shared → Prop} (hh : A.handled = none) (he : IsEnum s.heap e it i old) (hit : s.heap.IsTupleIter it l i) (hL : s.heap.IsTuple l items) (hx : items.size ≤ i)
    (hQ : ∀ h', Heap.ExtBut it s.heap h' → Q none { s with heap := h' }) : wpAny (model prog w) A (pyNext (.ref e)) Q E s := by
  have hT : s.TypeIs (.ref e) "enumerate" := ⟨_, he, rfl⟩
  unfold pyNext
  refine wpAny_bind (wpAny_attempt (wpAny_callSpecial?_slot (name := Str.ofString "__next__") hT F.slot_enumerate_next
    (wpAny_call_entry F.slot_enumerate_next hT F.entry_enumerate_next ?_ (F.args_enumerate_next_1 _))))
  show wpAny _ _ (field (.ref e) 2 >>= _) _ _ _
  refine wpAny_bind (wpAny_field he rfl (x := .ref it) rfl ?_)
  refine wpAny_bind (wpAny_nextOf_tuple_end hh hit hL (by simp; omega) fun h' x he' hx' => ?_)
  obtain ⟨o, ho, hc⟩ := hx'
  refine wpAny_bind (wpAny_isInstance (T := "StopIteration") (b := true) ⟨o, ho, hc⟩ isSubtype_stop ?_)
  exact wpAny_pure (hQ _ he')
end
end PySem
namespace Led
open PySem L2
/-- the tuple at a, each item in a new pair -/
def IteT (K : PySem.W.Frag) (a : Addr) : It :=
  ⟨fun i H => ∃ (xs : List V) (x : V), SqT K H a xs ∧ xs[i]? = some x, fun i H v H' => ∃ T x, v = .ref T ∧ H T = none ∧ H' = upd H T (.tup [.int (i : Nat), x]) ∧ ∀ xs, SqT K H a xs → xs[i]? = some x, fun i H => ∃ xs : List V, SqT K H a xs ∧ xs.length ≤ i⟩
theorem turn_enumT {P : Program} {w : World} {K : PySem.W.Frag} {elts : List Expr} {kk : Nat} {tpos : Pos} (a e it : Addr) :
    Turn P w K (.Tuple elts kk tpos) (IteT K a) [e, it] e (fun i h => (∃ old, IsEnum h e it ((i : Nat) : Int) old) ∧ h.IsTupleIter it a i ∧ e ≠ it) where
  mem := by simp
  obj := fun i h st b hb => by
    obtain ⟨⟨old, he⟩, ⟨o, ho, hc, hd⟩, _⟩ := st
    rcases (show b = e ∨ b = it by simpa using hb) with z | z
    · rw [z]; exact ⟨_, he, fun v q => nomatch q⟩
    · rw [z]; exact ⟨o, ho, fun v q => by rw [hd] at q; cases q⟩
  keep := fun i h h' st k => let ⟨⟨old, he⟩, hi, hne⟩ := st; ⟨⟨old, k e (by simp) _ he⟩, hi.at fun o q => k it (by simp) o q, hne⟩
  item := by
    intro X hP hw hK hc i pins s σ H E I hf st hg
    subst hP hw hK
    obtain ⟨⟨old, he⟩, hit, hne⟩ := st
    obtain ⟨xs, x, hq, hx⟩ := hg
    obtain ⟨its, rv, p, hz⟩ := I.tuple hq
    have p : s.heap.IsTuple a its.toArray := p
    obtain ⟨u, hu, ru⟩ := rv.get hx
    have hel : e < s.heap.objs.size := Heap.lt_size he
    have hil : it < s.heap.objs.size := by obtain ⟨_, q, _⟩ := hit; exact Heap.lt_size q
    have hai : a ≠ it := fun z => by
      obtain ⟨o, h1, h2, _⟩ := p
      obtain ⟨o', h1', h2', _⟩ := hit
      rw [z, h1'] at h1
      cases h1
      rw [h2'] at h2
      exact absurd h2 (by decide)
    have hea : e ≠ a := fun z => by
      obtain ⟨o, h1, h2, _⟩ := p
      rw [← z, he] at h1
      cases h1
      exact absurd (show Value.type "enumerate" = Value.type "tuple" from h2) (by decide)
    have hlt : i < its.toArray.size := by simpa using (List.getElem?_eq_some_iff.mp hu).1
    refine wpAny_pyNext_enum_itemD (Draws.tuple (by show X.A.in1.handled = none; simpa using I.ok.hd hc) it a hai its.toArray) he ⟨hit, p⟩ hlt hne (by simp; exact ⟨hne, hea⟩) fun y h' tk hy ho hit' hT hsz hk => ?_
    have hyu : y = u := by
      have hy : its[i]? = some y := by simpa using hy
      rw [hu] at hy
      exact (Option.some.inj hy).symm
    subst hyu
    refine ⟨_, rfl, wpAny_letOwnedTupleGo_enum (s := { s with heap := h', toks := tk + 1 }) ho fun h'' he' sb => ?_⟩
    have hT2 : h''.get? s.heap.objs.size = some { cls := .type "tuple", data := .seq #[.int i tk, y] } := (sb.2 _ (Nat.ne_of_gt hel)).trans hT
    have new : ObjOk X.prog X.w (upd H s.heap.objs.size (.tup [.int (i : Nat), x])) h'' s.heap.objs.size (.tup [.int (i : Nat), x]) :=
      ⟨by show 2 ≤ sizeLine; decide, [.int i tk, y], .cons ⟨_, rfl⟩ (.cons ru .nil), ⟨_, hT2, rfl, _, rfl⟩⟩
    have I1 : Inv X pins σ (upd H s.heap.objs.size (.tup [.int (i : Nat), x])) { s with heap := h'', toks := tk + 1 } :=
      I.turnedNew (ch := [e, it]) (fun b ob hb q => (sb.2 b (fun z => hb (by simp [z]))).trans (hk b ob (fun z => hb (by simp [z])) (fun z => hb (by simp [z])) q)) hf (Nat.le_refl _) new
    refine ⟨.ref s.heap.objs.size, _, I1, rfl, ⟨_, x, rfl, I.hok.fresh (Nat.le_refl _), rfl, fun ys hy => by rw [I.tuple_inj hy hq]; exact hx⟩, ⟨⟨y, ?_⟩, hit'.1.at fun o q => (sb.2 it (Ne.symm hne)).trans q, hne⟩, fun b hb => ?_⟩
    · rw [show ((i + 1 : Nat) : Int) = (i : Int) + 1 by omega]; exact he'
    · have hb' : b < s.heap.objs.size := by
        rcases (show b = e ∨ b = it by simpa using hb) with z | z
        · rw [z]; exact hel
        · rw [z]; exact hil
      rw [upd_ne (Nat.ne_of_lt hb')]
      exact (hf b hb).1
  done := by
    intro X hP hw hK hc i pins s σ H E I hf st hg
    subst hP hw hK
    obtain ⟨⟨old, he⟩, hit, hne⟩ := st
    obtain ⟨xs, hq, hx⟩ := hg
    obtain ⟨its, rv, p, hz⟩ := I.tuple hq
    obtain ⟨f0, f1, f2, f3, f4, f5⟩ := hf it (by simp)
    have hl := rv.length
    exact ledEnumEnd (I.ok.hd hc) he hit p (by simp; omega) fun h' eb => ⟨rfl, I.turned (t' := s.toks) (fun b o hb q => eb b o hb q) f0 f1 f3 f4 f5⟩
  self := fun A i s Q E st h => let ⟨⟨_, he⟩, _⟩ := st; wpAny_pyIter_enum he h
theorem bt_enumerate : bootBuiltins "enumerate" = some (.type "enumerate") := by decide +kernel
def iEnumX (K : PySem.W.Frag) (ta : TA) : TI := fun σ H R => ta σ H fun vs H1 => ∃ a xs, vs = [.ref a] ∧ ((SqL K H1 a xs ∧ R (Ite K a) H1) ∨ (SqT K H1 a xs ∧ R (IteT K a) H1))
theorem pi_enumX {X : Cx} {e : Expr} {ta : TA} {p pos tpos : Pos} {elts : List Expr} {kk : Nat} (hg : Gl X "enumerate") (hm : X.mg "enumerate" = none) (ha : PA X [e] ta) (hs : starEach [e] X.env = [(false, eval e X.env)] := by rfl) :
    PI X (.Tuple elts kk tpos) (.Call (.Name "enumerate" p) [e] [] pos) (iEnumX X.K ta) := by
  refine ⟨fun pins s σ H R I h => ?_⟩
  refine PyProof.Rows.Call_ (ld_blt I hg hm bt_enumerate (PyProof.Rows.callWith_type1 (thn (ha.run pos pins s σ H _ I h) fun us s1 ⟨vs, H1, I1, r1, a, xs, ex, q1⟩ => ?_) hs rfl))
  subst ex
  cases r1 with
  | cons r rr =>
    cases rr
    cases r
    have fp : ∀ b ∈ [s1.heap.objs.size + 1, s1.heap.objs.size], FpOk X pins H1 b := fun b hb => by
      have hle : s1.heap.objs.size ≤ b := by
        rcases (show b = s1.heap.objs.size + 1 ∨ b = s1.heap.objs.size by simpa using hb) with z | z <;> omega
      exact I1.fpOk hle (I1.hok.fresh hle)
    rcases q1 with ⟨hq, q⟩ | ⟨hq, q⟩
    · obtain ⟨its, rv, p', hz⟩ := I1.list hq
      refine call_enumerate_list p'.isList fun h' he hit hsz hk => wpAny_pyIter_enum he ?_
      exact ⟨s1.heap.objs.size + 1, [s1.heap.objs.size + 1, s1.heap.objs.size], _, _, H1, rfl, I1.kept (t' := s1.toks) hk, turn_enum a (s1.heap.objs.size + 1) s1.heap.objs.size, ⟨⟨.none, he⟩, hit, Nat.succ_ne_self _⟩, fp, q⟩
    · obtain ⟨its, rv, p', hz⟩ := I1.tuple hq
      refine ledEnumTup p' fun h' he hit hsz hk => wpAny_pyIter_enum he ?_
      exact ⟨s1.heap.objs.size + 1, [s1.heap.objs.size + 1, s1.heap.objs.size], _, _, H1, rfl, I1.kept (t' := s1.toks) hk, turn_enumT a (s1.heap.objs.size + 1) s1.heap.objs.size, ⟨⟨.none, he⟩, hit, Nat.succ_ne_self _⟩, fp, q⟩
def enumX (ds : List D) (h : AH) : Res Src := match ds with
  | [.ref n] => match getL h n with
    | some _ => .ok (.enum (.list n)) h
    | none => .stuck
  | [.tup xs] => .ok (.enum (.tup xs)) h
  | _ => .stuck
section
variable {X : Cx} {ct : CTab} {W : WX}
theorem itr_enumT {K : PySem.W.Frag} {m : Mp} {H : Hp} {ds : List D} {a : Addr} (ra : Rep K ct m H (.tup ds) (.ref a)) : ItR K ct m H (.enum (.tup ds)) (IteT K a) := by
  intro m' H' h' i ex hr
  have ra' := ra.ext ex
  cases ra' with
  | @tup _ _ vs s rl =>
    show match (some ds[i]?).map (fun o => o.map fun d => D.tup [.int i, d]) with
      | some (some d) => (IteT K a).go i H' ∧ ∀ x H'', (IteT K a).yld i H' x H'' → ∃ m'', Ext m' H' m'' H'' ∧ HR K ct m'' h' H'' ∧ Rep K ct m'' H'' d x
      | some none => (IteT K a).stop i H'
      | none => True
    cases ed : ds[i]? with
    | none => exact ⟨vs, s, by rw [← rl.length]; exact List.getElem?_eq_none_iff.mp ed⟩
    | some d =>
      obtain ⟨v, ev, rv⟩ := RepL.get i rl ed
      refine ⟨⟨vs, v, s, ev⟩, fun x H'' y => ?_⟩
      obtain ⟨T, x', rfl, hT, rfl, e2⟩ := y
      have e3 := e2 vs s
      rw [ev] at e3
      cases e3
      exact ⟨m', Ext.new hr hT, hr.new hT, .tup (.inl (.inl upd_same)) (.cons .int (.cons (rv.ext (Ext.new hr hT)) .nil))⟩
theorem si_enumX {a : Expr} {g : AE} {p pos tpos : Pos} {elts : List Expr} {kk : Nat} (hm : X.mg "enumerate" = none) (ha : SE ct X W a g) (hg : Gl X "enumerate" := by rfl) (hs : starEach [a] X.env = [(false, eval a X.env)] := by rfl) (hs1 : starEach [a] X.env = (false, eval a X.env) :: starEach [] X.env := by rfl) :
    SI ct X W (.Tuple elts kk tpos) (.Call (.Name "enumerate" p) [a] [] pos) (iCall enumX (aCons g aNil)) :=
  PI.imp (pi_enumX hg hm (sa_cons ha sa_nil hs1) hs) fun σ H R ⟨m, A, h, hr, en, po⟩ => ⟨m, A, h, hr, en, po.bind.imp fun ds m1 h1 H1 e1 r1 p1 vs rvs => by
    unfold enumX at p1
    split at p1
    · split at p1
      · rename_i n _ xs ex
        cases rvs with
        | cons r t =>
          cases t
          obtain ⟨b, ws, rfl, _, rd, rl⟩ := r1.getL ex r
          exact ⟨b, ws, rfl, .inl ⟨.inl rd, p1 m1 H1 (Ext.refl _ _) r1 _ (itr_enum r)⟩⟩
      · exact (show False from p1).elim
    · cases rvs with
      | cons r t =>
        cases t
        cases r with
        | @tup _ b ws s rl => exact ⟨b, ws, rfl, .inr ⟨s, p1 m1 H1 (Ext.refl _ _) r1 _ (itr_enumT (.tup s rl))⟩⟩
    · exact (show False from p1).elim⟩
end
end Led
/-! LedPad: a def that is handed no reference and gives none: told by what it does in an empty heap. -/
namespace Led
open PySem L2
mutual
/-- no reference, no object -/
def plainB : D → Bool
  | .non => true
  | .bl _ => true
  | .int _ => true
  | .str _ => true
  | .tup ds => plainBL ds
  | _ => false
def plainBL : List D → Bool
  | [] => true
  | d :: ds => plainB d && plainBL ds
end
mutual
/-- no reference -/
def clB : D → Bool
  | .ref _ => false
  | .tup ds => clBL ds
  | .obj _ fs => clBF fs
  | _ => true
def clBL : List D → Bool
  | [] => true
  | d :: ds => clB d && clBL ds
def clBF : List (Str × D) → Bool
  | [] => true
  | p :: ds => clB p.2 && clBF ds
end
section
variable {K : PySem.W.Frag} {ct : CTab} {m m' : Mp} {H : Hp} {h : AH}
mutual
theorem plain_rep : ∀ {d : D} {v : V}, plainB d = true → Rep K ct m H d v → Rep K ct m' H d v
  | _, _, _, .non => .non
  | _, _, _, .bl => .bl
  | _, _, _, .int => .int
  | _, _, _, .str => .str
  | _, _, e, .tup s rl => .tup s (plain_repL e rl)
  | _, _, e, .obj _ _ _ => by cases e
  | _, _, e, .ref _ => by cases e
  | _, _, e, .lost _ => by cases e
  | _, _, e, .ty => by cases e
  | _, _, e, .cls => by cases e
theorem plain_repL : ∀ {ds : List D} {vs : List V}, plainBL ds = true → RepL K ct m H ds vs → RepL K ct m' H ds vs
  | _, _, _, .nil => .nil
  | _, _, e, .cons r t => by
    unfold plainBL at e
    rw [Bool.and_eq_true] at e
    exact .cons (plain_rep e.1 r) (plain_repL e.2 t)
end
mutual
theorem cl_rep : ∀ {d : D} {v : V}, clB d = true → Rep K ct m H d v → Rep K ct [] H d v
  | _, _, _, .non => .non
  | _, _, _, .bl => .bl
  | _, _, _, .int => .int
  | _, _, _, .str => .str
  | _, _, e, .tup s rl => .tup s (cl_repL e rl)
  | _, _, e, .obj s _ rf => .obj s (by simp) (cl_repF e rf)
  | _, _, e, .ref _ => by cases e
  | _, _, e, .lost _ => by cases e
  | _, _, e, .ty => .ty
  | _, _, e, .cls => .cls
theorem cl_repL : ∀ {ds : List D} {vs : List V}, clBL ds = true → RepL K ct m H ds vs → RepL K ct [] H ds vs
  | _, _, _, .nil => .nil
  | _, _, e, .cons r t => by
    unfold clBL at e
    rw [Bool.and_eq_true] at e
    exact .cons (cl_rep e.1 r) (cl_repL e.2 t)
theorem cl_repF : ∀ {ds : List (Str × D)} {vs : List (Str × V)}, clBF ds = true → RepF K ct m H ds vs → RepF K ct [] H ds vs
  | _, _, _, .nil => .nil
  | _, _, e, .cons r t => by
    unfold clBF at e
    rw [Bool.and_eq_true] at e
    exact .cons (cl_rep e.1 r) (cl_repF e.2 t)
end
theorem HR.empty : HR K ct [] [] H := ⟨rfl, fun n e => by simp at e, fun n o e => by simp at e, fun n n' a e => by simp at e⟩
/-- what is not known to a run stays -/
theorem Ext.stay {m1 : Mp} {H1 : Hp} (e : Ext [] H m1 H1) : Ext m H m H1 := ⟨⟨e.tup, fun a o q n => ⟨(e.fix a o q (by simp)).1, n⟩, fun n x q => .inl q⟩, e.frz⟩
theorem HR.stay {m1 : Mp} {H1 : Hp} (e : Ext [] H m1 H1) (hr : HR K ct m h H) : HR K ct m h H1 := ⟨hr.len, hr.gone, fun n o q ng => by
  obtain ⟨a, ea, r⟩ := hr.obj n o q ng
  obtain ⟨u, eu, _⟩ := r.some
  exact ⟨a, ea, ORep.ext (Ext.stay e) (by rw [eu]; exact (e.fix a u eu (by simp)).1) r⟩, hr.inj⟩
end
/-- a def by what it does in an empty heap -/
def isoF (F : AF) : AF := fun ds h => if clBL ds = true then match F ds [] with
    | .ok d _ => if plainB d = true then .ok d h else .stuck
    | _ => .stuck
  else .stuck
theorem Fn.iso {P : Program} {w : World} {K : PySem.W.Frag} {mg : Str → Option Value} {base : Heap} {ct : CTab} {k n : Nat} {f : Addr} {F : AF} (a : Fn P w K mg base ct k f n F) : Fn P w K mg base ct k f n (isoF F) where
  ok := by
    obtain ⟨fd, ps, hl, ok, hb⟩ := a.ok
    refine ⟨fd, ps, hl, ok.imp fun vs H Q E h => ?_, hb⟩
    obtain ⟨hv, m, h, ds, hr, rl, po⟩ := h
    unfold isoF at po
    split at po
    · rename_i hc
      split at po
      · rename_i d h0 e0
        split at po
        · rename_i hp
          refine ⟨hv, [], [], ds, HR.empty, cl_repL hc rl, ?_⟩
          rw [e0]
          intro m1 H1 e1 r1 v rv
          exact po m H1 (Ext.stay e1) (HR.stay e1 hr) v (plain_rep hp rv)
        · exact (show False from po).elim
      · exact (show False from po).elim
    · exact (show False from po).elim
  kp := a.kp
  len := fun ds h q => a.len ds [] fun z => q (by unfold isoF; rw [z]; split <;> rfl)
theorem iso_ok {F : AF} {ds : List D} {d : D} {h0 : AH} (e : F ds [] = .ok d h0) (hc : clBL ds = true) (hp : plainB d = true) (h : AH) : isoF F ds h = .ok d h := by
  unfold isoF
  rw [if_pos hc, e]
  dsimp only
  rw [if_pos hp]
end Led
/-! LedGc: what a def leaves behind is dropped where nothing of it is held. -/
namespace Led
open PySem L2
mutual
def ckB (k : Nat) : D → Bool
  | .ref n => Nat.blt n k
  | .tup ds => ckL k ds
  | .obj _ fs => ckF k fs
  | _ => true
def ckL (k : Nat) : List D → Bool
  | [] => true
  | d :: ds => ckB k d && ckL k ds
def ckF (k : Nat) : List (Str × D) → Bool
  | [] => true
  | p :: ds => ckB k p.2 && ckF k ds
end
mutual
theorem ckB_ok {k : Nat} : ∀ {d : D}, ckB k d = true → Cl k d
  | .non, _ => .non
  | .bl _, _ => .bl
  | .int _, _ => .int
  | .str _, _ => .str
  | .ty _, _ => .ty
  | .cls _, _ => .cls
  | .tup ds, e => .tup (ckL_ok e)
  | .obj _ fs, e => .obj (ckF_ok e)
  | .ref n, e => .ref (by unfold ckB at e; exact Nat.le_of_ble_eq_true e)
theorem ckL_ok {k : Nat} : ∀ {d : List D}, ckL k d = true → ClL k d
  | [], _ => .nil
  | d :: ds, e => by
    unfold ckL at e
    rw [Bool.and_eq_true] at e
    exact .cons (ckB_ok e.1) (ckL_ok e.2)
theorem ckF_ok {k : Nat} : ∀ {d : List (Str × D)}, ckF k d = true → ClF k d
  | [], _ => .nil
  | (x, d) :: ds, e => by
    unfold ckF at e
    rw [Bool.and_eq_true] at e
    exact .cons (ckB_ok e.1) (ckF_ok e.2)
end
def ckP (k : Nat) : List (D × D) → Bool
  | [] => true
  | p :: l => ckB k p.1 && (ckB k p.2 && ckP k l)
theorem ckP_ok {k : Nat} : ∀ {l : List (D × D)}, ckP k l = true → ClP k l
  | [], _ => fun p hp => (List.not_mem_nil hp).elim
  | q :: l, e => fun p hp => by
    unfold ckP at e
    rw [Bool.and_eq_true, Bool.and_eq_true] at e
    rcases List.mem_cons.mp hp with rfl | hp
    · exact ⟨ckB_ok e.1, ckB_ok e.2.1⟩
    · exact ckP_ok e.2.2 p hp
def ckO (k : Nat) : AO → Bool
  | .lst xs => ckL k xs
  | .fls xs => ckL k xs
  | .dic kvs => ckP k kvs
  | .fdc kvs => ckP k kvs
  | .ins _ fs => ckF k fs
  | .gone => true
theorem ckO_ok {k : Nat} {o : AO} (e : ckO k o = true) : ClO k o := by
  cases o with
  | lst xs => exact ckL_ok e
  | fls xs => exact ckL_ok e
  | dic xs => exact ckP_ok e
  | fdc xs => exact ckP_ok e
  | ins c xs => exact ckF_ok e
  | gone => trivial
/-- the first k of a heap, if nothing behind is held -/
def cutH (k : Nat) : Nat → AH → Option AH
  | 0, _ => some []
  | _ + 1, [] => none
  | n + 1, o :: h => if ckO k o = true then (cutH k n h).map (o :: ·) else none
theorem cutH_ok {k : Nat} : ∀ {n : Nat} {h h2 : AH}, cutH k n h = some h2 → h2 <+: h ∧ h2.length = n ∧ ∀ (i : Nat) o, h2[i]? = some o → ClO k o
  | 0, h, h2, e => by cases e; exact ⟨List.nil_prefix, rfl, fun i o q => by simp at q⟩
  | n + 1, [], h2, e => by cases e
  | n + 1, o :: h, h2, e => by
    unfold cutH at e
    split at e
    · rename_i ho
      cases q : cutH k n h with
      | none => rw [q] at e; cases e
      | some h3 =>
        rw [q] at e
        cases e
        obtain ⟨p1, p2, p3⟩ := cutH_ok q
        refine ⟨List.cons_prefix_cons.mpr ⟨rfl, p1⟩, by rw [List.length_cons, p2], fun i u hu => ?_⟩
        cases i with
        | zero => cases hu; exact ckO_ok ho
        | succ i => exact p3 i u hu
    · cases e
def gcT (F : AF) : AF := fun ds h => match F ds h with
  | .ok d h1 => if clB d = true then match cutH h.length h.length h1 with
      | some h2 => .ok d h2
      | none => .stuck
    else .stuck
  | _ => .stuck
mutual
theorem clB_cl {k : Nat} : ∀ {d : D}, clB d = true → Cl k d
  | .non, _ => .non
  | .bl _, _ => .bl
  | .int _, _ => .int
  | .str _, _ => .str
  | .ty _, _ => .ty
  | .cls _, _ => .cls
  | .tup ds, e => .tup (clBL_cl e)
  | .obj _ fs, e => .obj (clBF_cl e)
  | .ref n, e => by cases e
theorem clBL_cl {k : Nat} : ∀ {d : List D}, clBL d = true → ClL k d
  | [], _ => .nil
  | d :: ds, e => by
    unfold clBL at e
    rw [Bool.and_eq_true] at e
    exact .cons (clB_cl e.1) (clBL_cl e.2)
theorem clBF_cl {k : Nat} : ∀ {d : List (Str × D)}, clBF d = true → ClF k d
  | [], _ => .nil
  | (x, d) :: ds, e => by
    unfold clBF at e
    rw [Bool.and_eq_true] at e
    exact .cons (clB_cl e.1) (clBF_cl e.2)
end
theorem gcT_sim (F : AF) : Sim F (gcT F) := fun ds h => by
  unfold gcT
  cases e : F ds h with
  | ok d h1 =>
    dsimp only
    by_cases hp : clB d = true
    · rw [if_pos hp]
      cases q : cutH h.length h.length h1 with
      | none => trivial
      | some h2 =>
        obtain ⟨p1, p2, p3⟩ := cutH_ok q
        exact ⟨h1, rfl, ⟨p1, Nat.le_of_eq p2.symm, fun i o z => .inr (by rw [p2]; exact p3 i o z)⟩, clB_cl hp⟩
    · rw [if_neg hp]; trivial
  | exc x h1 => trivial
  | stuck => trivial
/-- what is left behind is dropped, if it can be -/
def gcF (F : AF) : AF := fun ds h => match F ds h with
  | .ok d h1 => if clB d = true then match cutH h.length h.length h1 with
      | some h2 => .ok d h2
      | none => .ok d h1
    else .ok d h1
  | r => r
theorem gcF_or (F : AF) (ds : List D) (h : AH) : gcF F ds h = F ds h ∨ gcF F ds h = gcT F ds h := by
  unfold gcF gcT
  cases F ds h with
  | ok d h1 =>
    dsimp only
    split
    · cases cutH h.length h.length h1 with
      | none => exact .inl rfl
      | some h2 => exact .inr rfl
    · exact .inl rfl
  | exc x h1 => exact .inl rfl
  | stuck => exact .inl rfl
theorem gcF_sim (F : AF) : SimQ F (gcF F) := by
  refine ⟨fun {K ct m H W σ ds h Q} hr p => ?_, fun ds h q z => q ?_⟩
  · rcases gcF_or F ds h with e | e
    · rw [e] at p; exact p
    · rw [e] at p; exact (gcT_sim F).post hr p
  · unfold gcF; rw [z]
/-- the spine of a heap laid bare before it is used -/
def forceL {α β : Type} : List α → (List α → β) → β
  | [], k => k []
  | a :: l, k => forceL l fun t => k (a :: t)
theorem forceL_eq {α β : Type} : ∀ (l : List α) (k : List α → β), forceL l k = k l
  | [], k => rfl
  | a :: l, k => forceL_eq l fun t => k (a :: t)
def stf (F : AF) : AF := fun ds h => forceL h (F ds)
theorem stf_eq (F : AF) : stf F = F := by
  funext ds h
  exact forceL_eq h (F ds)
def gcS (F : AF) : AF := stf (gcF F)
theorem gcS_sim (F : AF) : SimQ F (gcS F) := by
  unfold gcS
  rw [stf_eq]
  exact gcF_sim F
theorem stf_sim (F : AF) : SimQ F (stf F) := by
  rw [stf_eq]
  exact SimQ.rfl'
end Led
/-! LedSpr: the laws' other source of digits. -/
namespace Led
open PySem L2
def sprB : AS := (sSeq (sSet 0 (eCall absA (aCons (eVar 0) aNil)))
  (sRet (eLst (aCons (eBin mulA (eVar 0) (eCall intA (aCons (eBin (cmpI (fun i j => decide (j ≤ i))) (eVar 0) (eBin powA (eC (.int 10)) (eC (.int 18)))) aNil))) (aCons (eBin modA (eCall intA (aCons (eVar 0) aNil)) (eC (.int 2147483629))) (aCons (eC (.int 2)) aNil))))))
def takB : AS := (sSeq (sIf (tE (eBin (cmpI (fun i j => decide (j < i))) (eBin ixA (eVar 0) (eC (.int 0))) (eC (.int 0)))) (sSeq (sSet 3 (eBin modA (eCall intA (aCons (eBin ixA (eVar 0) (eC (.int 0))) aNil)) (eVar 1)))
  (sSeq (sSub (eVar 0) (eC (.int 0)) (eBin fdivA (eBin ixA (eVar 0) (eC (.int 0))) (eVar 1)))
  (sRet (eVar 3)))) sNil)
  (sSeq (sSub (eVar 0) (eC (.int 2)) (eBin addA (eBin ixA (eVar 0) (eC (.int 2))) (eC (.int 1))))
  (sSeq (sSet 2 (eBin modA (eCall intA (aCons (eBin powA (eBin addA (eBin addA (eBin ixA (eVar 0) (eC (.int 1))) (eBin mulA (eC (.int 40009)) (eBin ixA (eVar 0) (eC (.int 2))))) (eC (.int 13))) (eC (.int 3))) aNil)) (eC (.int 2147483587))))
  (sSeq (sSet 2 (eBin modA (eCall intA (aCons (eBin mulA (eVar 2) (eBin addA (eBin fdivA (eVar 2) (eC (.int 1021))) (eBin mulA (eC (.int 60013)) (eBin ixA (eVar 0) (eC (.int 2)))))) aNil)) (eC (.int 2147483579))))
  (sRet (eBin modA (eCall intA (aCons (eBin fdivA (eVar 2) (eC (.int 11))) aNil)) (eVar 1)))))))
local macro_rules | `(tactic| walk_at "w") => `(tactic| first
  | with_reducible refine swp_seq ?_
  | with_reducible refine swp_set ?_
  | with_reducible refine swp_if ?_
  | with_reducible refine swp_ret ?_
  | with_reducible refine swp_nil ?_
  | with_reducible refine swp_sub ?_
  | with_reducible refine wp_bin ?_
  | with_reducible refine wp_call ?_
  | with_reducible refine wp_cons ?_
  | with_reducible refine wp_nil ?_
  | with_reducible refine wp_c ?_
  | with_reducible refine wp_tE ?_
  | with_reducible refine wp_ok ?_
  | ((with_reducible show Wp (eVar _ _ _) _ _); refine wp_var rfl ?_)
  | ((with_reducible show Wp (intA _ _) _ _); refine wp_eq rfl ?_)
  | ((with_reducible show Wp (addA _ _ _) _ _); refine wp_eq rfl ?_)
  | with_reducible refine ex_bl ?_)
theorem set2 {h : AH} {n : Nat} {p q r x : D} (e : h[n]? = some (.lst [p, q, r])) : setA (.ref n) (.int 2) x h = some (h.set n (.lst [p, q, x])) := by unfold setA; dsimp only; rw [e]; rfl
theorem ev_pow3 {h : AH} {i : Int} (hi : i.natAbs < 2 ^ 64) : powA (.int i) (.int 3) h = .ok (.int (i ^ 3)) h := by show (if _ then _ else _) = _; rw [if_pos ⟨by decide, by decide, hi⟩]; rfl
theorem take_ok {h : AH} {n : Nat} {p q r b : Int} (e : h[n]? = some (.lst [.int p, .int q, .int r])) (hp : 0 ≤ p) (hq : 0 ≤ q) (hq' : q < 2 ^ 40) (hr : 0 ≤ r) (hr' : r < 2 ^ 40) (hb : 0 < b) (hb' : b < 1073741824) :
    ∃ (d : Nat) (p' r' : Int), (d : Int) < b ∧ 0 ≤ p' ∧ 0 ≤ r' ∧ r' ≤ r + 1 ∧ fnA 2 4 takB [.ref n, .int b] h = .ok (.int d) (h.set n (.lst [.int p', .int q, .int r'])) := by
  have fin : ∀ (x : Int) (h1 : AH), 0 ≤ x → x < b → ∀ p' r' : Int, 0 ≤ p' → 0 ≤ r' → r' ≤ r + 1 → h1 = h.set n (.lst [.int p', .int q, .int r']) → ∃ (d : Nat) (p' r' : Int), (d : Int) < b ∧ 0 ≤ p' ∧ 0 ≤ r' ∧ r' ≤ r + 1 ∧ (Res.ok (D.int x) h1 : Res D) = .ok (.int d) (h.set n (.lst [.int p', .int q, .int r'])) :=
    fun x h1 hx hx' p' r' a1 a2 a3 e1 => ⟨x.toNat, p', r', by omega, a1, a2, a3, by rw [e1, show ((x.toNat : Nat) : Int) = x by omega]⟩
  have hlt := lt_of_get e
  obtain ⟨d, h1, ed, x, rfl, hx, hx', p', r', a1, a2, a3, eh⟩ := wp_get (r := fnA 2 4 takB [.ref n, .int b] h) (Q := fun d h1 => ∃ x : Int, d = .int x ∧ 0 ≤ x ∧ x < b ∧ ∃ p' r' : Int, 0 ≤ p' ∧ 0 ≤ r' ∧ r' ≤ r + 1 ∧ h1 = h.set n (.lst [.int p', .int q, .int r'])) (by
    refine wp_fn rfl ?_
    unfold takB
    repeat walk_at "w"
    refine wp_eq (ix0 e) ?_
    repeat walk_at "w"
    refine wp_eq (show cmpI (fun i j => decide (j < i)) (.int p) (.int 0) h = .ok (.bl (decide (0 < p))) h from rfl) (ex_bl ⟨fun hpos => ?_, fun hneg => ?_⟩)
    · have hpos := of_decide_eq_true hpos
      repeat walk_at "w"
      refine wp_eq (ix0 e) ?_
      repeat walk_at "w"
      refine wp_eq (ev_mod hb) ?_
      repeat walk_at "w"
      refine wp_eq (ix0 e) ?_
      repeat walk_at "w"
      refine wp_eq (ev_fdiv hb hb') ?_
      repeat walk_at "w"
      refine ⟨_, set0 e, ?_⟩
      repeat walk_at "w"
      exact ⟨p % b, rfl, Int.emod_nonneg p (by omega), Int.emod_lt_of_pos p hb, p / b, r, Int.ediv_nonneg hp (by omega), hr, by omega, rfl⟩
    · have e2 : (h.set n (.lst [.int p, .int q, .int (r + 1)]))[n]? = some (.lst [.int p, .int q, .int (r + 1)]) := List.getElem?_set_self hlt
      repeat walk_at "w"
      refine wp_eq (ix2 e) ?_
      repeat walk_at "w"
      refine ⟨_, set2 e, ?_⟩
      repeat walk_at "w"
      refine wp_eq (ix1 e2) ?_
      repeat walk_at "w"
      refine wp_eq (ix2 e2) (wp_eq (ev_mul (.inl ⟨by decide, by decide⟩)) ?_)
      repeat walk_at "w"
      refine wp_eq (ev_pow3 (by omega)) ?_
      repeat walk_at "w"
      refine wp_eq (ev_mod (by decide)) ?_
      generalize hz : (q + 40009 * (r + 1) + 13) ^ 3 % 2147483587 = z
      have z1 : 0 ≤ z := by rw [← hz]; exact Int.emod_nonneg _ (by decide)
      have z2 : z < 2147483587 := by rw [← hz]; exact Int.emod_lt_of_pos _ (by decide)
      repeat walk_at "w"
      refine wp_eq (ev_fdiv (by decide) (by decide)) ?_
      repeat walk_at "w"
      refine wp_eq (ix2 e2) (wp_eq (ev_mul (.inl ⟨by decide, by decide⟩)) ?_)
      repeat walk_at "w"
      refine wp_eq (ev_mul (.inl ⟨by omega, by omega⟩)) ?_
      repeat walk_at "w"
      refine wp_eq (ev_mod (by decide)) ?_
      generalize hy : z * (z / 1021 + 60013 * (r + 1)) % 2147483579 = y
      repeat walk_at "w"
      refine wp_eq (ev_fdiv (by decide) (by decide)) ?_
      repeat walk_at "w"
      refine wp_eq (ev_mod hb) ?_
      exact ⟨y / 11 % b, rfl, Int.emod_nonneg _ (by omega), Int.emod_lt_of_pos _ hb, p, r + 1, hp, by omega, by omega, rfl⟩)
  rw [ed]
  exact fin x h1 hx hx' p' r' a1 a2 a3 eh
theorem spring_ok (i : Int) (h : AH) : ∃ p q : Int, 0 ≤ p ∧ 0 ≤ q ∧ q < 2 ^ 40 ∧ fnA 1 1 sprB [.int i] h = .ok (.ref h.length) (h ++ [.lst [.int p, .int q, .int 2]]) := by
  have ha : 0 ≤ (if i < 0 then -i else i) := by split <;> omega
  generalize hz : (if i < 0 then -i else i) = a at ha
  have h1 := Int.emod_nonneg a (by decide : (2147483629 : Int) ≠ 0)
  have h2 := Int.emod_lt_of_pos a (by decide : (0 : Int) < 2147483629)
  refine ⟨a * (if decide ((10 : Int) ^ 18 ≤ a) = true then 1 else 0), a % 2147483629, Int.mul_nonneg ha (by split <;> decide), h1, by omega, ?_⟩
  refine fn_ret rfl ((st_seq (st_set (d := .int a) (h1 := h) ((ev_call (ev_cons rfl ev_nil)).trans ?_))).trans (st_ret ?_))
  · show Res.ok (D.int (if i < 0 then -i else i)) h = _
    rw [hz]
  · refine ev_lst (h1 := h) (ev_cons (h1 := h) ((ev_bin (h1 := h) (h2 := h) rfl ((ev_call (ev_cons (h1 := h) ((ev_bin (h1 := h) (h2 := h) rfl (show eBin powA (eC (.int 10)) (eC (.int 18)) _ h = .ok (.int (10 ^ 18)) h from rfl)).trans rfl) ev_nil)).trans rfl)).trans (ev_mul (.inr ?_))) (ev_cons (h1 := h) ((ev_bin (h1 := h) (h2 := h) ((ev_call (ev_cons rfl ev_nil)).trans rfl) rfl).trans (ev_mod (by decide))) (ev_cons rfl ev_nil))) (show 3 ≤ sizeLine by decide)
    split <;> decide
end Led
namespace K18
open PySem L2 Led
def top (i : Nat) : Stmt := PySem.Challenge.pw_lednames_k18_known_answers.main.body.getD i (.Pass ⟨0, 0, 0, 0⟩)
def cn : List Str := ["LedError", "NoName", "BadRow", "BadTable", "Fact", "Valued", "Turned", "Thing", "Rest", "Other", "Lead", "Stop", "Table", "Way", "Reader", "End"]
def TB : TabD := ⟨[4, 5, 6, 7, 8, 9, 10, 11, 12, 13, 14, 15], [(5, ["name", "thing"]), (6, ["name", "target"]), (7, ["name", "thing"]), (8, ["name", "thing"]), (9, ["name", "target"]), (10, ["name", "target"]), (11, ["name"]), (12, ["rows", "memory", "owns", "ways", "below"]), (13, ["node", "target", "gone", "here", "calls", "place"]), (14, ["table", "places", "calls", "costs", "uses", "unread", "answers"]), (15, ["answer", "met", "others", "teller"])], [(.b "NoneType", .c 8, false), (.b "bool", .c 8, false), (.b "int", .c 8, false), (.b "str", .c 8, false), (.b "tuple", .c 8, false), (.b "list", .c 8, false), (.b "dict", .c 8, false), (.c 4, .c 8, false), (.c 5, .c 8, false), (.c 6, .c 8, false), (.c 7, .c 8, false), (.c 8, .c 8, true), (.c 9, .c 8, false), (.c 10, .c 8, false), (.c 11, .c 8, false), (.c 12, .c 8, false), (.c 13, .c 8, false), (.c 14, .c 8, false), (.c 15, .c 8, false), (.b "NoneType", .c 4, false), (.b "bool", .c 4, false), (.b "int", .c 4, false), (.b "str", .c 4, false), (.b "tuple", .c 4, false), (.b "list", .c 4, false), (.b "dict", .c 4, false), (.c 4, .c 4, true), (.c 5, .c 4, true), (.c 6, .c 4, true), (.c 7, .c 4, true), (.c 8, .c 4, true), (.c 9, .c 4, true), (.c 10, .c 4, true), (.c 11, .c 4, true), (.c 12, .c 4, true), (.c 13, .c 4, false), (.c 14, .c 4, false), (.c 15, .c 4, false), (.b "NoneType", .c 10, false), (.b "bool", .c 10, false), (.b "int", .c 10, false), (.b "str", .c 10, false), (.b "tuple", .c 10, false), (.b "list", .c 10, false), (.b "dict", .c 10, false), (.c 4, .c 10, false), (.c 5, .c 10, false), (.c 6, .c 10, false), (.c 7, .c 10, false), (.c 8, .c 10, false), (.c 9, .c 10, false), (.c 10, .c 10, true), (.c 11, .c 10, false), (.c 12, .c 10, false), (.c 13, .c 10, false), (.c 14, .c 10, false), (.c 15, .c 10, false), (.b "NoneType", .b "list", false), (.b "bool", .b "list", false), (.b "int", .b "list", false), (.b "str", .b "list", false), (.b "tuple", .b "list", false), (.b "list", .b "list", true), (.b "dict", .b "list", false), (.c 4, .b "list", false), (.c 5, .b "list", false), (.c 6, .b "list", false), (.c 7, .b "list", false), (.c 8, .b "list", false), (.c 9, .b "list", false), (.c 10, .b "list", false), (.c 11, .b "list", false), (.c 12, .b "list", false), (.c 13, .b "list", false), (.c 14, .b "list", false), (.c 15, .b "list", false), (.b "NoneType", .b "tuple", false), (.b "bool", .b "tuple", false), (.b "int", .b "tuple", false), (.b "str", .b "tuple", false), (.b "tuple", .b "tuple", true), (.b "list", .b "tuple", false), (.b "dict", .b "tuple", false), (.c 4, .b "tuple", false), (.c 5, .b "tuple", false), (.c 6, .b "tuple", false), (.c 7, .b "tuple", false), (.c 8, .b "tuple", false), (.c 9, .b "tuple", false), (.c 10, .b "tuple", false), (.c 11, .b "tuple", false), (.c 12, .b "tuple", false), (.c 13, .b "tuple", false), (.c 14, .b "tuple", false), (.c 15, .b "tuple", false), (.b "NoneType", .b "str", false), (.b "bool", .b "str", false), (.b "int", .b "str", false), (.b "str", .b "str", true), (.b "tuple", .b "str", false), (.b "list", .b "str", false), (.b "dict", .b "str", false), (.c 4, .b "str", false), (.c 5, .b "str", false), (.c 6, .b "str", false), (.c 7, .b "str", false), (.c 8, .b "str", false), (.c 9, .b "str", false), (.c 10, .b "str", false), (.c 11, .b "str", false), (.c 12, .b "str", false), (.c 13, .b "str", false), (.c 14, .b "str", false), (.c 15, .b "str", false), (.b "NoneType", .c 9, false), (.b "bool", .c 9, false), (.b "int", .c 9, false), (.b "str", .c 9, false), (.b "tuple", .c 9, false), (.b "list", .c 9, false), (.b "dict", .c 9, false), (.c 4, .c 9, false), (.c 5, .c 9, false), (.c 6, .c 9, false), (.c 7, .c 9, false), (.c 8, .c 9, false), (.c 9, .c 9, true), (.c 10, .c 9, false), (.c 11, .c 9, false), (.c 12, .c 9, false), (.c 13, .c 9, false), (.c 14, .c 9, false), (.c 15, .c 9, false), (.b "NoneType", .c 7, false), (.b "bool", .c 7, false), (.b "int", .c 7, false), (.b "str", .c 7, false), (.b "tuple", .c 7, false), (.b "list", .c 7, false), (.b "dict", .c 7, false), (.c 4, .c 7, false), (.c 5, .c 7, false), (.c 6, .c 7, false), (.c 7, .c 7, true), (.c 8, .c 7, false), (.c 9, .c 7, false), (.c 10, .c 7, false), (.c 11, .c 7, false), (.c 12, .c 7, false), (.c 13, .c 7, false), (.c 14, .c 7, false), (.c 15, .c 7, false), (.b "NoneType", .c 11, false), (.b "bool", .c 11, false), (.b "int", .c 11, false), (.b "str", .c 11, false), (.b "tuple", .c 11, false), (.b "list", .c 11, false), (.b "dict", .c 11, false), (.c 4, .c 11, false), (.c 5, .c 11, false), (.c 6, .c 11, false), (.c 7, .c 11, false), (.c 8, .c 11, false), (.c 9, .c 11, false), (.c 10, .c 11, false), (.c 11, .c 11, true), (.c 12, .c 11, false), (.c 13, .c 11, false), (.c 14, .c 11, false), (.c 15, .c 11, false), (.b "NoneType", .b "bool", false), (.b "bool", .b "bool", true), (.b "int", .b "bool", false), (.b "str", .b "bool", false), (.b "tuple", .b "bool", false), (.b "list", .b "bool", false), (.b "dict", .b "bool", false), (.c 4, .b "bool", false), (.c 5, .b "bool", false), (.c 6, .b "bool", false), (.c 7, .b "bool", false), (.c 8, .b "bool", false), (.c 9, .b "bool", false), (.c 10, .b "bool", false), (.c 11, .b "bool", false), (.c 12, .b "bool", false), (.c 13, .b "bool", false), (.c 14, .b "bool", false), (.c 15, .b "bool", false), (.b "NoneType", .b "int", false), (.b "bool", .b "int", true), (.b "int", .b "int", true), (.b "str", .b "int", false), (.b "tuple", .b "int", false), (.b "list", .b "int", false), (.b "dict", .b "int", false), (.c 4, .b "int", false), (.c 5, .b "int", false), (.c 6, .b "int", false), (.c 7, .b "int", false), (.c 8, .b "int", false), (.c 9, .b "int", false), (.c 10, .b "int", false), (.c 11, .b "int", false), (.c 12, .b "int", false), (.c 13, .b "int", false), (.c 14, .b "int", false), (.c 15, .b "int", false)]⟩
abbrev TT : Tabs := TB.T
def nfL : List (Nat × Ty) := []
def fcs : List Fc := ([.fa (.glo "_law_behind_right"), .fa (.glo "_law_others_right"), .fa (.glo "_law_leads_right"), .fa (.glo "_law_spring"), .fa (.glo "_law_labels"), .fa (.mkr "Rest"), .fa (.glo "Rest"), .fa (.mkr "Table"), .fa (.glo "Table"), .fa (.glo "_law_told"), .fa (.mkr "Other"), .fa (.glo "Other"), .fa (.mkr "Lead"), .fa (.glo "Lead"), .fa (.mkr "Thing"), .fa (.glo "Thing"), .fa (.glo "place_of"), .fa (.glo "count_moves"), .fa (.glo "answer_of"), .fa (.glo "checked_name")] : List Fc) ++ ([.fa (.glo "reader_of"), .fa (.glo "leaving_answer"), .fa (.free "isinstance"), .fa (.glo "thing_answer"), .fa (.glo "NOTHING"), .tupc "NOTHING" (.tup [(.str "nothing")]), .fa (.glo "Fact"), .fa (.glo "GROWS"), .tupc "GROWS" (.tup [(.str "grows")]), .fa (.glo "ROUND"), .tupc "ROUND" (.tup [(.str "round")]), .fa (.free "any"), .fa (.free "list"), .fa (.free "len"), .fa (.mkr "Way"), .fa (.glo "Way"), .fa (.free "sum"), .fa (.free "tuple"), .fa (.glo "is_name"), .ini "NoName"] : List Fc) ++ ([.oex "NoName", .fa (.noat "NoName" "name"), .fa (.glo "NoName"), .fa (.glo "is_label"), .fa (.free "all"), .fa (.str "LETTERS" "abcdefghijklmnopqrstuvwxyz"), .fa (.int "MOST_LETTERS" 8), .fa (.free "str"), .fa (.mkr "Reader"), .fa (.glo "Reader"), .fa (.glo "walk_end"), .fa (.glo "moves_of"), .fa (.glo "end_of"), .fa (.mkr "End"), .fa (.glo "End"), .fa (.glo "row_key"), .fa (.free "sorted"), .fa (.glo "check_rows"), .fa (.glo "is_row"), .ini "BadTable"] : List Fc) ++ ([.oex "BadTable", .fa (.noat "BadTable" "what"), .fa (.noat "BadTable" "name"), .fa (.glo "BadTable"), .fa (.free "enumerate"), .fa (.glo "KINDS"), .tupc "KINDS" (.tup ((["thing", "other", "lead", "rest", "stop"] : List Str).map .str)), .fa (.glo "name_key"), .fa (.free "range"), .fa (.glo "PAIRS"), .tupc "PAIRS" (.tup [(.tup [(.str "thing"), (.str "other")]), (.tup [(.str "lead"), (.str "rest")])]), .fa (.free "set"), .fa (.glo "Stop"), .fa (.glo "is_number"), .ini "BadRow", .oex "BadRow", .fa (.noat "BadRow" "what"), .fa (.glo "BadRow"), .fa (.glo "row_name"), .fa (.free "bool")] : List Fc) ++ ([.fa (.free "int"), .fa (.mkr "Stop"), .fa (.glo "_law_one"), .fa (.glo "_law_take"), .fa (.free "abs"), .same "Way" "__init__" "Way" "__init__", .same "Reader" "__init__" "Reader" "__init__", .same "End" "__init__" "End" "__init__", .same "Rest" "__init__" "Valued" "__init__", .same "Table" "__init__" "Table" "__init__", .same "Other" "__init__" "Turned" "__init__", .same "Lead" "__init__" "Turned" "__init__", .same "Thing" "__init__" "Valued" "__init__", .same "Stop" "__init__" "Stop" "__init__", .fa (.glo "law")] : List Fc)
def msL : List (Nat × Str × Str) := ([(12, "way", "Table"), (4, "facts", "Fact"), (5, "facts", "Valued"), (6, "facts", "Turned"), (7, "facts", "Valued"), (8, "facts", "Valued"), (9, "facts", "Turned"), (10, "facts", "Turned"), (11, "facts", "Stop"), (12, "facts", "Table"), (4, "class_name", "Fact"), (5, "class_name", "Fact"), (6, "class_name", "Fact"), (7, "class_name", "Thing"), (8, "class_name", "Rest"), (9, "class_name", "Other"), (10, "class_name", "Lead"), (11, "class_name", "Stop"), (12, "class_name", "Table"), (14, "answer_at", "Reader")] : List (Nat × Str × Str)) ++ ([(14, "endless_from", "Reader"), (14, "is_led", "Reader"), (14, "come", "Reader"), (12, "has_node", "Table"), (14, "known_place", "Reader"), (14, "is_new", "Reader"), (14, "child_of", "Reader"), (14, "cost_of", "Reader"), (14, "cost_of_all", "Reader"), (14, "begun", "Reader"), (14, "goes_through", "Reader"), (14, "end", "Reader"), (14, "work_out", "Reader"), (14, "place_behind", "Reader"), (14, "passed", "Reader"), (14, "shown", "Reader"), (14, "read", "Reader"), (15, "is_endless", "End"), (12, "own", "Table"), (12, "add_row", "Table")] : List (Nat × Str × Str))
def dfs : List He.DefD := [defD ("thing_answer", none) "thing_answer" "thing_answer" (top 34), defD ("Table", some "way") "way" "Table.way" (inClass (top 29) 5), defD ("leaving_answer", none) "leaving_answer" "leaving_answer" (top 35), defD ("Fact", some "facts") "facts" "Fact.facts" (inClass (top 7) 0), defD ("Valued", some "facts") "facts" "Valued.facts" (inClass (top 19) 1), defD ("Turned", some "facts") "facts" "Turned.facts" (inClass (top 20) 1), defD ("Stop", some "facts") "facts" "Stop.facts" (inClass (top 25) 2), defD ("Table", some "facts") "facts" "Table.facts" (inClass (top 29) 2), defD ("Fact", some "class_name") "class_name" "Fact.class_name" (inClass (top 7) 1), defD ("Thing", some "class_name") "class_name" "Thing.class_name" (inClass (top 21) 0), defD ("Rest", some "class_name") "class_name" "Rest.class_name" (inClass (top 22) 0), defD ("Other", some "class_name") "class_name" "Other.class_name" (inClass (top 23) 0), defD ("Lead", some "class_name") "class_name" "Lead.class_name" (inClass (top 24) 0), defD ("Stop", some "class_name") "class_name" "Stop.class_name" (inClass (top 25) 1), defD ("Table", some "class_name") "class_name" "Table.class_name" (inClass (top 29) 1), defD ("Fact", some "__eq__") "__eq__" "Fact.__eq__" (inClass (top 7) 2), defD ("Reader", some "answer_at") "answer_at" "Reader.answer_at" (inClass (top 38) 18), defD ("Reader", some "shown") "shown" "Reader.shown" (inClass (top 38) 19), defD ("Reader", some "endless_from") "endless_from" "Reader.endless_from" (inClass (top 38) 11), defD ("Reader", some "is_led") "is_led" "Reader.is_led" (inClass (top 38) 1), defD ("Reader", some "known_place") "known_place" "Reader.known_place" (inClass (top 38) 4), defD ("Reader", some "is_new") "is_new" "Reader.is_new" (inClass (top 38) 3), defD ("Reader", some "come") "come" "Reader.come" (inClass (top 38) 8), defD ("Way", some "__init__") "__init__" "Way.__init__" (inClass (top 37) 0), defD ("Reader", some "begun") "begun" "Reader.begun" (inClass (top 38) 7), defD ("Table", some "has_node") "has_node" "Table.has_node" (inClass (top 29) 6), defD ("Reader", some "child_of") "child_of" "Reader.child_of" (inClass (top 38) 2), defD ("Reader", some "goes_through") "goes_through" "Reader.goes_through" (inClass (top 38) 9), defD ("Reader", some "cost_of") "cost_of" "Reader.cost_of" (inClass (top 38) 16), defD ("Reader", some "cost_of_all") "cost_of_all" "Reader.cost_of_all" (inClass (top 38) 13), defD ("Reader", some "end") "end" "Reader.end" (inClass (top 38) 10), defD ("Reader", some "work_out") "work_out" "Reader.work_out" (inClass (top 38) 6), defD ("Reader", some "place_behind") "place_behind" "Reader.place_behind" (inClass (top 38) 5), defD ("Reader", some "passed") "passed" "Reader.passed" (inClass (top 38) 12), defD ("Reader", some "read") "read" "Reader.read" (inClass (top 38) 17), defD ("is_label", none) "is_label" "is_label" (top 14), defD ("is_name", none) "is_name" "is_name" (top 15), defD ("NoName", some "__init__") "__init__" "NoName.__init__" (inClass (top 3) 0), defD ("checked_name", none) "checked_name" "checked_name" (top 16), defD ("Reader", some "__init__") "__init__" "Reader.__init__" (inClass (top 38) 0), defD ("reader_of", none) "reader_of" "reader_of" (top 39), defD ("place_of", none) "place_of" "place_of" (top 46), defD ("End", some "is_endless") "is_endless" "End.is_endless" (inClass (top 40) 1), defD ("moves_of", none) "moves_of" "moves_of" (top 44), defD ("End", some "__init__") "__init__" "End.__init__" (inClass (top 40) 0), defD ("Table", some "own") "own" "Table.own" (inClass (top 29) 4), defD ("end_of", none) "end_of" "end_of" (top 41), defD ("walk_end", none) "walk_end" "walk_end" (top 42), defD ("count_moves", none) "count_moves" "count_moves" (top 45), defD ("answer_of", none) "answer_of" "answer_of" (top 43), defD ("_law_told", none) "_law_told" "_law_told" (top 52), defD ("Table", some "add_row") "add_row" "Table.add_row" (inClass (top 29) 3), defD ("name_key", none) "name_key" "name_key" (top 17), defD ("row_key", none) "row_key" "row_key" (top 27), defD ("BadTable", some "__init__") "__init__" "BadTable.__init__" (inClass (top 5) 0), defD ("check_rows", none) "check_rows" "check_rows" (top 28), defD ("is_row", none) "is_row" "is_row" (top 26), defD ("Table", some "__init__") "__init__" "Table.__init__" (inClass (top 29) 0), defD ("is_number", none) "is_number" "is_number" (top 8), defD ("BadRow", some "__init__") "__init__" "BadRow.__init__" (inClass (top 4) 0), defD ("row_name", none) "row_name" "row_name" (top 18), defD ("Valued", some "__init__") "__init__" "Valued.__init__" (inClass (top 19) 0), defD ("Turned", some "__init__") "__init__" "Turned.__init__" (inClass (top 20) 0), defD ("_law_behind_right", none) "_law_behind_right" "_law_behind_right" (top 55), defD ("Stop", some "__init__") "__init__" "Stop.__init__" (inClass (top 25) 0), defD ("_law_others_right", none) "_law_others_right" "_law_others_right" (top 54), defD ("_law_leads_right", none) "_law_leads_right" "_law_leads_right" (top 53), defD ("_law_take", none) "_law_take" "_law_take" (top 49), defD ("_law_one", none) "_law_one" "_law_one" (top 50), defD ("_law_labels", none) "_law_labels" "_law_labels" (top 51), defD ("_law_spring", none) "_law_spring" "_law_spring" (top 48), defD ("law", none) "law" "law" (top 56)]
def hd : HeadD := ⟨cn, TB, nfL, msL, [], [], fcs, dfs⟩
structure Zz (K : Frg) (mg : Str → Option Value) (h : Heap) : Prop where
  c : SaysL hd K
  X : K.In h
  G : h.Ns mainGlobals mg
abbrev CT (K : Frg) (w : World) : CTab := ctOf hd.cn K w
theorem ul {a b c d e : Nat} (h : a + b + e < d) (hc : c ≤ e) : a + c < d := by omega

/-! thing_answer -/
abbrev s_thing_answer : Stmt := top 34
def b_thing_answer : AS := (sRet (eTup (aCons (eC (.str "thing")) (aCons (eVar 0) aNil))))
def F_thing_answer : AF := fnA 1 1 b_thing_answer
def M_thing_answer : AF := isoF F_thing_answer
theorem sc_thing_answer : FnScope ["thing"] ["thing"] (defScope s_thing_answer) := ⟨rfl, rfl, rfl, by decide +kernel, rfl, by decide +kernel, by decide +kernel⟩
set_option maxHeartbeats 40000000 in
theorem ok_thing_answer {P : Program} {w : World} {K : Frg} {mg : Str → Option Value} {base : Heap} {h : Heap} (z : Zz K mg h) : Fn P w K mg base (CT K w) 1 (He.fAd K ("thing_answer", none)) 1 M_thing_answer := by
  obtain ⟨fd, F⟩ := z.c.def_ 0 (at_ := ("thing_answer", none)) (name := "thing_answer") (qual := "thing_answer") (st := s_thing_answer)
  refine Fn.iso (fn_mk (k := 0) F sc_thing_answer rfl rfl (F.binds (ps := ["thing"]) fun _ _ _ _ _ _ us hl => match us, hl with | [_], _ => rfl) (fun cdv A outer s H E hr ok => ?_))
  have nd := sc_thing_answer.nd
  have tk := z.c.tabOk w
  have hu := hr.un
  unfold b_thing_answer
  exact (sss_one (ss_ret (se_tup (sa_cons se_str (sa_cons (se_var 0) sa_nil)))))
/-! Table.way -/
abbrev s_Table_way : Stmt := inClass (top 29) 5
def b_Table_way : AS := (sRet (eDM getDA (eFld TT "ways" (eVar 0)) (aCons (eVar 1) (aCons (eC .non) aNil))))
def F_Table_way : AF := fnA 2 2 b_Table_way
abbrev M_Table_way : AF := F_Table_way
theorem sim_Table_way : SimQ F_Table_way M_Table_way := SimQ.rfl'
theorem sc_Table_way : FnScope ["self", "name"] ["self", "name"] (defScope s_Table_way) := ⟨rfl, rfl, rfl, by decide +kernel, rfl, by decide +kernel, by decide +kernel⟩
set_option maxHeartbeats 40000000 in
theorem ok_Table_way {P : Program} {w : World} {K : Frg} {mg : Str → Option Value} {base : Heap} {h : Heap} (z : Zz K mg h) : Fn P w K mg base (CT K w) 1 (He.fAd K ("Table", some "way")) 2 M_Table_way := by
  obtain ⟨fd, F⟩ := z.c.def_ 1 (at_ := ("Table", some "way")) (name := "way") (qual := "Table.way") (st := s_Table_way)
  refine Fn.simQ (fn_mk (k := 0) F sc_Table_way rfl rfl (F.binds (ps := ["self", "name"]) fun _ _ _ _ _ _ us hl => match us, hl with | [_, _], _ => rfl) (fun cdv A outer s H E hr ok => ?_)) sim_Table_way
  have nd := sc_Table_way.nd
  have tk := z.c.tabOk w
  have hu := hr.un
  unfold b_Table_way
  exact (sss_one (ss_ret (se_dm PySem.F.slot_dict_get PySem.F.type_dict_get (mt_getD (ul hu (by decide)) rfl) (se_fld tk (se_var 0)) (sa_cons (se_var 1) (sa_cons se_non sa_nil)) getDA_nx)))
def mt_way : Nat → Option AF := fun c => lookN c [(12, M_Table_way)]
theorem mo_way {X : Cx} {h : Heap} (z : Zz X.K X.mg h) : MethOk X (CT X.K X.w) 1 "way" mt_way := by
  intro c F e
  have q := lookN_mem e
  simp only [List.mem_cons, List.not_mem_nil, or_false, Prod.mk.injEq] at q
  rcases q with ⟨rfl, rfl⟩
  · exact ⟨((z.c.tabOk X.w).cls 12 (by decide)).cl, _, _, z.c.meth (k := 12) (m := "way") (y := "Table") (by decide), (ok_Table_way z).mono (by decide)⟩
/-! leaving_answer -/
abbrev s_leaving_answer : Stmt := top 35
def b_leaving_answer : AS := (sSeq (sSet 2 (eMeth "way" mt_way (eVar 0) (aCons (eVar 1) aNil)))
  (sRet (eIfA (tE (eCall (isiA TT) (aCons (eVar 2) (aCons (eC (.cls 8)) aNil)))) (eCall M_thing_answer (aCons (eFld TT "thing" (eVar 2)) aNil)) (eC (.tup [(.str "nothing")])))))
def F_leaving_answer : AF := fnA 2 3 b_leaving_answer
abbrev M_leaving_answer : AF := F_leaving_answer
theorem sim_leaving_answer : SimQ F_leaving_answer M_leaving_answer := SimQ.rfl'
theorem sc_leaving_answer : FnScope ["table", "node", "row"] ["table", "node"] (defScope s_leaving_answer) := ⟨rfl, rfl, rfl, by decide +kernel, rfl, by decide +kernel, by decide +kernel⟩
set_option maxHeartbeats 40000000 in
theorem ok_leaving_answer {P : Program} {w : World} {K : Frg} {mg : Str → Option Value} {base : Heap} {h : Heap} (z : Zz K mg h) : Fn P w K mg base (CT K w) 2 (He.fAd K ("leaving_answer", none)) 2 M_leaving_answer := by
  obtain ⟨fd, F⟩ := z.c.def_ 2 (at_ := ("leaving_answer", none)) (name := "leaving_answer") (qual := "leaving_answer") (st := s_leaving_answer)
  refine Fn.simQ (fn_mk (k := 1) F sc_leaving_answer rfl rfl (F.binds (ps := ["table", "node"]) fun _ _ _ _ _ _ us hl => match us, hl with | [_, _], _ => rfl) (fun cdv A outer s H E hr ok => ?_)) sim_leaving_answer
  have nd := sc_leaving_answer.nd
  have tk := z.c.tabOk w
  have hu := hr.un
  unfold b_leaving_answer
  exact (sss_cons (ss_set 2 (se_meth ok (mo_way z) (hr.mono (by decide)) (se_var 0) (sa_cons (se_var 1) sa_nil)) nd)
      (sss_one (ss_ret (se_if (st_val (se_callB call_isiA (cs_isi tk) (z.c.free z.X z.G 22) bt_isinstance (sa_cons (se_var 2) (sa_cons (se_cls (z.c.glo z.X z.G 6)) sa_nil)))) (se_call ok (ok_thing_answer z) (hr.mono (by decide)) (z.c.glo z.X z.G 23) (sa_cons (se_fld tk (se_var 2)) sa_nil)) (se_gtup (z.c.glo z.X z.G 24) (z.c.fact (f := .tupc "NOTHING" (.tup [(.str "nothing")])) 25))))))
/-! Fact.facts -/
abbrev s_Fact_facts : Stmt := inClass (top 7) 0
def b_Fact_facts : AS := (sRet (eTup aNil))
def F_Fact_facts : AF := fnA 1 1 b_Fact_facts
abbrev M_Fact_facts : AF := F_Fact_facts
theorem sim_Fact_facts : SimQ F_Fact_facts M_Fact_facts := SimQ.rfl'
theorem sc_Fact_facts : FnScope ["self"] ["self"] (defScope s_Fact_facts) := ⟨rfl, rfl, rfl, by decide +kernel, rfl, by decide +kernel, by decide +kernel⟩
set_option maxHeartbeats 40000000 in
theorem ok_Fact_facts {P : Program} {w : World} {K : Frg} {mg : Str → Option Value} {base : Heap} {h : Heap} (z : Zz K mg h) : Fn P w K mg base (CT K w) 1 (He.fAd K ("Fact", some "facts")) 1 M_Fact_facts := by
  obtain ⟨fd, F⟩ := z.c.def_ 3 (at_ := ("Fact", some "facts")) (name := "facts") (qual := "Fact.facts") (st := s_Fact_facts)
  refine Fn.simQ (fn_mk (k := 0) F sc_Fact_facts rfl rfl (F.binds (ps := ["self"]) fun _ _ _ _ _ _ us hl => match us, hl with | [_], _ => rfl) (fun cdv A outer s H E hr ok => ?_)) sim_Fact_facts
  have nd := sc_Fact_facts.nd
  have tk := z.c.tabOk w
  have hu := hr.un
  unfold b_Fact_facts
  exact (sss_one (ss_ret (se_tup sa_nil)))
/-! Valued.facts -/
abbrev s_Valued_facts : Stmt := inClass (top 19) 1
def b_Valued_facts : AS := (sRet (eTup (aCons (eFld TT "name" (eVar 0)) (aCons (eFld TT "thing" (eVar 0)) aNil))))
def F_Valued_facts : AF := fnA 1 1 b_Valued_facts
abbrev M_Valued_facts : AF := F_Valued_facts
theorem sim_Valued_facts : SimQ F_Valued_facts M_Valued_facts := SimQ.rfl'
theorem sc_Valued_facts : FnScope ["self"] ["self"] (defScope s_Valued_facts) := ⟨rfl, rfl, rfl, by decide +kernel, rfl, by decide +kernel, by decide +kernel⟩
set_option maxHeartbeats 40000000 in
theorem ok_Valued_facts {P : Program} {w : World} {K : Frg} {mg : Str → Option Value} {base : Heap} {h : Heap} (z : Zz K mg h) : Fn P w K mg base (CT K w) 1 (He.fAd K ("Valued", some "facts")) 1 M_Valued_facts := by
  obtain ⟨fd, F⟩ := z.c.def_ 4 (at_ := ("Valued", some "facts")) (name := "facts") (qual := "Valued.facts") (st := s_Valued_facts)
  refine Fn.simQ (fn_mk (k := 0) F sc_Valued_facts rfl rfl (F.binds (ps := ["self"]) fun _ _ _ _ _ _ us hl => match us, hl with | [_], _ => rfl) (fun cdv A outer s H E hr ok => ?_)) sim_Valued_facts
  have nd := sc_Valued_facts.nd
  have tk := z.c.tabOk w
  have hu := hr.un
  unfold b_Valued_facts
  exact (sss_one (ss_ret (se_tup (sa_cons (se_fld tk (se_var 0)) (sa_cons (se_fld tk (se_var 0)) sa_nil)))))
/-! Turned.facts -/
abbrev s_Turned_facts : Stmt := inClass (top 20) 1
def b_Turned_facts : AS := (sRet (eTup (aCons (eFld TT "name" (eVar 0)) (aCons (eFld TT "target" (eVar 0)) aNil))))
def F_Turned_facts : AF := fnA 1 1 b_Turned_facts
abbrev M_Turned_facts : AF := F_Turned_facts
theorem sim_Turned_facts : SimQ F_Turned_facts M_Turned_facts := SimQ.rfl'
theorem sc_Turned_facts : FnScope ["self"] ["self"] (defScope s_Turned_facts) := ⟨rfl, rfl, rfl, by decide +kernel, rfl, by decide +kernel, by decide +kernel⟩
set_option maxHeartbeats 40000000 in
theorem ok_Turned_facts {P : Program} {w : World} {K : Frg} {mg : Str → Option Value} {base : Heap} {h : Heap} (z : Zz K mg h) : Fn P w K mg base (CT K w) 1 (He.fAd K ("Turned", some "facts")) 1 M_Turned_facts := by
  obtain ⟨fd, F⟩ := z.c.def_ 5 (at_ := ("Turned", some "facts")) (name := "facts") (qual := "Turned.facts") (st := s_Turned_facts)
  refine Fn.simQ (fn_mk (k := 0) F sc_Turned_facts rfl rfl (F.binds (ps := ["self"]) fun _ _ _ _ _ _ us hl => match us, hl with | [_], _ => rfl) (fun cdv A outer s H E hr ok => ?_)) sim_Turned_facts
  have nd := sc_Turned_facts.nd
  have tk := z.c.tabOk w
  have hu := hr.un
  unfold b_Turned_facts
  exact (sss_one (ss_ret (se_tup (sa_cons (se_fld tk (se_var 0)) (sa_cons (se_fld tk (se_var 0)) sa_nil)))))
/-! Stop.facts -/
abbrev s_Stop_facts : Stmt := inClass (top 25) 2
def b_Stop_facts : AS := (sRet (eTup (aCons (eFld TT "name" (eVar 0)) aNil)))
def F_Stop_facts : AF := fnA 1 1 b_Stop_facts
abbrev M_Stop_facts : AF := F_Stop_facts
theorem sim_Stop_facts : SimQ F_Stop_facts M_Stop_facts := SimQ.rfl'
theorem sc_Stop_facts : FnScope ["self"] ["self"] (defScope s_Stop_facts) := ⟨rfl, rfl, rfl, by decide +kernel, rfl, by decide +kernel, by decide +kernel⟩
set_option maxHeartbeats 40000000 in
theorem ok_Stop_facts {P : Program} {w : World} {K : Frg} {mg : Str → Option Value} {base : Heap} {h : Heap} (z : Zz K mg h) : Fn P w K mg base (CT K w) 1 (He.fAd K ("Stop", some "facts")) 1 M_Stop_facts := by
  obtain ⟨fd, F⟩ := z.c.def_ 6 (at_ := ("Stop", some "facts")) (name := "facts") (qual := "Stop.facts") (st := s_Stop_facts)
  refine Fn.simQ (fn_mk (k := 0) F sc_Stop_facts rfl rfl (F.binds (ps := ["self"]) fun _ _ _ _ _ _ us hl => match us, hl with | [_], _ => rfl) (fun cdv A outer s H E hr ok => ?_)) sim_Stop_facts
  have nd := sc_Stop_facts.nd
  have tk := z.c.tabOk w
  have hu := hr.un
  unfold b_Stop_facts
  exact (sss_one (ss_ret (se_tup (sa_cons (se_fld tk (se_var 0)) sa_nil))))
/-! Table.facts -/
abbrev s_Table_facts : Stmt := inClass (top 29) 2
def b_Table_facts : AS := (sRet (eTup (aCons (eFld TT "rows" (eVar 0)) aNil)))
def F_Table_facts : AF := fnA 1 1 b_Table_facts
abbrev M_Table_facts : AF := F_Table_facts
theorem sim_Table_facts : SimQ F_Table_facts M_Table_facts := SimQ.rfl'
theorem sc_Table_facts : FnScope ["self"] ["self"] (defScope s_Table_facts) := ⟨rfl, rfl, rfl, by decide +kernel, rfl, by decide +kernel, by decide +kernel⟩
set_option maxHeartbeats 40000000 in
theorem ok_Table_facts {P : Program} {w : World} {K : Frg} {mg : Str → Option Value} {base : Heap} {h : Heap} (z : Zz K mg h) : Fn P w K mg base (CT K w) 1 (He.fAd K ("Table", some "facts")) 1 M_Table_facts := by
  obtain ⟨fd, F⟩ := z.c.def_ 7 (at_ := ("Table", some "facts")) (name := "facts") (qual := "Table.facts") (st := s_Table_facts)
  refine Fn.simQ (fn_mk (k := 0) F sc_Table_facts rfl rfl (F.binds (ps := ["self"]) fun _ _ _ _ _ _ us hl => match us, hl with | [_], _ => rfl) (fun cdv A outer s H E hr ok => ?_)) sim_Table_facts
  have nd := sc_Table_facts.nd
  have tk := z.c.tabOk w
  have hu := hr.un
  unfold b_Table_facts
  exact (sss_one (ss_ret (se_tup (sa_cons (se_fld tk (se_var 0)) sa_nil))))
/-! Fact.class_name -/
abbrev s_Fact_class_name : Stmt := inClass (top 7) 1
def b_Fact_class_name : AS := (sRet (eC (.str "")))
def F_Fact_class_name : AF := fnA 1 1 b_Fact_class_name
abbrev M_Fact_class_name : AF := F_Fact_class_name
theorem sim_Fact_class_name : SimQ F_Fact_class_name M_Fact_class_name := SimQ.rfl'
theorem sc_Fact_class_name : FnScope ["self"] ["self"] (defScope s_Fact_class_name) := ⟨rfl, rfl, rfl, by decide +kernel, rfl, by decide +kernel, by decide +kernel⟩
set_option maxHeartbeats 40000000 in
theorem ok_Fact_class_name {P : Program} {w : World} {K : Frg} {mg : Str → Option Value} {base : Heap} {h : Heap} (z : Zz K mg h) : Fn P w K mg base (CT K w) 1 (He.fAd K ("Fact", some "class_name")) 1 M_Fact_class_name := by
  obtain ⟨fd, F⟩ := z.c.def_ 8 (at_ := ("Fact", some "class_name")) (name := "class_name") (qual := "Fact.class_name") (st := s_Fact_class_name)
  refine Fn.simQ (fn_mk (k := 0) F sc_Fact_class_name rfl rfl (F.binds (ps := ["self"]) fun _ _ _ _ _ _ us hl => match us, hl with | [_], _ => rfl) (fun cdv A outer s H E hr ok => ?_)) sim_Fact_class_name
  have nd := sc_Fact_class_name.nd
  have tk := z.c.tabOk w
  have hu := hr.un
  unfold b_Fact_class_name
  exact (sss_one (ss_ret se_str))
/-! Thing.class_name -/
abbrev s_Thing_class_name : Stmt := inClass (top 21) 0
def b_Thing_class_name : AS := (sRet (eC (.str "thing")))
def F_Thing_class_name : AF := fnA 1 1 b_Thing_class_name
abbrev M_Thing_class_name : AF := F_Thing_class_name
theorem sim_Thing_class_name : SimQ F_Thing_class_name M_Thing_class_name := SimQ.rfl'
theorem sc_Thing_class_name : FnScope ["self"] ["self"] (defScope s_Thing_class_name) := ⟨rfl, rfl, rfl, by decide +kernel, rfl, by decide +kernel, by decide +kernel⟩
set_option maxHeartbeats 40000000 in
theorem ok_Thing_class_name {P : Program} {w : World} {K : Frg} {mg : Str → Option Value} {base : Heap} {h : Heap} (z : Zz K mg h) : Fn P w K mg base (CT K w) 1 (He.fAd K ("Thing", some "class_name")) 1 M_Thing_class_name := by
  obtain ⟨fd, F⟩ := z.c.def_ 9 (at_ := ("Thing", some "class_name")) (name := "class_name") (qual := "Thing.class_name") (st := s_Thing_class_name)
  refine Fn.simQ (fn_mk (k := 0) F sc_Thing_class_name rfl rfl (F.binds (ps := ["self"]) fun _ _ _ _ _ _ us hl => match us, hl with | [_], _ => rfl) (fun cdv A outer s H E hr ok => ?_)) sim_Thing_class_name
  have nd := sc_Thing_class_name.nd
  have tk := z.c.tabOk w
  have hu := hr.un
  unfold b_Thing_class_name
  exact (sss_one (ss_ret se_str))
/-! Rest.class_name -/
abbrev s_Rest_class_name : Stmt := inClass (top 22) 0
def b_Rest_class_name : AS := (sRet (eC (.str "rest")))
def F_Rest_class_name : AF := fnA 1 1 b_Rest_class_name
abbrev M_Rest_class_name : AF := F_Rest_class_name
theorem sim_Rest_class_name : SimQ F_Rest_class_name M_Rest_class_name := SimQ.rfl'
theorem sc_Rest_class_name : FnScope ["self"] ["self"] (defScope s_Rest_class_name) := ⟨rfl, rfl, rfl, by decide +kernel, rfl, by decide +kernel, by decide +kernel⟩
set_option maxHeartbeats 40000000 in
theorem ok_Rest_class_name {P : Program} {w : World} {K : Frg} {mg : Str → Option Value} {base : Heap} {h : Heap} (z : Zz K mg h) : Fn P w K mg base (CT K w) 1 (He.fAd K ("Rest", some "class_name")) 1 M_Rest_class_name := by
  obtain ⟨fd, F⟩ := z.c.def_ 10 (at_ := ("Rest", some "class_name")) (name := "class_name") (qual := "Rest.class_name") (st := s_Rest_class_name)
  refine Fn.simQ (fn_mk (k := 0) F sc_Rest_class_name rfl rfl (F.binds (ps := ["self"]) fun _ _ _ _ _ _ us hl => match us, hl with | [_], _ => rfl) (fun cdv A outer s H E hr ok => ?_)) sim_Rest_class_name
  have nd := sc_Rest_class_name.nd
  have tk := z.c.tabOk w
  have hu := hr.un
  unfold b_Rest_class_name
  exact (sss_one (ss_ret se_str))
/-! Other.class_name -/
abbrev s_Other_class_name : Stmt := inClass (top 23) 0
def b_Other_class_name : AS := (sRet (eC (.str "other")))
def F_Other_class_name : AF := fnA 1 1 b_Other_class_name
abbrev M_Other_class_name : AF := F_Other_class_name
theorem sim_Other_class_name : SimQ F_Other_class_name M_Other_class_name := SimQ.rfl'
theorem sc_Other_class_name : FnScope ["self"] ["self"] (defScope s_Other_class_name) := ⟨rfl, rfl, rfl, by decide +kernel, rfl, by decide +kernel, by decide +kernel⟩
set_option maxHeartbeats 40000000 in
theorem ok_Other_class_name {P : Program} {w : World} {K : Frg} {mg : Str → Option Value} {base : Heap} {h : Heap} (z : Zz K mg h) : Fn P w K mg base (CT K w) 1 (He.fAd K ("Other", some "class_name")) 1 M_Other_class_name := by
  obtain ⟨fd, F⟩ := z.c.def_ 11 (at_ := ("Other", some "class_name")) (name := "class_name") (qual := "Other.class_name") (st := s_Other_class_name)
  refine Fn.simQ (fn_mk (k := 0) F sc_Other_class_name rfl rfl (F.binds (ps := ["self"]) fun _ _ _ _ _ _ us hl => match us, hl with | [_], _ => rfl) (fun cdv A outer s H E hr ok => ?_)) sim_Other_class_name
  have nd := sc_Other_class_name.nd
  have tk := z.c.tabOk w
  have hu := hr.un
  unfold b_Other_class_name
  exact (sss_one (ss_ret se_str))
/-! Lead.class_name -/
abbrev s_Lead_class_name : Stmt := inClass (top 24) 0
def b_Lead_class_name : AS := (sRet (eC (.str "lead")))
def F_Lead_class_name : AF := fnA 1 1 b_Lead_class_name
abbrev M_Lead_class_name : AF := F_Lead_class_name
theorem sim_Lead_class_name : SimQ F_Lead_class_name M_Lead_class_name := SimQ.rfl'
theorem sc_Lead_class_name : FnScope ["self"] ["self"] (defScope s_Lead_class_name) := ⟨rfl, rfl, rfl, by decide +kernel, rfl, by decide +kernel, by decide +kernel⟩
set_option maxHeartbeats 40000000 in
theorem ok_Lead_class_name {P : Program} {w : World} {K : Frg} {mg : Str → Option Value} {base : Heap} {h : Heap} (z : Zz K mg h) : Fn P w K mg base (CT K w) 1 (He.fAd K ("Lead", some "class_name")) 1 M_Lead_class_name := by
  obtain ⟨fd, F⟩ := z.c.def_ 12 (at_ := ("Lead", some "class_name")) (name := "class_name") (qual := "Lead.class_name") (st := s_Lead_class_name)
  refine Fn.simQ (fn_mk (k := 0) F sc_Lead_class_name rfl rfl (F.binds (ps := ["self"]) fun _ _ _ _ _ _ us hl => match us, hl with | [_], _ => rfl) (fun cdv A outer s H E hr ok => ?_)) sim_Lead_class_name
  have nd := sc_Lead_class_name.nd
  have tk := z.c.tabOk w
  have hu := hr.un
  unfold b_Lead_class_name
  exact (sss_one (ss_ret se_str))
/-! Stop.class_name -/
abbrev s_Stop_class_name : Stmt := inClass (top 25) 1
def b_Stop_class_name : AS := (sRet (eC (.str "stop")))
def F_Stop_class_name : AF := fnA 1 1 b_Stop_class_name
abbrev M_Stop_class_name : AF := F_Stop_class_name
theorem sim_Stop_class_name : SimQ F_Stop_class_name M_Stop_class_name := SimQ.rfl'
theorem sc_Stop_class_name : FnScope ["self"] ["self"] (defScope s_Stop_class_name) := ⟨rfl, rfl, rfl, by decide +kernel, rfl, by decide +kernel, by decide +kernel⟩
set_option maxHeartbeats 40000000 in
theorem ok_Stop_class_name {P : Program} {w : World} {K : Frg} {mg : Str → Option Value} {base : Heap} {h : Heap} (z : Zz K mg h) : Fn P w K mg base (CT K w) 1 (He.fAd K ("Stop", some "class_name")) 1 M_Stop_class_name := by
  obtain ⟨fd, F⟩ := z.c.def_ 13 (at_ := ("Stop", some "class_name")) (name := "class_name") (qual := "Stop.class_name") (st := s_Stop_class_name)
  refine Fn.simQ (fn_mk (k := 0) F sc_Stop_class_name rfl rfl (F.binds (ps := ["self"]) fun _ _ _ _ _ _ us hl => match us, hl with | [_], _ => rfl) (fun cdv A outer s H E hr ok => ?_)) sim_Stop_class_name
  have nd := sc_Stop_class_name.nd
  have tk := z.c.tabOk w
  have hu := hr.un
  unfold b_Stop_class_name
  exact (sss_one (ss_ret se_str))
/-! Table.class_name -/
abbrev s_Table_class_name : Stmt := inClass (top 29) 1
def b_Table_class_name : AS := (sRet (eC (.str "table")))
def F_Table_class_name : AF := fnA 1 1 b_Table_class_name
abbrev M_Table_class_name : AF := F_Table_class_name
theorem sim_Table_class_name : SimQ F_Table_class_name M_Table_class_name := SimQ.rfl'
theorem sc_Table_class_name : FnScope ["self"] ["self"] (defScope s_Table_class_name) := ⟨rfl, rfl, rfl, by decide +kernel, rfl, by decide +kernel, by decide +kernel⟩
set_option maxHeartbeats 40000000 in
theorem ok_Table_class_name {P : Program} {w : World} {K : Frg} {mg : Str → Option Value} {base : Heap} {h : Heap} (z : Zz K mg h) : Fn P w K mg base (CT K w) 1 (He.fAd K ("Table", some "class_name")) 1 M_Table_class_name := by
  obtain ⟨fd, F⟩ := z.c.def_ 14 (at_ := ("Table", some "class_name")) (name := "class_name") (qual := "Table.class_name") (st := s_Table_class_name)
  refine Fn.simQ (fn_mk (k := 0) F sc_Table_class_name rfl rfl (F.binds (ps := ["self"]) fun _ _ _ _ _ _ us hl => match us, hl with | [_], _ => rfl) (fun cdv A outer s H E hr ok => ?_)) sim_Table_class_name
  have nd := sc_Table_class_name.nd
  have tk := z.c.tabOk w
  have hu := hr.un
  unfold b_Table_class_name
  exact (sss_one (ss_ret se_str))
def mt_facts : Nat → Option AF := fun c => lookN c [(4, M_Fact_facts), (5, M_Valued_facts), (6, M_Turned_facts), (7, M_Valued_facts), (8, M_Valued_facts), (9, M_Turned_facts), (10, M_Turned_facts), (11, M_Stop_facts), (12, M_Table_facts)]
theorem mo_facts {X : Cx} {h : Heap} (z : Zz X.K X.mg h) : MethOk X (CT X.K X.w) 1 "facts" mt_facts := by
  intro c F e
  have q := lookN_mem e
  simp only [List.mem_cons, List.not_mem_nil, or_false, Prod.mk.injEq] at q
  rcases q with ⟨rfl, rfl⟩ | ⟨rfl, rfl⟩ | ⟨rfl, rfl⟩ | ⟨rfl, rfl⟩ | ⟨rfl, rfl⟩ | ⟨rfl, rfl⟩ | ⟨rfl, rfl⟩ | ⟨rfl, rfl⟩ | ⟨rfl, rfl⟩
  · exact ⟨((z.c.tabOk X.w).cls 4 (by decide)).cl, _, _, z.c.meth (k := 4) (m := "facts") (y := "Fact") (by decide), (ok_Fact_facts z).mono (by decide)⟩
  · exact ⟨((z.c.tabOk X.w).cls 5 (by decide)).cl, _, _, z.c.meth (k := 5) (m := "facts") (y := "Valued") (by decide), (ok_Valued_facts z).mono (by decide)⟩
  · exact ⟨((z.c.tabOk X.w).cls 6 (by decide)).cl, _, _, z.c.meth (k := 6) (m := "facts") (y := "Turned") (by decide), (ok_Turned_facts z).mono (by decide)⟩
  · exact ⟨((z.c.tabOk X.w).cls 7 (by decide)).cl, _, _, z.c.meth (k := 7) (m := "facts") (y := "Valued") (by decide), (ok_Valued_facts z).mono (by decide)⟩
  · exact ⟨((z.c.tabOk X.w).cls 8 (by decide)).cl, _, _, z.c.meth (k := 8) (m := "facts") (y := "Valued") (by decide), (ok_Valued_facts z).mono (by decide)⟩
  · exact ⟨((z.c.tabOk X.w).cls 9 (by decide)).cl, _, _, z.c.meth (k := 9) (m := "facts") (y := "Turned") (by decide), (ok_Turned_facts z).mono (by decide)⟩
  · exact ⟨((z.c.tabOk X.w).cls 10 (by decide)).cl, _, _, z.c.meth (k := 10) (m := "facts") (y := "Turned") (by decide), (ok_Turned_facts z).mono (by decide)⟩
  · exact ⟨((z.c.tabOk X.w).cls 11 (by decide)).cl, _, _, z.c.meth (k := 11) (m := "facts") (y := "Stop") (by decide), (ok_Stop_facts z).mono (by decide)⟩
  · exact ⟨((z.c.tabOk X.w).cls 12 (by decide)).cl, _, _, z.c.meth (k := 12) (m := "facts") (y := "Table") (by decide), (ok_Table_facts z).mono (by decide)⟩
def mt_class_name : Nat → Option AF := fun c => lookN c [(4, M_Fact_class_name), (5, M_Fact_class_name), (6, M_Fact_class_name), (7, M_Thing_class_name), (8, M_Rest_class_name), (9, M_Other_class_name), (10, M_Lead_class_name), (11, M_Stop_class_name), (12, M_Table_class_name)]
theorem mo_class_name {X : Cx} {h : Heap} (z : Zz X.K X.mg h) : MethOk X (CT X.K X.w) 1 "class_name" mt_class_name := by
  intro c F e
  have q := lookN_mem e
  simp only [List.mem_cons, List.not_mem_nil, or_false, Prod.mk.injEq] at q
  rcases q with ⟨rfl, rfl⟩ | ⟨rfl, rfl⟩ | ⟨rfl, rfl⟩ | ⟨rfl, rfl⟩ | ⟨rfl, rfl⟩ | ⟨rfl, rfl⟩ | ⟨rfl, rfl⟩ | ⟨rfl, rfl⟩ | ⟨rfl, rfl⟩
  · exact ⟨((z.c.tabOk X.w).cls 4 (by decide)).cl, _, _, z.c.meth (k := 4) (m := "class_name") (y := "Fact") (by decide), (ok_Fact_class_name z).mono (by decide)⟩
  · exact ⟨((z.c.tabOk X.w).cls 5 (by decide)).cl, _, _, z.c.meth (k := 5) (m := "class_name") (y := "Fact") (by decide), (ok_Fact_class_name z).mono (by decide)⟩
  · exact ⟨((z.c.tabOk X.w).cls 6 (by decide)).cl, _, _, z.c.meth (k := 6) (m := "class_name") (y := "Fact") (by decide), (ok_Fact_class_name z).mono (by decide)⟩
  · exact ⟨((z.c.tabOk X.w).cls 7 (by decide)).cl, _, _, z.c.meth (k := 7) (m := "class_name") (y := "Thing") (by decide), (ok_Thing_class_name z).mono (by decide)⟩
  · exact ⟨((z.c.tabOk X.w).cls 8 (by decide)).cl, _, _, z.c.meth (k := 8) (m := "class_name") (y := "Rest") (by decide), (ok_Rest_class_name z).mono (by decide)⟩
  · exact ⟨((z.c.tabOk X.w).cls 9 (by decide)).cl, _, _, z.c.meth (k := 9) (m := "class_name") (y := "Other") (by decide), (ok_Other_class_name z).mono (by decide)⟩
  · exact ⟨((z.c.tabOk X.w).cls 10 (by decide)).cl, _, _, z.c.meth (k := 10) (m := "class_name") (y := "Lead") (by decide), (ok_Lead_class_name z).mono (by decide)⟩
  · exact ⟨((z.c.tabOk X.w).cls 11 (by decide)).cl, _, _, z.c.meth (k := 11) (m := "class_name") (y := "Stop") (by decide), (ok_Stop_class_name z).mono (by decide)⟩
  · exact ⟨((z.c.tabOk X.w).cls 12 (by decide)).cl, _, _, z.c.meth (k := 12) (m := "class_name") (y := "Table") (by decide), (ok_Table_class_name z).mono (by decide)⟩
/-! Fact.__eq__ -/
abbrev s_Fact_eq : Stmt := inClass (top 7) 2
def b_Fact_eq : AS := (sSeq (sIf (tOrA (tNotA (tE (eCall (isiA TT) (aCons (eVar 1) (aCons (eC (.cls 4)) aNil))))) (tE (eBin neA (eMeth "class_name" mt_class_name (eVar 0) aNil) (eMeth "class_name" mt_class_name (eVar 1) aNil)))) (sRet (eC (.bl false))) sNil)
  (sRet (eBin eqA (eMeth "facts" mt_facts (eVar 0) aNil) (eMeth "facts" mt_facts (eVar 1) aNil))))
def F_Fact_eq : AF := fnA 2 2 b_Fact_eq
abbrev M_Fact_eq : AF := F_Fact_eq
theorem sim_Fact_eq : SimQ F_Fact_eq M_Fact_eq := SimQ.rfl'
theorem sc_Fact_eq : FnScope ["self", "other"] ["self", "other"] (defScope s_Fact_eq) := ⟨rfl, rfl, rfl, by decide +kernel, rfl, by decide +kernel, by decide +kernel⟩
set_option maxHeartbeats 40000000 in
theorem ok_Fact_eq {P : Program} {w : World} {K : Frg} {mg : Str → Option Value} {base : Heap} {h : Heap} (z : Zz K mg h) : Fn P w K mg base (CT K w) 2 (He.fAd K ("Fact", some "__eq__")) 2 M_Fact_eq := by
  obtain ⟨fd, F⟩ := z.c.def_ 15 (at_ := ("Fact", some "__eq__")) (name := "__eq__") (qual := "Fact.__eq__") (st := s_Fact_eq)
  refine Fn.simQ (fn_mk (k := 1) F sc_Fact_eq rfl rfl (F.binds (ps := ["self", "other"]) fun _ _ _ _ _ _ us hl => match us, hl with | [_, _], _ => rfl) (fun cdv A outer s H E hr ok => ?_)) sim_Fact_eq
  have nd := sc_Fact_eq.nd
  have tk := z.c.tabOk w
  have hu := hr.un
  unfold b_Fact_eq
  exact (sss_cons (ss_if (SW.st (sw_or (st_not (st_val (se_callB call_isiA (cs_isi tk) (z.c.free z.X z.G 22) bt_isinstance (sa_cons (se_var 1) (sa_cons (se_cls (z.c.glo z.X z.G 26)) sa_nil))))) (sw_or1 (st_cmp (op_neD (ul hu (by decide))) os_ne (se_meth0 ok (mo_class_name z) (hr.mono (by decide)) (se_var 0)) (se_meth0 ok (mo_class_name z) (hr.mono (by decide)) (se_var 1)))))) (sss_one (ss_ret se_bl)) sss_nil)
      (sss_one (ss_ret (se_cmp (op_eqD (ul hu (by decide))) os_eq (se_meth0 ok (mo_facts z) (hr.mono (by decide)) (se_var 0)) (se_meth0 ok (mo_facts z) (hr.mono (by decide)) (se_var 1))))))
/-! Reader.answer_at -/
abbrev s_Reader_answer_at : Stmt := inClass (top 38) 18
def b_Reader_answer_at : AS := (sSeq (sIf (tE (eBin eqA (eBin ixA (eVar 1) (eC (.int 0))) (eC (.str "endless")))) (sRet (eBin ixA (eVar 1) (eC (.int 1)))) sNil)
  (sRet (eCall M_leaving_answer (aCons (eFld TT "table" (eVar 0)) (aCons (eBin ixA (eVar 1) (eC (.int 1))) aNil)))))
def F_Reader_answer_at : AF := fnA 2 2 b_Reader_answer_at
abbrev M_Reader_answer_at : AF := F_Reader_answer_at
theorem sim_Reader_answer_at : SimQ F_Reader_answer_at M_Reader_answer_at := SimQ.rfl'
theorem sc_Reader_answer_at : FnScope ["self", "place"] ["self", "place"] (defScope s_Reader_answer_at) := ⟨rfl, rfl, rfl, by decide +kernel, rfl, by decide +kernel, by decide +kernel⟩
set_option maxHeartbeats 40000000 in
theorem ok_Reader_answer_at {P : Program} {w : World} {K : Frg} {mg : Str → Option Value} {base : Heap} {h : Heap} (z : Zz K mg h) : Fn P w K mg base (CT K w) 3 (He.fAd K ("Reader", some "answer_at")) 2 M_Reader_answer_at := by
  obtain ⟨fd, F⟩ := z.c.def_ 16 (at_ := ("Reader", some "answer_at")) (name := "answer_at") (qual := "Reader.answer_at") (st := s_Reader_answer_at)
  refine Fn.simQ (fn_mk (k := 2) F sc_Reader_answer_at rfl rfl (F.binds (ps := ["self", "place"]) fun _ _ _ _ _ _ us hl => match us, hl with | [_, _], _ => rfl) (fun cdv A outer s H E hr ok => ?_)) sim_Reader_answer_at
  have nd := sc_Reader_answer_at.nd
  have tk := z.c.tabOk w
  have hu := hr.un
  unfold b_Reader_answer_at
  exact (sss_cons (ss_if (st_cmp (op_eqD (ul hu (by decide))) os_eq (se_ix (ul hu (by decide)) rfl (se_var 1) se_int) se_str) (sss_one (ss_ret (se_ix (ul hu (by decide)) rfl (se_var 1) se_int))) sss_nil)
      (sss_one (ss_ret (se_call ok (ok_leaving_answer z) (hr.mono (by decide)) (z.c.glo z.X z.G 21) (sa_cons (se_fld tk (se_var 0)) (sa_cons (se_ix (ul hu (by decide)) rfl (se_var 1) se_int) sa_nil))))))
def mt_answer_at : Nat → Option AF := fun c => lookN c [(14, M_Reader_answer_at)]
theorem mo_answer_at {X : Cx} {h : Heap} (z : Zz X.K X.mg h) : MethOk X (CT X.K X.w) 3 "answer_at" mt_answer_at := by
  intro c F e
  have q := lookN_mem e
  simp only [List.mem_cons, List.not_mem_nil, or_false, Prod.mk.injEq] at q
  rcases q with ⟨rfl, rfl⟩
  · exact ⟨((z.c.tabOk X.w).cls 14 (by decide)).cl, _, _, z.c.meth (k := 14) (m := "answer_at") (y := "Reader") (by decide), (ok_Reader_answer_at z).mono (by decide)⟩
/-! Reader.shown -/
abbrev s_Reader_shown : Stmt := inClass (top 38) 19
def b_Reader_shown : AS := (sRet (eIfA (tE (eBin eqA (eBin ixA (eVar 1) (eC (.int 0))) (eC (.str "node")))) (eVar 1) (eTup (aCons (eC (.str "all")) (aCons (eMeth "answer_at" mt_answer_at (eVar 0) (aCons (eVar 1) aNil)) aNil)))))
def F_Reader_shown : AF := fnA 2 2 b_Reader_shown
abbrev M_Reader_shown : AF := F_Reader_shown
theorem sim_Reader_shown : SimQ F_Reader_shown M_Reader_shown := SimQ.rfl'
theorem sc_Reader_shown : FnScope ["self", "place"] ["self", "place"] (defScope s_Reader_shown) := ⟨rfl, rfl, rfl, by decide +kernel, rfl, by decide +kernel, by decide +kernel⟩
set_option maxHeartbeats 40000000 in
theorem ok_Reader_shown {P : Program} {w : World} {K : Frg} {mg : Str → Option Value} {base : Heap} {h : Heap} (z : Zz K mg h) : Fn P w K mg base (CT K w) 4 (He.fAd K ("Reader", some "shown")) 2 M_Reader_shown := by
  obtain ⟨fd, F⟩ := z.c.def_ 17 (at_ := ("Reader", some "shown")) (name := "shown") (qual := "Reader.shown") (st := s_Reader_shown)
  refine Fn.simQ (fn_mk (k := 3) F sc_Reader_shown rfl rfl (F.binds (ps := ["self", "place"]) fun _ _ _ _ _ _ us hl => match us, hl with | [_, _], _ => rfl) (fun cdv A outer s H E hr ok => ?_)) sim_Reader_shown
  have nd := sc_Reader_shown.nd
  have tk := z.c.tabOk w
  have hu := hr.un
  unfold b_Reader_shown
  exact (sss_one (ss_ret (se_if (st_cmp (op_eqD (ul hu (by decide))) os_eq (se_ix (ul hu (by decide)) rfl (se_var 1) se_int) se_str) (se_var 1) (se_tup (sa_cons se_str (sa_cons (se_meth ok (mo_answer_at z) (hr.mono (by decide)) (se_var 0) (sa_cons (se_var 1) sa_nil)) sa_nil))))))
/-! Reader.endless_from -/
abbrev s_Reader_endless_from : Stmt := inClass (top 38) 11
def b_Reader_endless_from : AS := (sSeq (sSet 2 (eCall listXA (aCons (eFld TT "unread" (eVar 0)) aNil)))
  (sSeq (sSet 3 (eCall anyA (aCons (eLc (iSeq (eSl (eVar 2) (pSome (eBM "list" indexA (eVar 2) (aCons (eVar 1) aNil))) pNone)) (gN 4) tYesA (eBin (cmpI (fun i j => decide (j < i))) (eBin ixA (eFld TT "unread" (eVar 0)) (eVar 4)) (eC (.int 0))) [4]) aNil)))
  (sRet (eIfA (tE (eVar 3)) (eC (.tup [(.str "grows")])) (eC (.tup [(.str "round")]))))))
def F_Reader_endless_from : AF := fnA 2 5 b_Reader_endless_from
abbrev M_Reader_endless_from : AF := F_Reader_endless_from
theorem sim_Reader_endless_from : SimQ F_Reader_endless_from M_Reader_endless_from := SimQ.rfl'
theorem sc_Reader_endless_from : FnScope ["self", "node", "some", "is_more", "one"] ["self", "node"] (defScope s_Reader_endless_from) := ⟨rfl, rfl, rfl, by decide +kernel, rfl, by decide +kernel, by decide +kernel⟩
set_option maxHeartbeats 40000000 in
theorem ok_Reader_endless_from {P : Program} {w : World} {K : Frg} {mg : Str → Option Value} {base : Heap} {h : Heap} (z : Zz K mg h) : Fn P w K mg base (CT K w) 1 (He.fAd K ("Reader", some "endless_from")) 2 M_Reader_endless_from := by
  obtain ⟨fd, F⟩ := z.c.def_ 18 (at_ := ("Reader", some "endless_from")) (name := "endless_from") (qual := "Reader.endless_from") (st := s_Reader_endless_from)
  refine Fn.simQ (fn_mk (k := 0) F sc_Reader_endless_from rfl rfl (F.binds (ps := ["self", "node"]) fun _ _ _ _ _ _ us hl => match us, hl with | [_, _], _ => rfl) (fun cdv A outer s H E hr ok => ?_)) sim_Reader_endless_from
  have nd := sc_Reader_endless_from.nd
  have tk := z.c.tabOk w
  have hu := hr.un
  unfold b_Reader_endless_from
  exact (sss_cons (ss_set 2 (se_callTy (call_listX rfl) cs_listX (z.c.free z.X z.G 32) bt_list (sa_cons (se_fld tk (se_var 0)) sa_nil)) nd)
      (sss_cons (ss_set 3 (se_callB (cr_any rfl) cs_any (z.c.free z.X z.G 31) bt_any (sa_cons (se_lc (own := [("one", 4)]) rfl nd (si_seq (se_slice (se_var 2) (so_some (se_bm PySem.F.plainAttrs_list PySem.F.slot_list_index PySem.F.type_list_index (mt_indexD (ul hu (by decide))) ms_index (se_var 2) (sa_cons (se_var 1) sa_nil))) so_none)) (blkOk_by (by rfl)) (fun _ _ _ _ _ => (sg_name 4 nd)) (fun _ _ _ _ _ => sts_nil) (fun _ _ _ _ _ => (se_cmp op_gt os_cmpI (se_ix (ul hu (by decide)) rfl (se_fld tk (se_var 0)) (se_var 4)) se_int))) sa_nil)) nd)
      (sss_one (ss_ret (se_if (st_val (se_var 3)) (se_gtup (z.c.glo z.X z.G 27) (z.c.fact (f := .tupc "GROWS" (.tup [(.str "grows")])) 28)) (se_gtup (z.c.glo z.X z.G 29) (z.c.fact (f := .tupc "ROUND" (.tup [(.str "round")])) 30)))))))
/-! Reader.is_led -/
abbrev s_Reader_is_led : Stmt := inClass (top 38) 1
def b_Reader_is_led : AS := (sRet (eCall (isiA TT) (aCons (eMeth "way" mt_way (eFld TT "table" (eVar 0)) (aCons (eVar 1) aNil)) (aCons (eC (.cls 10)) aNil))))
def F_Reader_is_led : AF := fnA 2 2 b_Reader_is_led
abbrev M_Reader_is_led : AF := F_Reader_is_led
theorem sim_Reader_is_led : SimQ F_Reader_is_led M_Reader_is_led := SimQ.rfl'
theorem sc_Reader_is_led : FnScope ["self", "node"] ["self", "node"] (defScope s_Reader_is_led) := ⟨rfl, rfl, rfl, by decide +kernel, rfl, by decide +kernel, by decide +kernel⟩
set_option maxHeartbeats 40000000 in
theorem ok_Reader_is_led {P : Program} {w : World} {K : Frg} {mg : Str → Option Value} {base : Heap} {h : Heap} (z : Zz K mg h) : Fn P w K mg base (CT K w) 2 (He.fAd K ("Reader", some "is_led")) 2 M_Reader_is_led := by
  obtain ⟨fd, F⟩ := z.c.def_ 19 (at_ := ("Reader", some "is_led")) (name := "is_led") (qual := "Reader.is_led") (st := s_Reader_is_led)
  refine Fn.simQ (fn_mk (k := 1) F sc_Reader_is_led rfl rfl (F.binds (ps := ["self", "node"]) fun _ _ _ _ _ _ us hl => match us, hl with | [_, _], _ => rfl) (fun cdv A outer s H E hr ok => ?_)) sim_Reader_is_led
  have nd := sc_Reader_is_led.nd
  have tk := z.c.tabOk w
  have hu := hr.un
  unfold b_Reader_is_led
  exact (sss_one (ss_ret (se_callB call_isiA (cs_isi tk) (z.c.free z.X z.G 22) bt_isinstance (sa_cons (se_meth ok (mo_way z) (hr.mono (by decide)) (se_fld tk (se_var 0)) (sa_cons (se_var 1) sa_nil)) (sa_cons (se_cls (z.c.glo z.X z.G 13)) sa_nil)))))
def mt_endless_from : Nat → Option AF := fun c => lookN c [(14, M_Reader_endless_from)]
theorem mo_endless_from {X : Cx} {h : Heap} (z : Zz X.K X.mg h) : MethOk X (CT X.K X.w) 1 "endless_from" mt_endless_from := by
  intro c F e
  have q := lookN_mem e
  simp only [List.mem_cons, List.not_mem_nil, or_false, Prod.mk.injEq] at q
  rcases q with ⟨rfl, rfl⟩
  · exact ⟨((z.c.tabOk X.w).cls 14 (by decide)).cl, _, _, z.c.meth (k := 14) (m := "endless_from") (y := "Reader") (by decide), (ok_Reader_endless_from z).mono (by decide)⟩
def mt_is_led : Nat → Option AF := fun c => lookN c [(14, M_Reader_is_led)]
theorem mo_is_led {X : Cx} {h : Heap} (z : Zz X.K X.mg h) : MethOk X (CT X.K X.w) 2 "is_led" mt_is_led := by
  intro c F e
  have q := lookN_mem e
  simp only [List.mem_cons, List.not_mem_nil, or_false, Prod.mk.injEq] at q
  rcases q with ⟨rfl, rfl⟩
  · exact ⟨((z.c.tabOk X.w).cls 14 (by decide)).cl, _, _, z.c.meth (k := 14) (m := "is_led") (y := "Reader") (by decide), (ok_Reader_is_led z).mono (by decide)⟩
/-! Reader.known_place -/
abbrev s_Reader_known_place : Stmt := inClass (top 38) 4
def b_Reader_known_place : AS := (sSeq (sIf (tNotA (tE (eMeth "is_led" mt_is_led (eVar 0) (aCons (eVar 1) aNil)))) (sRet (eTup (aCons (eC (.str "node")) (aCons (eVar 1) aNil)))) sNil)
  (sRet (eIfA (tE (eBin inX (eVar 1) (eFld TT "places" (eVar 0)))) (eBin ixA (eFld TT "places" (eVar 0)) (eVar 1)) (eTup (aCons (eC (.str "endless")) (aCons (eMeth "endless_from" mt_endless_from (eVar 0) (aCons (eVar 1) aNil)) aNil))))))
def F_Reader_known_place : AF := fnA 2 2 b_Reader_known_place
abbrev M_Reader_known_place : AF := F_Reader_known_place
theorem sim_Reader_known_place : SimQ F_Reader_known_place M_Reader_known_place := SimQ.rfl'
theorem sc_Reader_known_place : FnScope ["self", "node"] ["self", "node"] (defScope s_Reader_known_place) := ⟨rfl, rfl, rfl, by decide +kernel, rfl, by decide +kernel, by decide +kernel⟩
set_option maxHeartbeats 40000000 in
theorem ok_Reader_known_place {P : Program} {w : World} {K : Frg} {mg : Str → Option Value} {base : Heap} {h : Heap} (z : Zz K mg h) : Fn P w K mg base (CT K w) 3 (He.fAd K ("Reader", some "known_place")) 2 M_Reader_known_place := by
  obtain ⟨fd, F⟩ := z.c.def_ 20 (at_ := ("Reader", some "known_place")) (name := "known_place") (qual := "Reader.known_place") (st := s_Reader_known_place)
  refine Fn.simQ (fn_mk (k := 2) F sc_Reader_known_place rfl rfl (F.binds (ps := ["self", "node"]) fun _ _ _ _ _ _ us hl => match us, hl with | [_, _], _ => rfl) (fun cdv A outer s H E hr ok => ?_)) sim_Reader_known_place
  have nd := sc_Reader_known_place.nd
  have tk := z.c.tabOk w
  have hu := hr.un
  unfold b_Reader_known_place
  exact (sss_cons (ss_if (st_not (st_val (se_meth ok (mo_is_led z) (hr.mono (by decide)) (se_var 0) (sa_cons (se_var 1) sa_nil)))) (sss_one (ss_ret (se_tup (sa_cons se_str (sa_cons (se_var 1) sa_nil))))) sss_nil)
      (sss_one (ss_ret (se_if (st_cmp (op_inX (ul hu (by decide)) rfl) os_inX (se_var 1) (se_fld tk (se_var 0))) (se_ix (ul hu (by decide)) rfl (se_fld tk (se_var 0)) (se_var 1)) (se_tup (sa_cons se_str (sa_cons (se_meth ok (mo_endless_from z) (hr.mono (by decide)) (se_var 0) (sa_cons (se_var 1) sa_nil)) sa_nil)))))))
/-! Reader.is_new -/
abbrev s_Reader_is_new : Stmt := inClass (top 38) 3
def b_Reader_is_new : AS := (sRet (eAndA (eMeth "is_led" mt_is_led (eVar 0) (aCons (eVar 1) aNil)) (eAndA (eBin notInX (eVar 1) (eFld TT "places" (eVar 0))) (eBin notInX (eVar 1) (eFld TT "unread" (eVar 0))))))
def F_Reader_is_new : AF := fnA 2 2 b_Reader_is_new
abbrev M_Reader_is_new : AF := F_Reader_is_new
theorem sim_Reader_is_new : SimQ F_Reader_is_new M_Reader_is_new := SimQ.rfl'
theorem sc_Reader_is_new : FnScope ["self", "node"] ["self", "node"] (defScope s_Reader_is_new) := ⟨rfl, rfl, rfl, by decide +kernel, rfl, by decide +kernel, by decide +kernel⟩
set_option maxHeartbeats 40000000 in
theorem ok_Reader_is_new {P : Program} {w : World} {K : Frg} {mg : Str → Option Value} {base : Heap} {h : Heap} (z : Zz K mg h) : Fn P w K mg base (CT K w) 3 (He.fAd K ("Reader", some "is_new")) 2 M_Reader_is_new := by
  obtain ⟨fd, F⟩ := z.c.def_ 21 (at_ := ("Reader", some "is_new")) (name := "is_new") (qual := "Reader.is_new") (st := s_Reader_is_new)
  refine Fn.simQ (fn_mk (k := 2) F sc_Reader_is_new rfl rfl (F.binds (ps := ["self", "node"]) fun _ _ _ _ _ _ us hl => match us, hl with | [_, _], _ => rfl) (fun cdv A outer s H E hr ok => ?_)) sim_Reader_is_new
  have nd := sc_Reader_is_new.nd
  have tk := z.c.tabOk w
  have hu := hr.un
  unfold b_Reader_is_new
  exact (sss_one (ss_ret (se_and (se_meth ok (mo_is_led z) (hr.mono (by decide)) (se_var 0) (sa_cons (se_var 1) sa_nil)) (se_and (se_cmp (op_notInX (ul hu (by decide)) rfl) os_notInX (se_var 1) (se_fld tk (se_var 0))) (se_one (se_cmp (op_notInX (ul hu (by decide)) rfl) os_notInX (se_var 1) (se_fld tk (se_var 0))))))))
/-! Reader.come -/
abbrev s_Reader_come : Stmt := inClass (top 38) 8
def b_Reader_come : AS := (sSeq (sFldA TT "here" (eVar 1) (eVar 2))
  (sIf (tE (eMeth "is_led" mt_is_led (eVar 0) (aCons (eVar 2) aNil))) (sDrop (eBM "list" appendA (eFld TT "calls" (eVar 1)) (aCons (eVar 2) aNil))) sNil))
def F_Reader_come : AF := fnA 3 3 b_Reader_come
abbrev M_Reader_come : AF := F_Reader_come
theorem sim_Reader_come : SimQ F_Reader_come M_Reader_come := SimQ.rfl'
theorem sc_Reader_come : FnScope ["self", "way", "node"] ["self", "way", "node"] (defScope s_Reader_come) := ⟨rfl, rfl, rfl, by decide +kernel, rfl, by decide +kernel, by decide +kernel⟩
set_option maxHeartbeats 40000000 in
theorem ok_Reader_come {P : Program} {w : World} {K : Frg} {mg : Str → Option Value} {base : Heap} {h : Heap} (z : Zz K mg h) : Fn P w K mg base (CT K w) 3 (He.fAd K ("Reader", some "come")) 3 M_Reader_come := by
  obtain ⟨fd, F⟩ := z.c.def_ 22 (at_ := ("Reader", some "come")) (name := "come") (qual := "Reader.come") (st := s_Reader_come)
  refine Fn.simQ (fn_mk (k := 2) F sc_Reader_come rfl rfl (F.binds (ps := ["self", "way", "node"]) fun _ _ _ _ _ _ us hl => match us, hl with | [_, _, _], _ => rfl) (fun cdv A outer s H E hr ok => ?_)) sim_Reader_come
  have nd := sc_Reader_come.nd
  have tk := z.c.tabOk w
  have hu := hr.un
  unfold b_Reader_come
  exact (sss_cons (ss_fld tk (se_var 1) (se_var 2))
      (sss_one (ss_if (st_val (se_meth ok (mo_is_led z) (hr.mono (by decide)) (se_var 0) (sa_cons (se_var 2) sa_nil))) (sss_one (ss_expr (se_bm PySem.F.plainAttrs_list PySem.F.slot_list_append PySem.F.type_list_append mt_append ms_append (se_fld tk (se_var 1)) (sa_cons (se_var 2) sa_nil)))) sss_nil)))
/-! Way.__init__ -/
abbrev s_Way_init : Stmt := inClass (top 37) 0
def b_Way_init : AS := (sSeq (sFldA TT "node" (eVar 0) (eVar 1))
  (sSeq (sFldA TT "target" (eVar 0) (eVar 2))
  (sSeq (sFldA TT "gone" (eVar 0) (eC (.int 0)))
  (sSeq (sFldA TT "here" (eVar 0) (eTup aNil))
  (sSeq (sFldA TT "calls" (eVar 0) (eLst aNil))
  (sFldA TT "place" (eVar 0) (eC .non)))))))
def F_Way_init : AF := fnA 3 3 b_Way_init
abbrev M_Way_init : AF := F_Way_init
theorem sim_Way_init : SimQ F_Way_init M_Way_init := SimQ.rfl'
theorem sc_Way_init : FnScope ["self", "node", "target"] ["self", "node", "target"] (defScope s_Way_init) := ⟨rfl, rfl, rfl, by decide +kernel, rfl, by decide +kernel, by decide +kernel⟩
set_option maxHeartbeats 40000000 in
theorem ok_Way_init {P : Program} {w : World} {K : Frg} {mg : Str → Option Value} {base : Heap} {h : Heap} (z : Zz K mg h) : Fn P w K mg base (CT K w) 1 (He.fAd K ("Way", some "__init__")) 3 M_Way_init := by
  obtain ⟨fd, F⟩ := z.c.def_ 23 (at_ := ("Way", some "__init__")) (name := "__init__") (qual := "Way.__init__") (st := s_Way_init)
  refine Fn.simQ (fn_mk (k := 0) F sc_Way_init rfl rfl (F.binds (ps := ["self", "node", "target"]) fun _ _ _ _ _ _ us hl => match us, hl with | [_, _, _], _ => rfl) (fun cdv A outer s H E hr ok => ?_)) sim_Way_init
  have nd := sc_Way_init.nd
  have tk := z.c.tabOk w
  have hu := hr.un
  unfold b_Way_init
  exact (sss_cons (ss_fld tk (se_var 0) (se_var 1))
      (sss_cons (ss_fld tk (se_var 0) (se_var 2))
      (sss_cons (ss_fld tk (se_var 0) se_int)
      (sss_cons (ss_fld tk (se_var 0) (se_tup sa_nil))
      (sss_cons (ss_fld tk (se_var 0) (se_lst sa_nil))
      (sss_one (ss_fld tk (se_var 0) se_non)))))))
theorem mk_Way {K : Frg} {mg : Str → Option Value} {h : Heap} (z : Zz K mg h) : Mk K (He.ga K "Way") (He.ma K (He.ga K "Way") "__init__") := by
  have e : He.ma K (He.ga K "Way") "__init__" = He.ma K (He.ga K "Way") "__init__" := of_decide_eq_true (z.c.fact (f := .same "Way" "__init__" "Way" "__init__") 85)
  have m : Mk K (He.ga K "Way") (He.ma K (He.ga K "Way") "__init__") := He.mkr_ok (z.c.fact (f := .fa (.mkr "Way")) 34)
  rw [e] at m
  exact m
def F_Way : AF := mkA 13 false M_Way_init
abbrev M_Way : AF := F_Way
theorem sim_Way : SimQ (mkA 13 false M_Way_init) M_Way := SimQ.rfl'
def mt_come : Nat → Option AF := fun c => lookN c [(14, M_Reader_come)]
theorem mo_come {X : Cx} {h : Heap} (z : Zz X.K X.mg h) : MethOk X (CT X.K X.w) 3 "come" mt_come := by
  intro c F e
  have q := lookN_mem e
  simp only [List.mem_cons, List.not_mem_nil, or_false, Prod.mk.injEq] at q
  rcases q with ⟨rfl, rfl⟩
  · exact ⟨((z.c.tabOk X.w).cls 14 (by decide)).cl, _, _, z.c.meth (k := 14) (m := "come") (y := "Reader") (by decide), (ok_Reader_come z).mono (by decide)⟩
/-! Reader.begun -/
abbrev s_Reader_begun : Stmt := inClass (top 38) 7
def b_Reader_begun : AS := (sSeq (sSet 2 (eCall M_Way (aCons (eVar 1) (aCons (eFld TT "target" (eMeth "way" mt_way (eFld TT "table" (eVar 0)) (aCons (eVar 1) aNil))) aNil))))
  (sSeq (sSub (eFld TT "unread" (eVar 0)) (eVar 1) (eCall lenA (aCons (eFld TT "target" (eVar 2)) aNil)))
  (sSeq (sDrop (eMeth "come" mt_come (eVar 0) (aCons (eVar 2) (aCons (eTup aNil) aNil))))
  (sRet (eVar 2)))))
def F_Reader_begun : AF := fnA 2 3 b_Reader_begun
abbrev M_Reader_begun : AF := F_Reader_begun
theorem sim_Reader_begun : SimQ F_Reader_begun M_Reader_begun := SimQ.rfl'
theorem sc_Reader_begun : FnScope ["self", "node", "way"] ["self", "node"] (defScope s_Reader_begun) := ⟨rfl, rfl, rfl, by decide +kernel, rfl, by decide +kernel, by decide +kernel⟩
set_option maxHeartbeats 40000000 in
theorem ok_Reader_begun {P : Program} {w : World} {K : Frg} {mg : Str → Option Value} {base : Heap} {h : Heap} (z : Zz K mg h) : Fn P w K mg base (CT K w) 4 (He.fAd K ("Reader", some "begun")) 2 M_Reader_begun := by
  obtain ⟨fd, F⟩ := z.c.def_ 24 (at_ := ("Reader", some "begun")) (name := "begun") (qual := "Reader.begun") (st := s_Reader_begun)
  refine Fn.simQ (fn_mk (k := 3) F sc_Reader_begun rfl rfl (F.binds (ps := ["self", "node"]) fun _ _ _ _ _ _ us hl => match us, hl with | [_, _], _ => rfl) (fun cdv A outer s H E hr ok => ?_)) sim_Reader_begun
  have nd := sc_Reader_begun.nd
  have tk := z.c.tabOk w
  have hu := hr.un
  unfold b_Reader_begun
  exact (sss_cons (ss_set 2 (se_make (c := 13) ok (mk_Way z) (ok_Way_init z) sim_Way (hr.mono (by decide)) (z.c.glo z.X z.G 35) (sa_cons (se_var 1) (sa_cons (se_fld tk (se_meth ok (mo_way z) (hr.mono (by decide)) (se_fld tk (se_var 0)) (sa_cons (se_var 1) sa_nil))) sa_nil))) nd)
      (sss_cons (ss_sub (ul hu (by decide)) rfl (se_fld tk (se_var 0)) (se_var 1) (se_callB call_lenA cs_len (z.c.free z.X z.G 33) bt_len (sa_cons (se_fld tk (se_var 2)) sa_nil)))
      (sss_cons (ss_expr (se_meth ok (mo_come z) (hr.mono (by decide)) (se_var 0) (sa_cons (se_var 2) (sa_cons (se_tup sa_nil) sa_nil))))
      (sss_one (ss_ret (se_var 2))))))
/-! Table.has_node -/
abbrev s_Table_has_node : Stmt := inClass (top 29) 6
def b_Table_has_node : AS := (sRet (eBin inX (eVar 1) (eFld TT "below" (eVar 0))))
def F_Table_has_node : AF := fnA 2 2 b_Table_has_node
abbrev M_Table_has_node : AF := F_Table_has_node
theorem sim_Table_has_node : SimQ F_Table_has_node M_Table_has_node := SimQ.rfl'
theorem sc_Table_has_node : FnScope ["self", "name"] ["self", "name"] (defScope s_Table_has_node) := ⟨rfl, rfl, rfl, by decide +kernel, rfl, by decide +kernel, by decide +kernel⟩
set_option maxHeartbeats 40000000 in
theorem ok_Table_has_node {P : Program} {w : World} {K : Frg} {mg : Str → Option Value} {base : Heap} {h : Heap} (z : Zz K mg h) : Fn P w K mg base (CT K w) 1 (He.fAd K ("Table", some "has_node")) 2 M_Table_has_node := by
  obtain ⟨fd, F⟩ := z.c.def_ 25 (at_ := ("Table", some "has_node")) (name := "has_node") (qual := "Table.has_node") (st := s_Table_has_node)
  refine Fn.simQ (fn_mk (k := 0) F sc_Table_has_node rfl rfl (F.binds (ps := ["self", "name"]) fun _ _ _ _ _ _ us hl => match us, hl with | [_, _], _ => rfl) (fun cdv A outer s H E hr ok => ?_)) sim_Table_has_node
  have nd := sc_Table_has_node.nd
  have tk := z.c.tabOk w
  have hu := hr.un
  unfold b_Table_has_node
  exact (sss_one (ss_ret (se_cmp (op_inX (ul hu (by decide)) rfl) os_inX (se_var 1) (se_fld tk (se_var 0)))))
def mt_has_node : Nat → Option AF := fun c => lookN c [(12, M_Table_has_node)]
theorem mo_has_node {X : Cx} {h : Heap} (z : Zz X.K X.mg h) : MethOk X (CT X.K X.w) 1 "has_node" mt_has_node := by
  intro c F e
  have q := lookN_mem e
  simp only [List.mem_cons, List.not_mem_nil, or_false, Prod.mk.injEq] at q
  rcases q with ⟨rfl, rfl⟩
  · exact ⟨((z.c.tabOk X.w).cls 12 (by decide)).cl, _, _, z.c.meth (k := 12) (m := "has_node") (y := "Table") (by decide), (ok_Table_has_node z).mono (by decide)⟩
/-! Reader.child_of -/
abbrev s_Reader_child_of : Stmt := inClass (top 38) 2
def b_Reader_child_of : AS := (sSeq (sSet 3 (eBin addA (eVar 1) (eTup (aCons (eVar 2) aNil))))
  (sRet (eIfA (tE (eMeth "has_node" mt_has_node (eFld TT "table" (eVar 0)) (aCons (eVar 3) aNil))) (eTup (aCons (eC (.str "node")) (aCons (eVar 3) aNil))) (eTup (aCons (eC (.str "out")) (aCons (eVar 1) aNil))))))
def F_Reader_child_of : AF := fnA 3 4 b_Reader_child_of
abbrev M_Reader_child_of : AF := F_Reader_child_of
theorem sim_Reader_child_of : SimQ F_Reader_child_of M_Reader_child_of := SimQ.rfl'
theorem sc_Reader_child_of : FnScope ["self", "node", "label", "child"] ["self", "node", "label"] (defScope s_Reader_child_of) := ⟨rfl, rfl, rfl, by decide +kernel, rfl, by decide +kernel, by decide +kernel⟩
set_option maxHeartbeats 40000000 in
theorem ok_Reader_child_of {P : Program} {w : World} {K : Frg} {mg : Str → Option Value} {base : Heap} {h : Heap} (z : Zz K mg h) : Fn P w K mg base (CT K w) 2 (He.fAd K ("Reader", some "child_of")) 3 M_Reader_child_of := by
  obtain ⟨fd, F⟩ := z.c.def_ 26 (at_ := ("Reader", some "child_of")) (name := "child_of") (qual := "Reader.child_of") (st := s_Reader_child_of)
  refine Fn.simQ (fn_mk (k := 1) F sc_Reader_child_of rfl rfl (F.binds (ps := ["self", "node", "label"]) fun _ _ _ _ _ _ us hl => match us, hl with | [_, _, _], _ => rfl) (fun cdv A outer s H E hr ok => ?_)) sim_Reader_child_of
  have nd := sc_Reader_child_of.nd
  have tk := z.c.tabOk w
  have hu := hr.un
  unfold b_Reader_child_of
  exact (sss_cons (ss_set 3 (se_bin op_addA os_add (se_var 1) (se_tup (sa_cons (se_var 2) sa_nil))) nd)
      (sss_one (ss_ret (se_if (st_val (se_meth ok (mo_has_node z) (hr.mono (by decide)) (se_fld tk (se_var 0)) (sa_cons (se_var 3) sa_nil))) (se_tup (sa_cons se_str (sa_cons (se_var 3) sa_nil))) (se_tup (sa_cons se_str (sa_cons (se_var 1) sa_nil)))))))
def mt_known_place : Nat → Option AF := fun c => lookN c [(14, M_Reader_known_place)]
theorem mo_known_place {X : Cx} {h : Heap} (z : Zz X.K X.mg h) : MethOk X (CT X.K X.w) 3 "known_place" mt_known_place := by
  intro c F e
  have q := lookN_mem e
  simp only [List.mem_cons, List.not_mem_nil, or_false, Prod.mk.injEq] at q
  rcases q with ⟨rfl, rfl⟩
  · exact ⟨((z.c.tabOk X.w).cls 14 (by decide)).cl, _, _, z.c.meth (k := 14) (m := "known_place") (y := "Reader") (by decide), (ok_Reader_known_place z).mono (by decide)⟩
def mt_is_new : Nat → Option AF := fun c => lookN c [(14, M_Reader_is_new)]
theorem mo_is_new {X : Cx} {h : Heap} (z : Zz X.K X.mg h) : MethOk X (CT X.K X.w) 3 "is_new" mt_is_new := by
  intro c F e
  have q := lookN_mem e
  simp only [List.mem_cons, List.not_mem_nil, or_false, Prod.mk.injEq] at q
  rcases q with ⟨rfl, rfl⟩
  · exact ⟨((z.c.tabOk X.w).cls 14 (by decide)).cl, _, _, z.c.meth (k := 14) (m := "is_new") (y := "Reader") (by decide), (ok_Reader_is_new z).mono (by decide)⟩
def mt_child_of : Nat → Option AF := fun c => lookN c [(14, M_Reader_child_of)]
theorem mo_child_of {X : Cx} {h : Heap} (z : Zz X.K X.mg h) : MethOk X (CT X.K X.w) 2 "child_of" mt_child_of := by
  intro c F e
  have q := lookN_mem e
  simp only [List.mem_cons, List.not_mem_nil, or_false, Prod.mk.injEq] at q
  rcases q with ⟨rfl, rfl⟩
  · exact ⟨((z.c.tabOk X.w).cls 14 (by decide)).cl, _, _, z.c.meth (k := 14) (m := "child_of") (y := "Reader") (by decide), (ok_Reader_child_of z).mono (by decide)⟩
/-! Reader.goes_through -/
abbrev s_Reader_goes_through : Stmt := inClass (top 38) 9
def b_Reader_goes_through : AS := (sSeq (sSet 2 (eMeth "known_place" mt_known_place (eVar 0) (aCons (eFld TT "here" (eVar 1)) aNil)))
  (sSeq (sWhile (tAndA (tE (eBin eqA (eBin ixA (eVar 2) (eC (.int 0))) (eC (.str "node")))) (tE (eBin (cmpI (fun i j => decide (i < j))) (eFld TT "gone" (eVar 1)) (eCall lenA (aCons (eFld TT "target" (eVar 1)) aNil))))) (sSeq (sSet 2 (eMeth "child_of" mt_child_of (eVar 0) (aCons (eBin ixA (eVar 2) (eC (.int 1))) (aCons (eBin ixA (eFld TT "target" (eVar 1)) (eFld TT "gone" (eVar 1))) aNil))))
  (sSeq (sFldAugA TT "gone" (fun i j => i + j) (eVar 1) (eC (.int 1)))
  (sIf (tE (eBin eqA (eBin ixA (eVar 2) (eC (.int 0))) (eC (.str "node")))) (sSeq (sSub (eFld TT "unread" (eVar 0)) (eFld TT "node" (eVar 1)) (eBin subA (eCall lenA (aCons (eFld TT "target" (eVar 1)) aNil)) (eFld TT "gone" (eVar 1))))
  (sSeq (sDrop (eMeth "come" mt_come (eVar 0) (aCons (eVar 1) (aCons (eBin ixA (eVar 2) (eC (.int 1))) aNil))))
  (sSeq (sIf (tE (eMeth "is_new" mt_is_new (eVar 0) (aCons (eFld TT "here" (eVar 1)) aNil))) (sRet (eC (.bl false))) sNil)
  (sSet 2 (eMeth "known_place" mt_known_place (eVar 0) (aCons (eFld TT "here" (eVar 1)) aNil)))))) sNil))))
  (sSeq (sFldA TT "place" (eVar 1) (eVar 2))
  (sRet (eC (.bl true))))))
def F_Reader_goes_through : AF := fnA 2 3 b_Reader_goes_through
abbrev M_Reader_goes_through : AF := F_Reader_goes_through
theorem sim_Reader_goes_through : SimQ F_Reader_goes_through M_Reader_goes_through := SimQ.rfl'
theorem sc_Reader_goes_through : FnScope ["self", "way", "place"] ["self", "way"] (defScope s_Reader_goes_through) := ⟨rfl, rfl, rfl, by decide +kernel, rfl, by decide +kernel, by decide +kernel⟩
set_option maxHeartbeats 40000000 in
theorem ok_Reader_goes_through {P : Program} {w : World} {K : Frg} {mg : Str → Option Value} {base : Heap} {h : Heap} (z : Zz K mg h) : Fn P w K mg base (CT K w) 4 (He.fAd K ("Reader", some "goes_through")) 2 M_Reader_goes_through := by
  obtain ⟨fd, F⟩ := z.c.def_ 27 (at_ := ("Reader", some "goes_through")) (name := "goes_through") (qual := "Reader.goes_through") (st := s_Reader_goes_through)
  refine Fn.simQ (fn_mk (k := 3) F sc_Reader_goes_through rfl rfl (F.binds (ps := ["self", "way"]) fun _ _ _ _ _ _ us hl => match us, hl with | [_, _], _ => rfl) (fun cdv A outer s H E hr ok => ?_)) sim_Reader_goes_through
  have nd := sc_Reader_goes_through.nd
  have tk := z.c.tabOk w
  have hu := hr.un
  unfold b_Reader_goes_through
  exact (sss_cons (ss_set 2 (se_meth ok (mo_known_place z) (hr.mono (by decide)) (se_var 0) (sa_cons (se_fld tk (se_var 1)) sa_nil)) nd)
      (sss_cons (ss_while ok (SW.st (sw_and (st_cmp (op_eqD (ul hu (by decide))) os_eq (se_ix (ul hu (by decide)) rfl (se_var 2) se_int) se_str) (sw_and1 (st_cmp op_lt os_cmpI (se_fld tk (se_var 1)) (se_callB call_lenA cs_len (z.c.free z.X z.G 33) bt_len (sa_cons (se_fld tk (se_var 1)) sa_nil)))))) (sss_cons (ss_set 2 (se_meth ok (mo_child_of z) (hr.mono (by decide)) (se_var 0) (sa_cons (se_ix (ul hu (by decide)) rfl (se_var 2) se_int) (sa_cons (se_ix (ul hu (by decide)) rfl (se_fld tk (se_var 1)) (se_fld tk (se_var 1))) sa_nil))) nd)
      (sss_cons (ss_fldaug tk in_addI (se_var 1) se_int)
      (sss_one (ss_if (st_cmp (op_eqD (ul hu (by decide))) os_eq (se_ix (ul hu (by decide)) rfl (se_var 2) se_int) se_str) (sss_cons (ss_sub (ul hu (by decide)) rfl (se_fld tk (se_var 0)) (se_fld tk (se_var 1)) (se_bin op_sub os_sub (se_callB call_lenA cs_len (z.c.free z.X z.G 33) bt_len (sa_cons (se_fld tk (se_var 1)) sa_nil)) (se_fld tk (se_var 1))))
      (sss_cons (ss_expr (se_meth ok (mo_come z) (hr.mono (by decide)) (se_var 0) (sa_cons (se_var 1) (sa_cons (se_ix (ul hu (by decide)) rfl (se_var 2) se_int) sa_nil))))
      (sss_cons (ss_if (st_val (se_meth ok (mo_is_new z) (hr.mono (by decide)) (se_var 0) (sa_cons (se_fld tk (se_var 1)) sa_nil))) (sss_one (ss_ret se_bl)) sss_nil)
      (sss_one (ss_set 2 (se_meth ok (mo_known_place z) (hr.mono (by decide)) (se_var 0) (sa_cons (se_fld tk (se_var 1)) sa_nil)) nd))))) sss_nil)))))
      (sss_cons (ss_fld tk (se_var 1) (se_var 2))
      (sss_one (ss_ret se_bl)))))
/-! Reader.cost_of -/
abbrev s_Reader_cost_of : Stmt := inClass (top 38) 16
def b_Reader_cost_of : AS := (sRet (eDM getDA (eFld TT "costs" (eVar 0)) (aCons (eVar 1) (aCons (eC (.int 0)) aNil))))
def F_Reader_cost_of : AF := fnA 2 2 b_Reader_cost_of
abbrev M_Reader_cost_of : AF := F_Reader_cost_of
theorem sim_Reader_cost_of : SimQ F_Reader_cost_of M_Reader_cost_of := SimQ.rfl'
theorem sc_Reader_cost_of : FnScope ["self", "node"] ["self", "node"] (defScope s_Reader_cost_of) := ⟨rfl, rfl, rfl, by decide +kernel, rfl, by decide +kernel, by decide +kernel⟩
set_option maxHeartbeats 40000000 in
theorem ok_Reader_cost_of {P : Program} {w : World} {K : Frg} {mg : Str → Option Value} {base : Heap} {h : Heap} (z : Zz K mg h) : Fn P w K mg base (CT K w) 1 (He.fAd K ("Reader", some "cost_of")) 2 M_Reader_cost_of := by
  obtain ⟨fd, F⟩ := z.c.def_ 28 (at_ := ("Reader", some "cost_of")) (name := "cost_of") (qual := "Reader.cost_of") (st := s_Reader_cost_of)
  refine Fn.simQ (fn_mk (k := 0) F sc_Reader_cost_of rfl rfl (F.binds (ps := ["self", "node"]) fun _ _ _ _ _ _ us hl => match us, hl with | [_, _], _ => rfl) (fun cdv A outer s H E hr ok => ?_)) sim_Reader_cost_of
  have nd := sc_Reader_cost_of.nd
  have tk := z.c.tabOk w
  have hu := hr.un
  unfold b_Reader_cost_of
  exact (sss_one (ss_ret (se_dm PySem.F.slot_dict_get PySem.F.type_dict_get (mt_getD (ul hu (by decide)) rfl) (se_fld tk (se_var 0)) (sa_cons (se_var 1) (sa_cons se_int sa_nil)) getDA_nx)))
def mt_cost_of : Nat → Option AF := fun c => lookN c [(14, M_Reader_cost_of)]
theorem mo_cost_of {X : Cx} {h : Heap} (z : Zz X.K X.mg h) : MethOk X (CT X.K X.w) 1 "cost_of" mt_cost_of := by
  intro c F e
  have q := lookN_mem e
  simp only [List.mem_cons, List.not_mem_nil, or_false, Prod.mk.injEq] at q
  rcases q with ⟨rfl, rfl⟩
  · exact ⟨((z.c.tabOk X.w).cls 14 (by decide)).cl, _, _, z.c.meth (k := 14) (m := "cost_of") (y := "Reader") (by decide), (ok_Reader_cost_of z).mono (by decide)⟩
/-! Reader.cost_of_all -/
abbrev s_Reader_cost_of_all : Stmt := inClass (top 38) 13
def b_Reader_cost_of_all : AS := (sRet (eCall sumA (aCons (eLc (iSeq (eVar 1)) (gN 2) tYesA (eMeth "cost_of" mt_cost_of (eVar 0) (aCons (eVar 2) aNil)) [2]) aNil)))
def F_Reader_cost_of_all : AF := fnA 2 3 b_Reader_cost_of_all
abbrev M_Reader_cost_of_all : AF := F_Reader_cost_of_all
theorem sim_Reader_cost_of_all : SimQ F_Reader_cost_of_all M_Reader_cost_of_all := SimQ.rfl'
theorem sc_Reader_cost_of_all : FnScope ["self", "calls", "node"] ["self", "calls"] (defScope s_Reader_cost_of_all) := ⟨rfl, rfl, rfl, by decide +kernel, rfl, by decide +kernel, by decide +kernel⟩
set_option maxHeartbeats 40000000 in
theorem ok_Reader_cost_of_all {P : Program} {w : World} {K : Frg} {mg : Str → Option Value} {base : Heap} {h : Heap} (z : Zz K mg h) : Fn P w K mg base (CT K w) 2 (He.fAd K ("Reader", some "cost_of_all")) 2 M_Reader_cost_of_all := by
  obtain ⟨fd, F⟩ := z.c.def_ 29 (at_ := ("Reader", some "cost_of_all")) (name := "cost_of_all") (qual := "Reader.cost_of_all") (st := s_Reader_cost_of_all)
  refine Fn.simQ (fn_mk (k := 1) F sc_Reader_cost_of_all rfl rfl (F.binds (ps := ["self", "calls"]) fun _ _ _ _ _ _ us hl => match us, hl with | [_, _], _ => rfl) (fun cdv A outer s H E hr ok => ?_)) sim_Reader_cost_of_all
  have nd := sc_Reader_cost_of_all.nd
  have tk := z.c.tabOk w
  have hu := hr.un
  unfold b_Reader_cost_of_all
  exact (sss_one (ss_ret (se_callB (cr_sum rfl) cs_sum (z.c.free z.X z.G 36) bt_sum (sa_cons (se_lc (own := [("node", 2)]) rfl nd (si_seq (se_var 1)) (blkOk_by (by rfl)) (fun _ _ _ _ _ => (sg_name 2 nd)) (fun _ _ _ _ _ => sts_nil) (fun _ _ _ _ _ => (se_meth (blk_ok _ _ _ _) (mo_cost_of z) (hr.mono (by decide)) (se_var 0) (sa_cons (se_var 2) sa_nil)))) sa_nil))))
def mt_cost_of_all : Nat → Option AF := fun c => lookN c [(14, M_Reader_cost_of_all)]
theorem mo_cost_of_all {X : Cx} {h : Heap} (z : Zz X.K X.mg h) : MethOk X (CT X.K X.w) 2 "cost_of_all" mt_cost_of_all := by
  intro c F e
  have q := lookN_mem e
  simp only [List.mem_cons, List.not_mem_nil, or_false, Prod.mk.injEq] at q
  rcases q with ⟨rfl, rfl⟩
  · exact ⟨((z.c.tabOk X.w).cls 14 (by decide)).cl, _, _, z.c.meth (k := 14) (m := "cost_of_all") (y := "Reader") (by decide), (ok_Reader_cost_of_all z).mono (by decide)⟩
/-! Reader.end -/
abbrev s_Reader_end : Stmt := inClass (top 38) 10
def b_Reader_end : AS := (sSeq (sDrop (eDM popDA (eFld TT "unread" (eVar 0)) (aCons (eFld TT "node" (eVar 1)) aNil)))
  (sSeq (sSub (eFld TT "calls" (eVar 0)) (eFld TT "node" (eVar 1)) (eFld TT "calls" (eVar 1)))
  (sSeq (sSub (eFld TT "costs" (eVar 0)) (eFld TT "node" (eVar 1)) (eBin addA (eC (.int 1)) (eMeth "cost_of_all" mt_cost_of_all (eVar 0) (aCons (eFld TT "calls" (eVar 1)) aNil))))
  (sSub (eFld TT "places" (eVar 0)) (eFld TT "node" (eVar 1)) (eFld TT "place" (eVar 1))))))
def F_Reader_end : AF := fnA 2 2 b_Reader_end
abbrev M_Reader_end : AF := F_Reader_end
theorem sim_Reader_end : SimQ F_Reader_end M_Reader_end := SimQ.rfl'
theorem sc_Reader_end : FnScope ["self", "way"] ["self", "way"] (defScope s_Reader_end) := ⟨rfl, rfl, rfl, by decide +kernel, rfl, by decide +kernel, by decide +kernel⟩
set_option maxHeartbeats 40000000 in
theorem ok_Reader_end {P : Program} {w : World} {K : Frg} {mg : Str → Option Value} {base : Heap} {h : Heap} (z : Zz K mg h) : Fn P w K mg base (CT K w) 3 (He.fAd K ("Reader", some "end")) 2 M_Reader_end := by
  obtain ⟨fd, F⟩ := z.c.def_ 30 (at_ := ("Reader", some "end")) (name := "end") (qual := "Reader.end") (st := s_Reader_end)
  refine Fn.simQ (fn_mk (k := 2) F sc_Reader_end rfl rfl (F.binds (ps := ["self", "way"]) fun _ _ _ _ _ _ us hl => match us, hl with | [_, _], _ => rfl) (fun cdv A outer s H E hr ok => ?_)) sim_Reader_end
  have nd := sc_Reader_end.nd
  have tk := z.c.tabOk w
  have hu := hr.un
  unfold b_Reader_end
  exact (sss_cons (ss_expr (se_dm PySem.F.slot_dict_pop PySem.F.type_dict_pop (mt_popD (ul hu (by decide)) rfl) (se_fld tk (se_var 0)) (sa_cons (se_fld tk (se_var 1)) sa_nil) popDA_nx))
      (sss_cons (ss_sub (ul hu (by decide)) rfl (se_fld tk (se_var 0)) (se_fld tk (se_var 1)) (se_fld tk (se_var 1)))
      (sss_cons (ss_sub (ul hu (by decide)) rfl (se_fld tk (se_var 0)) (se_fld tk (se_var 1)) (se_bin op_addA os_add se_int (se_meth ok (mo_cost_of_all z) (hr.mono (by decide)) (se_var 0) (sa_cons (se_fld tk (se_var 1)) sa_nil))))
      (sss_one (ss_sub (ul hu (by decide)) rfl (se_fld tk (se_var 0)) (se_fld tk (se_var 1)) (se_fld tk (se_var 1)))))))
def mt_begun : Nat → Option AF := fun c => lookN c [(14, M_Reader_begun)]
theorem mo_begun {X : Cx} {h : Heap} (z : Zz X.K X.mg h) : MethOk X (CT X.K X.w) 4 "begun" mt_begun := by
  intro c F e
  have q := lookN_mem e
  simp only [List.mem_cons, List.not_mem_nil, or_false, Prod.mk.injEq] at q
  rcases q with ⟨rfl, rfl⟩
  · exact ⟨((z.c.tabOk X.w).cls 14 (by decide)).cl, _, _, z.c.meth (k := 14) (m := "begun") (y := "Reader") (by decide), (ok_Reader_begun z).mono (by decide)⟩
def mt_goes_through : Nat → Option AF := fun c => lookN c [(14, M_Reader_goes_through)]
theorem mo_goes_through {X : Cx} {h : Heap} (z : Zz X.K X.mg h) : MethOk X (CT X.K X.w) 4 "goes_through" mt_goes_through := by
  intro c F e
  have q := lookN_mem e
  simp only [List.mem_cons, List.not_mem_nil, or_false, Prod.mk.injEq] at q
  rcases q with ⟨rfl, rfl⟩
  · exact ⟨((z.c.tabOk X.w).cls 14 (by decide)).cl, _, _, z.c.meth (k := 14) (m := "goes_through") (y := "Reader") (by decide), (ok_Reader_goes_through z).mono (by decide)⟩
def mt_end : Nat → Option AF := fun c => lookN c [(14, M_Reader_end)]
theorem mo_end {X : Cx} {h : Heap} (z : Zz X.K X.mg h) : MethOk X (CT X.K X.w) 3 "end" mt_end := by
  intro c F e
  have q := lookN_mem e
  simp only [List.mem_cons, List.not_mem_nil, or_false, Prod.mk.injEq] at q
  rcases q with ⟨rfl, rfl⟩
  · exact ⟨((z.c.tabOk X.w).cls 14 (by decide)).cl, _, _, z.c.meth (k := 14) (m := "end") (y := "Reader") (by decide), (ok_Reader_end z).mono (by decide)⟩
/-! Reader.work_out -/
abbrev s_Reader_work_out : Stmt := inClass (top 38) 6
def b_Reader_work_out : AS := (sSeq (sSet 2 (eLst (aCons (eMeth "begun" mt_begun (eVar 0) (aCons (eVar 1) aNil)) aNil)))
  (sWhile (tE (eBin neL (eVar 2) (eLst aNil))) (sSeq (sSet 3 (eBin ixA (eVar 2) (eUn negA (eC (.int 1)))))
  (sIf (tE (eMeth "is_new" mt_is_new (eVar 0) (aCons (eFld TT "here" (eVar 3)) aNil))) (sDrop (eBM "list" appendA (eVar 2) (aCons (eMeth "begun" mt_begun (eVar 0) (aCons (eFld TT "here" (eVar 3)) aNil)) aNil))) (sIf (tE (eMeth "goes_through" mt_goes_through (eVar 0) (aCons (eVar 3) aNil))) (sSeq (sDrop (eMeth "end" mt_end (eVar 0) (aCons (eVar 3) aNil)))
  (sDrop (eBM "list" popA (eVar 2) aNil))) sNil)))))
def F_Reader_work_out : AF := fnA 2 4 b_Reader_work_out
abbrev M_Reader_work_out : AF := F_Reader_work_out
theorem sim_Reader_work_out : SimQ F_Reader_work_out M_Reader_work_out := SimQ.rfl'
theorem sc_Reader_work_out : FnScope ["self", "node", "ways", "way"] ["self", "node"] (defScope s_Reader_work_out) := ⟨rfl, rfl, rfl, by decide +kernel, rfl, by decide +kernel, by decide +kernel⟩
set_option maxHeartbeats 40000000 in
theorem ok_Reader_work_out {P : Program} {w : World} {K : Frg} {mg : Str → Option Value} {base : Heap} {h : Heap} (z : Zz K mg h) : Fn P w K mg base (CT K w) 5 (He.fAd K ("Reader", some "work_out")) 2 M_Reader_work_out := by
  obtain ⟨fd, F⟩ := z.c.def_ 31 (at_ := ("Reader", some "work_out")) (name := "work_out") (qual := "Reader.work_out") (st := s_Reader_work_out)
  refine Fn.simQ (fn_mk (k := 4) F sc_Reader_work_out rfl rfl (F.binds (ps := ["self", "node"]) fun _ _ _ _ _ _ us hl => match us, hl with | [_, _], _ => rfl) (fun cdv A outer s H E hr ok => ?_)) sim_Reader_work_out
  have nd := sc_Reader_work_out.nd
  have tk := z.c.tabOk w
  have hu := hr.un
  unfold b_Reader_work_out
  exact (sss_cons (ss_set 2 (se_lst (sa_cons (se_meth ok (mo_begun z) (hr.mono (by decide)) (se_var 0) (sa_cons (se_var 1) sa_nil)) sa_nil)) nd)
      (sss_one (ss_while ok (st_cmp (op_neL (ul hu (by decide))) os_neL (se_var 2) (se_lst sa_nil)) (sss_cons (ss_set 3 (se_ix (ul hu (by decide)) rfl (se_var 2) (se_un un_neg us_neg se_int)) nd)
      (sss_one (ss_if (st_val (se_meth ok (mo_is_new z) (hr.mono (by decide)) (se_var 0) (sa_cons (se_fld tk (se_var 3)) sa_nil))) (sss_one (ss_expr (se_bm PySem.F.plainAttrs_list PySem.F.slot_list_append PySem.F.type_list_append mt_append ms_append (se_var 2) (sa_cons (se_meth ok (mo_begun z) (hr.mono (by decide)) (se_var 0) (sa_cons (se_fld tk (se_var 3)) sa_nil)) sa_nil)))) (sss_one (ss_if (st_val (se_meth ok (mo_goes_through z) (hr.mono (by decide)) (se_var 0) (sa_cons (se_var 3) sa_nil))) (sss_cons (ss_expr (se_meth ok (mo_end z) (hr.mono (by decide)) (se_var 0) (sa_cons (se_var 3) sa_nil)))
      (sss_one (ss_expr (se_bm0 PySem.F.plainAttrs_list PySem.F.slot_list_pop PySem.F.type_list_pop mt_pop ms_pop (se_var 2))))) sss_nil))))))))
def mt_work_out : Nat → Option AF := fun c => lookN c [(14, M_Reader_work_out)]
theorem mo_work_out {X : Cx} {h : Heap} (z : Zz X.K X.mg h) : MethOk X (CT X.K X.w) 5 "work_out" mt_work_out := by
  intro c F e
  have q := lookN_mem e
  simp only [List.mem_cons, List.not_mem_nil, or_false, Prod.mk.injEq] at q
  rcases q with ⟨rfl, rfl⟩
  · exact ⟨((z.c.tabOk X.w).cls 14 (by decide)).cl, _, _, z.c.meth (k := 14) (m := "work_out") (y := "Reader") (by decide), (ok_Reader_work_out z).mono (by decide)⟩
/-! Reader.place_behind -/
abbrev s_Reader_place_behind : Stmt := inClass (top 38) 5
def b_Reader_place_behind : AS := (sSeq (sIf (tE (eMeth "is_new" mt_is_new (eVar 0) (aCons (eVar 1) aNil))) (sDrop (eMeth "work_out" mt_work_out (eVar 0) (aCons (eVar 1) aNil))) sNil)
  (sRet (eMeth "known_place" mt_known_place (eVar 0) (aCons (eVar 1) aNil))))
def F_Reader_place_behind : AF := fnA 2 2 b_Reader_place_behind
abbrev M_Reader_place_behind : AF := F_Reader_place_behind
theorem sim_Reader_place_behind : SimQ F_Reader_place_behind M_Reader_place_behind := SimQ.rfl'
theorem sc_Reader_place_behind : FnScope ["self", "node"] ["self", "node"] (defScope s_Reader_place_behind) := ⟨rfl, rfl, rfl, by decide +kernel, rfl, by decide +kernel, by decide +kernel⟩
set_option maxHeartbeats 40000000 in
theorem ok_Reader_place_behind {P : Program} {w : World} {K : Frg} {mg : Str → Option Value} {base : Heap} {h : Heap} (z : Zz K mg h) : Fn P w K mg base (CT K w) 6 (He.fAd K ("Reader", some "place_behind")) 2 M_Reader_place_behind := by
  obtain ⟨fd, F⟩ := z.c.def_ 32 (at_ := ("Reader", some "place_behind")) (name := "place_behind") (qual := "Reader.place_behind") (st := s_Reader_place_behind)
  refine Fn.simQ (fn_mk (k := 5) F sc_Reader_place_behind rfl rfl (F.binds (ps := ["self", "node"]) fun _ _ _ _ _ _ us hl => match us, hl with | [_, _], _ => rfl) (fun cdv A outer s H E hr ok => ?_)) sim_Reader_place_behind
  have nd := sc_Reader_place_behind.nd
  have tk := z.c.tabOk w
  have hu := hr.un
  unfold b_Reader_place_behind
  exact (sss_cons (ss_if (st_val (se_meth ok (mo_is_new z) (hr.mono (by decide)) (se_var 0) (sa_cons (se_var 1) sa_nil))) (sss_one (ss_expr (se_meth ok (mo_work_out z) (hr.mono (by decide)) (se_var 0) (sa_cons (se_var 1) sa_nil)))) sss_nil)
      (sss_one (ss_ret (se_meth ok (mo_known_place z) (hr.mono (by decide)) (se_var 0) (sa_cons (se_var 1) sa_nil)))))
def mt_place_behind : Nat → Option AF := fun c => lookN c [(14, M_Reader_place_behind)]
theorem mo_place_behind {X : Cx} {h : Heap} (z : Zz X.K X.mg h) : MethOk X (CT X.K X.w) 6 "place_behind" mt_place_behind := by
  intro c F e
  have q := lookN_mem e
  simp only [List.mem_cons, List.not_mem_nil, or_false, Prod.mk.injEq] at q
  rcases q with ⟨rfl, rfl⟩
  · exact ⟨((z.c.tabOk X.w).cls 14 (by decide)).cl, _, _, z.c.meth (k := 14) (m := "place_behind") (y := "Reader") (by decide), (ok_Reader_place_behind z).mono (by decide)⟩
/-! Reader.passed -/
abbrev s_Reader_passed : Stmt := inClass (top 38) 12
def b_Reader_passed : AS := (sSeq (sIf (tE (eMeth "is_led" mt_is_led (eVar 0) (aCons (eVar 1) aNil))) (sDrop (eBM "list" appendA (eVar 2) (aCons (eVar 1) aNil))) sNil)
  (sRet (eMeth "place_behind" mt_place_behind (eVar 0) (aCons (eVar 1) aNil))))
def F_Reader_passed : AF := fnA 3 3 b_Reader_passed
abbrev M_Reader_passed : AF := F_Reader_passed
theorem sim_Reader_passed : SimQ F_Reader_passed M_Reader_passed := SimQ.rfl'
theorem sc_Reader_passed : FnScope ["self", "node", "calls"] ["self", "node", "calls"] (defScope s_Reader_passed) := ⟨rfl, rfl, rfl, by decide +kernel, rfl, by decide +kernel, by decide +kernel⟩
set_option maxHeartbeats 40000000 in
theorem ok_Reader_passed {P : Program} {w : World} {K : Frg} {mg : Str → Option Value} {base : Heap} {h : Heap} (z : Zz K mg h) : Fn P w K mg base (CT K w) 7 (He.fAd K ("Reader", some "passed")) 3 M_Reader_passed := by
  obtain ⟨fd, F⟩ := z.c.def_ 33 (at_ := ("Reader", some "passed")) (name := "passed") (qual := "Reader.passed") (st := s_Reader_passed)
  refine Fn.simQ (fn_mk (k := 6) F sc_Reader_passed rfl rfl (F.binds (ps := ["self", "node", "calls"]) fun _ _ _ _ _ _ us hl => match us, hl with | [_, _, _], _ => rfl) (fun cdv A outer s H E hr ok => ?_)) sim_Reader_passed
  have nd := sc_Reader_passed.nd
  have tk := z.c.tabOk w
  have hu := hr.un
  unfold b_Reader_passed
  exact (sss_cons (ss_if (st_val (se_meth ok (mo_is_led z) (hr.mono (by decide)) (se_var 0) (sa_cons (se_var 1) sa_nil))) (sss_one (ss_expr (se_bm PySem.F.plainAttrs_list PySem.F.slot_list_append PySem.F.type_list_append mt_append ms_append (se_var 2) (sa_cons (se_var 1) sa_nil)))) sss_nil)
      (sss_one (ss_ret (se_meth ok (mo_place_behind z) (hr.mono (by decide)) (se_var 0) (sa_cons (se_var 1) sa_nil)))))
def mt_passed : Nat → Option AF := fun c => lookN c [(14, M_Reader_passed)]
theorem mo_passed {X : Cx} {h : Heap} (z : Zz X.K X.mg h) : MethOk X (CT X.K X.w) 7 "passed" mt_passed := by
  intro c F e
  have q := lookN_mem e
  simp only [List.mem_cons, List.not_mem_nil, or_false, Prod.mk.injEq] at q
  rcases q with ⟨rfl, rfl⟩
  · exact ⟨((z.c.tabOk X.w).cls 14 (by decide)).cl, _, _, z.c.meth (k := 14) (m := "passed") (y := "Reader") (by decide), (ok_Reader_passed z).mono (by decide)⟩
/-! Reader.read -/
abbrev s_Reader_read : Stmt := inClass (top 38) 17
def b_Reader_read : AS := (sSeq (sSet 4 (eTup (aCons (eC (.str "node")) (aCons (eVar 1) aNil))))
  (sSeq (sFor (iSeq (eVar 2)) (gN 5) (sSeq (sIf (tE (eBin neA (eBin ixA (eVar 4) (eC (.int 0))) (eC (.str "node")))) (sRet (eVar 4)) sNil)
  (sSeq (sSet 4 (eMeth "passed" mt_passed (eVar 0) (aCons (eBin ixA (eVar 4) (eC (.int 1))) (aCons (eVar 3) aNil))))
  (sIf (tE (eBin eqA (eBin ixA (eVar 4) (eC (.int 0))) (eC (.str "node")))) (sSet 4 (eMeth "child_of" mt_child_of (eVar 0) (aCons (eBin ixA (eVar 4) (eC (.int 1))) (aCons (eVar 5) aNil)))) sNil))))
  (sRet (eVar 4))))
def F_Reader_read : AF := fnA 4 6 b_Reader_read
abbrev M_Reader_read : AF := F_Reader_read
theorem sim_Reader_read : SimQ F_Reader_read M_Reader_read := SimQ.rfl'
theorem sc_Reader_read : FnScope ["self", "start", "name", "calls", "place", "label"] ["self", "start", "name", "calls"] (defScope s_Reader_read) := ⟨rfl, rfl, rfl, by decide +kernel, rfl, by decide +kernel, by decide +kernel⟩
set_option maxHeartbeats 40000000 in
theorem ok_Reader_read {P : Program} {w : World} {K : Frg} {mg : Str → Option Value} {base : Heap} {h : Heap} (z : Zz K mg h) : Fn P w K mg base (CT K w) 8 (He.fAd K ("Reader", some "read")) 4 M_Reader_read := by
  obtain ⟨fd, F⟩ := z.c.def_ 34 (at_ := ("Reader", some "read")) (name := "read") (qual := "Reader.read") (st := s_Reader_read)
  refine Fn.simQ (fn_mk (k := 7) F sc_Reader_read rfl rfl (F.binds (ps := ["self", "start", "name", "calls"]) fun _ _ _ _ _ _ us hl => match us, hl with | [_, _, _, _], _ => rfl) (fun cdv A outer s H E hr ok => ?_)) sim_Reader_read
  have nd := sc_Reader_read.nd
  have tk := z.c.tabOk w
  have hu := hr.un
  unfold b_Reader_read
  exact (sss_cons (ss_set 4 (se_tup (sa_cons se_str (sa_cons (se_var 1) sa_nil))) nd)
      (sss_cons (ss_for ok (si_seq (se_var 2)) (sg_name 5 nd) (sss_cons (ss_if (st_cmp (op_neD (ul hu (by decide))) os_ne (se_ix (ul hu (by decide)) rfl (se_var 4) se_int) se_str) (sss_one (ss_ret (se_var 4))) sss_nil)
      (sss_cons (ss_set 4 (se_meth ok (mo_passed z) (hr.mono (by decide)) (se_var 0) (sa_cons (se_ix (ul hu (by decide)) rfl (se_var 4) se_int) (sa_cons (se_var 3) sa_nil))) nd)
      (sss_one (ss_if (st_cmp (op_eqD (ul hu (by decide))) os_eq (se_ix (ul hu (by decide)) rfl (se_var 4) se_int) se_str) (sss_one (ss_set 4 (se_meth ok (mo_child_of z) (hr.mono (by decide)) (se_var 0) (sa_cons (se_ix (ul hu (by decide)) rfl (se_var 4) se_int) (sa_cons (se_var 5) sa_nil))) nd)) sss_nil)))))
      (sss_one (ss_ret (se_var 4)))))
/-! is_label -/
abbrev s_is_label : Stmt := top 14
def b_is_label : AS := (sSeq (sIf (tOrA (tNotA (tE (eCall (isiA TT) (aCons (eVar 0) (aCons (eC (.ty "str")) aNil))))) (tNotA (tE (eChain (cmpI (fun i j => decide (i ≤ j))) (cmpI (fun i j => decide (i ≤ j))) (eC (.int 1)) (eCall lenA (aCons (eVar 0) aNil)) (eC (.int 8)))))) (sRet (eC (.bl false))) sNil)
  (sRet (eCall allA (aCons (eLc (iSeq (eVar 0)) (gN 1) tYesA (eBin inA (eVar 1) (eC (.str "abcdefghijklmnopqrstuvwxyz"))) [1]) aNil))))
def F_is_label : AF := fnA 1 2 b_is_label
def M_is_label : AF := isoF F_is_label
theorem sc_is_label : FnScope ["thing", "sign"] ["thing"] (defScope s_is_label) := ⟨rfl, rfl, rfl, by decide +kernel, rfl, by decide +kernel, by decide +kernel⟩
set_option maxHeartbeats 40000000 in
theorem ok_is_label {P : Program} {w : World} {K : Frg} {mg : Str → Option Value} {base : Heap} {h : Heap} (z : Zz K mg h) : Fn P w K mg base (CT K w) 1 (He.fAd K ("is_label", none)) 1 M_is_label := by
  obtain ⟨fd, F⟩ := z.c.def_ 35 (at_ := ("is_label", none)) (name := "is_label") (qual := "is_label") (st := s_is_label)
  refine Fn.iso (fn_mk (k := 0) F sc_is_label rfl rfl (F.binds (ps := ["thing"]) fun _ _ _ _ _ _ us hl => match us, hl with | [_], _ => rfl) (fun cdv A outer s H E hr ok => ?_))
  have nd := sc_is_label.nd
  have tk := z.c.tabOk w
  have hu := hr.un
  unfold b_is_label
  exact (sss_cons (ss_if (SW.st (sw_or (st_not (st_val (se_callB call_isiA (cs_isi tk) (z.c.free z.X z.G 22) bt_isinstance (sa_cons (se_var 0) (sa_cons (se_ty (z.c.free z.X z.G 47) bt_str) sa_nil))))) (sw_or1 (st_not (st_chain op_le os_cmpI op_le os_cmpI se_int (se_callB call_lenA cs_len (z.c.free z.X z.G 33) bt_len (sa_cons (se_var 0) sa_nil)) (se_gint (He.int_ok z.X z.G (z.c.fact (f := .fa (.int "MOST_LETTERS" 8)) 46)))))))) (sss_one (ss_ret se_bl)) sss_nil)
      (sss_one (ss_ret (se_callB (cr_all rfl) cs_all (z.c.free z.X z.G 44) bt_all (sa_cons (se_lc (own := [("sign", 1)]) rfl nd (si_seq (se_var 0)) (blkOk_by (by rfl)) (fun _ _ _ _ _ => (sg_name 1 nd)) (fun _ _ _ _ _ => sts_nil) (fun _ _ _ _ _ => (se_cmp (op_inA (ul hu (by decide))) os_in (se_var 1) (se_gstr (He.str_ok z.X z.G (z.c.fact (f := .fa (.str "LETTERS" "abcdefghijklmnopqrstuvwxyz")) 45)))))) sa_nil)))))
/-! is_name -/
abbrev s_is_name : Stmt := top 15
def b_is_name : AS := (sRet (eAndA (eCall (isiA TT) (aCons (eVar 0) (aCons (eTup (aCons (eC (.ty "list")) (aCons (eC (.ty "tuple")) aNil))) aNil))) (eCall allA (aCons (eLc (iSeq (eVar 0)) (gN 1) tYesA (eCall M_is_label (aCons (eVar 1) aNil)) [1]) aNil))))
def F_is_name : AF := fnA 1 2 b_is_name
def M_is_name : AF := isoF F_is_name
theorem sc_is_name : FnScope ["thing", "label"] ["thing"] (defScope s_is_name) := ⟨rfl, rfl, rfl, by decide +kernel, rfl, by decide +kernel, by decide +kernel⟩
set_option maxHeartbeats 40000000 in
theorem ok_is_name {P : Program} {w : World} {K : Frg} {mg : Str → Option Value} {base : Heap} {h : Heap} (z : Zz K mg h) : Fn P w K mg base (CT K w) 2 (He.fAd K ("is_name", none)) 1 M_is_name := by
  obtain ⟨fd, F⟩ := z.c.def_ 36 (at_ := ("is_name", none)) (name := "is_name") (qual := "is_name") (st := s_is_name)
  refine Fn.iso (fn_mk (k := 1) F sc_is_name rfl rfl (F.binds (ps := ["thing"]) fun _ _ _ _ _ _ us hl => match us, hl with | [_], _ => rfl) (fun cdv A outer s H E hr ok => ?_))
  have nd := sc_is_name.nd
  have tk := z.c.tabOk w
  have hu := hr.un
  unfold b_is_name
  exact (sss_one (ss_ret (se_and (se_callB call_isiA (cs_isi tk) (z.c.free z.X z.G 22) bt_isinstance (sa_cons (se_var 0) (sa_cons (se_tup (sa_cons (se_ty (z.c.free z.X z.G 32) bt_list) (sa_cons (se_ty (z.c.free z.X z.G 37) bt_tuple) sa_nil))) sa_nil))) (se_one (se_callB (cr_all rfl) cs_all (z.c.free z.X z.G 44) bt_all (sa_cons (se_lc (own := [("label", 1)]) rfl nd (si_seq (se_var 0)) (blkOk_by (by rfl)) (fun _ _ _ _ _ => (sg_name 1 nd)) (fun _ _ _ _ _ => sts_nil) (fun _ _ _ _ _ => (se_call (blk_ok _ _ _ _) (ok_is_label z) (hr.mono (by decide)) (z.c.glo z.X z.G 43) (sa_cons (se_var 1) sa_nil)))) sa_nil))))))
abbrev s_NoName_init : Stmt := inClass (top 3) 0
theorem xi_NoName {P : Program} {w : World} {K : Frg} {mg : Str → Option Value} {base : Heap} {h : Heap} (z : Zz K mg h) : XInit P w K mg base 1 (He.ga K "NoName") (He.ma K (He.ga K "NoName") "__init__") ["name"] := by
  obtain ⟨fd, F⟩ := z.c.def_ 37 (at_ := ("NoName", some "__init__")) (name := "__init__") (qual := "NoName.__init__") (st := s_NoName_init)
  exact xinit1 (x := "__init__") (qual := "NoName.__init__") (st := s_NoName_init) F ⟨rfl, rfl, rfl, by decide +kernel, rfl, by decide +kernel, by decide +kernel⟩ (F.binds (ps := ["self", "name"]) fun _ _ _ _ _ _ us hl => match us, hl with | [_, _], _ => rfl) (oexB_ok (z.c.fact (f := .oex "NoName") 40)) (He.noat_ok (z.c.fact (f := .fa (.noat "NoName" "name")) 41)) rfl (Or.inl rfl) (Or.inl rfl)
/-! checked_name -/
abbrev s_checked_name : Stmt := top 16
def b_checked_name : AS := (sSeq (sIf (tNotA (tE (eCall M_is_name (aCons (eVar 0) aNil)))) (sRaise (mkXA 1 ["name"] (aCons (eVar 0) aNil))) sNil)
  (sRet (eCall tupleA (aCons (eVar 0) aNil))))
def F_checked_name : AF := fnA 1 1 b_checked_name
def M_checked_name : AF := isoF F_checked_name
theorem sc_checked_name : FnScope ["name"] ["name"] (defScope s_checked_name) := ⟨rfl, rfl, rfl, by decide +kernel, rfl, by decide +kernel, by decide +kernel⟩
set_option maxHeartbeats 40000000 in
theorem ok_checked_name {P : Program} {w : World} {K : Frg} {mg : Str → Option Value} {base : Heap} {h : Heap} (z : Zz K mg h) : Fn P w K mg base (CT K w) 3 (He.fAd K ("checked_name", none)) 1 M_checked_name := by
  obtain ⟨fd, F⟩ := z.c.def_ 38 (at_ := ("checked_name", none)) (name := "checked_name") (qual := "checked_name") (st := s_checked_name)
  refine Fn.iso (fn_mk (k := 2) F sc_checked_name rfl rfl (F.binds (ps := ["name"]) fun _ _ _ _ _ _ us hl => match us, hl with | [_], _ => rfl) (fun cdv A outer s H E hr ok => ?_))
  have nd := sc_checked_name.nd
  have tk := z.c.tabOk w
  have hu := hr.un
  unfold b_checked_name
  exact (sss_cons (ss_if (st_not (st_val (se_call ok (ok_is_name z) (hr.mono (by decide)) (z.c.glo z.X z.G 38) (sa_cons (se_var 0) sa_nil)))) (sss_one (ss_raise ok (sm_make (c := 1) ok (xi_NoName z) (oexB_ok (z.c.fact (f := .oex "NoName") 40)) (z.c.ini (x := "NoName") 39).1 (z.c.ini (x := "NoName") 39).2 (hr.mono (by decide)) (z.c.glo z.X z.G 42) (sa_cons (se_var 0) sa_nil)))) sss_nil)
      (sss_one (ss_ret (se_callTy call_tuple_of cs_tuple (z.c.free z.X z.G 37) bt_tuple (sa_cons (se_var 0) sa_nil)))))
/-! Reader.__init__ -/
abbrev s_Reader_init : Stmt := inClass (top 38) 0
def b_Reader_init : AS := (sSeq (sFldA TT "table" (eVar 0) (eVar 1))
  (sSeq (sFldA TT "places" (eVar 0) eDic0)
  (sSeq (sFldA TT "calls" (eVar 0) eDic0)
  (sSeq (sFldA TT "costs" (eVar 0) eDic0)
  (sSeq (sFldA TT "uses" (eVar 0) eDic0)
  (sSeq (sFldA TT "unread" (eVar 0) eDic0)
  (sFldA TT "answers" (eVar 0) eDic0)))))))
def F_Reader_init : AF := fnA 2 2 b_Reader_init
abbrev M_Reader_init : AF := F_Reader_init
theorem sim_Reader_init : SimQ F_Reader_init M_Reader_init := SimQ.rfl'
theorem sc_Reader_init : FnScope ["self", "table"] ["self", "table"] (defScope s_Reader_init) := ⟨rfl, rfl, rfl, by decide +kernel, rfl, by decide +kernel, by decide +kernel⟩
set_option maxHeartbeats 40000000 in
theorem ok_Reader_init {P : Program} {w : World} {K : Frg} {mg : Str → Option Value} {base : Heap} {h : Heap} (z : Zz K mg h) : Fn P w K mg base (CT K w) 1 (He.fAd K ("Reader", some "__init__")) 2 M_Reader_init := by
  obtain ⟨fd, F⟩ := z.c.def_ 39 (at_ := ("Reader", some "__init__")) (name := "__init__") (qual := "Reader.__init__") (st := s_Reader_init)
  refine Fn.simQ (fn_mk (k := 0) F sc_Reader_init rfl rfl (F.binds (ps := ["self", "table"]) fun _ _ _ _ _ _ us hl => match us, hl with | [_, _], _ => rfl) (fun cdv A outer s H E hr ok => ?_)) sim_Reader_init
  have nd := sc_Reader_init.nd
  have tk := z.c.tabOk w
  have hu := hr.un
  unfold b_Reader_init
  exact (sss_cons (ss_fld tk (se_var 0) (se_var 1))
      (sss_cons (ss_fld tk (se_var 0) se_dic0)
      (sss_cons (ss_fld tk (se_var 0) se_dic0)
      (sss_cons (ss_fld tk (se_var 0) se_dic0)
      (sss_cons (ss_fld tk (se_var 0) se_dic0)
      (sss_cons (ss_fld tk (se_var 0) se_dic0)
      (sss_one (ss_fld tk (se_var 0) se_dic0))))))))
theorem mk_Reader {K : Frg} {mg : Str → Option Value} {h : Heap} (z : Zz K mg h) : Mk K (He.ga K "Reader") (He.ma K (He.ga K "Reader") "__init__") := by
  have e : He.ma K (He.ga K "Reader") "__init__" = He.ma K (He.ga K "Reader") "__init__" := of_decide_eq_true (z.c.fact (f := .same "Reader" "__init__" "Reader" "__init__") 86)
  have m : Mk K (He.ga K "Reader") (He.ma K (He.ga K "Reader") "__init__") := He.mkr_ok (z.c.fact (f := .fa (.mkr "Reader")) 48)
  rw [e] at m
  exact m
def F_Reader : AF := mkA 14 true M_Reader_init
abbrev M_Reader : AF := F_Reader
theorem sim_Reader : SimQ (mkA 14 true M_Reader_init) M_Reader := SimQ.rfl'
/-! reader_of -/
abbrev s_reader_of : Stmt := top 39
def b_reader_of : AS := (sSeq (sIf (tE (eBin notInX (eC (.str "reader")) (eFld TT "memory" (eVar 0)))) (sSub (eFld TT "memory" (eVar 0)) (eC (.str "reader")) (eCall M_Reader (aCons (eVar 0) aNil))) sNil)
  (sRet (eBin ixA (eFld TT "memory" (eVar 0)) (eC (.str "reader")))))
def F_reader_of : AF := fnA 1 1 b_reader_of
abbrev M_reader_of : AF := F_reader_of
theorem sim_reader_of : SimQ F_reader_of M_reader_of := SimQ.rfl'
theorem sc_reader_of : FnScope ["table"] ["table"] (defScope s_reader_of) := ⟨rfl, rfl, rfl, by decide +kernel, rfl, by decide +kernel, by decide +kernel⟩
set_option maxHeartbeats 40000000 in
theorem ok_reader_of {P : Program} {w : World} {K : Frg} {mg : Str → Option Value} {base : Heap} {h : Heap} (z : Zz K mg h) : Fn P w K mg base (CT K w) 3 (He.fAd K ("reader_of", none)) 1 M_reader_of := by
  obtain ⟨fd, F⟩ := z.c.def_ 40 (at_ := ("reader_of", none)) (name := "reader_of") (qual := "reader_of") (st := s_reader_of)
  refine Fn.simQ (fn_mk (k := 2) F sc_reader_of rfl rfl (F.binds (ps := ["table"]) fun _ _ _ _ _ _ us hl => match us, hl with | [_], _ => rfl) (fun cdv A outer s H E hr ok => ?_)) sim_reader_of
  have nd := sc_reader_of.nd
  have tk := z.c.tabOk w
  have hu := hr.un
  unfold b_reader_of
  exact (sss_cons (ss_if (st_cmp (op_notInX (ul hu (by decide)) rfl) os_notInX se_str (se_fld tk (se_var 0))) (sss_one (ss_sub (ul hu (by decide)) rfl (se_fld tk (se_var 0)) se_str (se_make (c := 14) ok (mk_Reader z) (ok_Reader_init z) sim_Reader (hr.mono (by decide)) (z.c.glo z.X z.G 49) (sa_cons (se_var 0) sa_nil)))) sss_nil)
      (sss_one (ss_ret (se_ix (ul hu (by decide)) rfl (se_fld tk (se_var 0)) se_str))))
def mt_shown : Nat → Option AF := fun c => lookN c [(14, M_Reader_shown)]
theorem mo_shown {X : Cx} {h : Heap} (z : Zz X.K X.mg h) : MethOk X (CT X.K X.w) 4 "shown" mt_shown := by
  intro c F e
  have q := lookN_mem e
  simp only [List.mem_cons, List.not_mem_nil, or_false, Prod.mk.injEq] at q
  rcases q with ⟨rfl, rfl⟩
  · exact ⟨((z.c.tabOk X.w).cls 14 (by decide)).cl, _, _, z.c.meth (k := 14) (m := "shown") (y := "Reader") (by decide), (ok_Reader_shown z).mono (by decide)⟩
def mt_read : Nat → Option AF := fun c => lookN c [(14, M_Reader_read)]
theorem mo_read {X : Cx} {h : Heap} (z : Zz X.K X.mg h) : MethOk X (CT X.K X.w) 8 "read" mt_read := by
  intro c F e
  have q := lookN_mem e
  simp only [List.mem_cons, List.not_mem_nil, or_false, Prod.mk.injEq] at q
  rcases q with ⟨rfl, rfl⟩
  · exact ⟨((z.c.tabOk X.w).cls 14 (by decide)).cl, _, _, z.c.meth (k := 14) (m := "read") (y := "Reader") (by decide), (ok_Reader_read z).mono (by decide)⟩
/-! place_of -/
abbrev s_place_of : Stmt := top 46
def b_place_of : AS := (sSeq (sSet 2 (eCall M_reader_of (aCons (eVar 0) aNil)))
  (sSeq (sSet 3 (eMeth "read" mt_read (eVar 2) (aCons (eTup aNil) (aCons (eCall M_checked_name (aCons (eVar 1) aNil)) (aCons (eLst aNil) aNil)))))
  (sRet (eMeth "shown" mt_shown (eVar 2) (aCons (eIfA (tE (eBin eqA (eBin ixA (eVar 3) (eC (.int 0))) (eC (.str "node")))) (eMeth "place_behind" mt_place_behind (eVar 2) (aCons (eBin ixA (eVar 3) (eC (.int 1))) aNil)) (eVar 3)) aNil)))))
def F_place_of : AF := fnA 2 4 b_place_of
def M_place_of : AF := gcS F_place_of
theorem sim_place_of : SimQ F_place_of M_place_of := gcS_sim _
theorem sc_place_of : FnScope ["table", "name", "reader", "place"] ["table", "name"] (defScope s_place_of) := ⟨rfl, rfl, rfl, by decide +kernel, rfl, by decide +kernel, by decide +kernel⟩
set_option maxHeartbeats 40000000 in
theorem ok_place_of {P : Program} {w : World} {K : Frg} {mg : Str → Option Value} {base : Heap} {h : Heap} (z : Zz K mg h) : Fn P w K mg base (CT K w) 9 (He.fAd K ("place_of", none)) 2 M_place_of := by
  obtain ⟨fd, F⟩ := z.c.def_ 41 (at_ := ("place_of", none)) (name := "place_of") (qual := "place_of") (st := s_place_of)
  refine Fn.simQ (fn_mk (k := 8) F sc_place_of rfl rfl (F.binds (ps := ["table", "name"]) fun _ _ _ _ _ _ us hl => match us, hl with | [_, _], _ => rfl) (fun cdv A outer s H E hr ok => ?_)) sim_place_of
  have nd := sc_place_of.nd
  have tk := z.c.tabOk w
  have hu := hr.un
  unfold b_place_of
  exact (sss_cons (ss_set 2 (se_call ok (ok_reader_of z) (hr.mono (by decide)) (z.c.glo z.X z.G 20) (sa_cons (se_var 0) sa_nil)) nd)
      (sss_cons (ss_set 3 (se_meth ok (mo_read z) (hr.mono (by decide)) (se_var 2) (sa_cons (se_tup sa_nil) (sa_cons (se_call ok (ok_checked_name z) (hr.mono (by decide)) (z.c.glo z.X z.G 19) (sa_cons (se_var 1) sa_nil)) (sa_cons (se_lst sa_nil) sa_nil)))) nd)
      (sss_one (ss_ret (se_meth ok (mo_shown z) (hr.mono (by decide)) (se_var 2) (sa_cons (se_if (st_cmp (op_eqD (ul hu (by decide))) os_eq (se_ix (ul hu (by decide)) rfl (se_var 3) se_int) se_str) (se_meth ok (mo_place_behind z) (hr.mono (by decide)) (se_var 2) (sa_cons (se_ix (ul hu (by decide)) rfl (se_var 3) se_int) sa_nil)) (se_var 3)) sa_nil))))))
/-! End.is_endless -/
abbrev s_End_is_endless : Stmt := inClass (top 40) 1
def b_End_is_endless : AS := (sRet (eBin inA (eFld TT "answer" (eVar 0)) (eTup (aCons (eC (.tup [(.str "round")])) (aCons (eC (.tup [(.str "grows")])) aNil)))))
def F_End_is_endless : AF := fnA 1 1 b_End_is_endless
abbrev M_End_is_endless : AF := F_End_is_endless
theorem sim_End_is_endless : SimQ F_End_is_endless M_End_is_endless := SimQ.rfl'
theorem sc_End_is_endless : FnScope ["self"] ["self"] (defScope s_End_is_endless) := ⟨rfl, rfl, rfl, by decide +kernel, rfl, by decide +kernel, by decide +kernel⟩
set_option maxHeartbeats 40000000 in
theorem ok_End_is_endless {P : Program} {w : World} {K : Frg} {mg : Str → Option Value} {base : Heap} {h : Heap} (z : Zz K mg h) : Fn P w K mg base (CT K w) 1 (He.fAd K ("End", some "is_endless")) 1 M_End_is_endless := by
  obtain ⟨fd, F⟩ := z.c.def_ 42 (at_ := ("End", some "is_endless")) (name := "is_endless") (qual := "End.is_endless") (st := s_End_is_endless)
  refine Fn.simQ (fn_mk (k := 0) F sc_End_is_endless rfl rfl (F.binds (ps := ["self"]) fun _ _ _ _ _ _ us hl => match us, hl with | [_], _ => rfl) (fun cdv A outer s H E hr ok => ?_)) sim_End_is_endless
  have nd := sc_End_is_endless.nd
  have tk := z.c.tabOk w
  have hu := hr.un
  unfold b_End_is_endless
  exact (sss_one (ss_ret (se_cmp (op_inA (ul hu (by decide))) os_in (se_fld tk (se_var 0)) (se_tup (sa_cons (se_gtup (z.c.glo z.X z.G 29) (z.c.fact (f := .tupc "ROUND" (.tup [(.str "round")])) 30)) (sa_cons (se_gtup (z.c.glo z.X z.G 27) (z.c.fact (f := .tupc "GROWS" (.tup [(.str "grows")])) 28)) sa_nil))))))
def mt_is_endless : Nat → Option AF := fun c => lookN c [(15, M_End_is_endless)]
theorem mo_is_endless {X : Cx} {h : Heap} (z : Zz X.K X.mg h) : MethOk X (CT X.K X.w) 1 "is_endless" mt_is_endless := by
  intro c F e
  have q := lookN_mem e
  simp only [List.mem_cons, List.not_mem_nil, or_false, Prod.mk.injEq] at q
  rcases q with ⟨rfl, rfl⟩
  · exact ⟨((z.c.tabOk X.w).cls 15 (by decide)).cl, _, _, z.c.meth (k := 15) (m := "is_endless") (y := "End") (by decide), (ok_End_is_endless z).mono (by decide)⟩
/-! moves_of -/
abbrev s_moves_of : Stmt := top 44
def b_moves_of : AS := (sRet (eIfA (tE (eMeth "is_endless" mt_is_endless (eVar 1) aNil)) (eC .non) (eBin addA (eMeth "cost_of_all" mt_cost_of_all (eVar 0) (aCons (eFld TT "met" (eVar 1)) aNil)) (eCall lenA (aCons (eFld TT "others" (eVar 1)) aNil)))))
def F_moves_of : AF := fnA 2 2 b_moves_of
abbrev M_moves_of : AF := F_moves_of
theorem sim_moves_of : SimQ F_moves_of M_moves_of := SimQ.rfl'
theorem sc_moves_of : FnScope ["reader", "end"] ["reader", "end"] (defScope s_moves_of) := ⟨rfl, rfl, rfl, by decide +kernel, rfl, by decide +kernel, by decide +kernel⟩
set_option maxHeartbeats 40000000 in
theorem ok_moves_of {P : Program} {w : World} {K : Frg} {mg : Str → Option Value} {base : Heap} {h : Heap} (z : Zz K mg h) : Fn P w K mg base (CT K w) 3 (He.fAd K ("moves_of", none)) 2 M_moves_of := by
  obtain ⟨fd, F⟩ := z.c.def_ 43 (at_ := ("moves_of", none)) (name := "moves_of") (qual := "moves_of") (st := s_moves_of)
  refine Fn.simQ (fn_mk (k := 2) F sc_moves_of rfl rfl (F.binds (ps := ["reader", "end"]) fun _ _ _ _ _ _ us hl => match us, hl with | [_, _], _ => rfl) (fun cdv A outer s H E hr ok => ?_)) sim_moves_of
  have nd := sc_moves_of.nd
  have tk := z.c.tabOk w
  have hu := hr.un
  unfold b_moves_of
  exact (sss_one (ss_ret (se_if (st_val (se_meth0 ok (mo_is_endless z) (hr.mono (by decide)) (se_var 1))) se_non (se_bin op_addA os_add (se_meth ok (mo_cost_of_all z) (hr.mono (by decide)) (se_var 0) (sa_cons (se_fld tk (se_var 1)) sa_nil)) (se_callB call_lenA cs_len (z.c.free z.X z.G 33) bt_len (sa_cons (se_fld tk (se_var 1)) sa_nil))))))
/-! End.__init__ -/
abbrev s_End_init : Stmt := inClass (top 40) 0
def b_End_init : AS := (sSeq (sFldA TT "answer" (eVar 0) (eVar 1))
  (sSeq (sFldA TT "met" (eVar 0) (eVar 2))
  (sSeq (sFldA TT "others" (eVar 0) (eVar 3))
  (sFldA TT "teller" (eVar 0) (eVar 4)))))
def F_End_init : AF := fnA 5 5 b_End_init
abbrev M_End_init : AF := F_End_init
theorem sim_End_init : SimQ F_End_init M_End_init := SimQ.rfl'
theorem sc_End_init : FnScope ["self", "answer", "met", "others", "teller"] ["self", "answer", "met", "others", "teller"] (defScope s_End_init) := ⟨rfl, rfl, rfl, by decide +kernel, rfl, by decide +kernel, by decide +kernel⟩
set_option maxHeartbeats 40000000 in
theorem ok_End_init {P : Program} {w : World} {K : Frg} {mg : Str → Option Value} {base : Heap} {h : Heap} (z : Zz K mg h) : Fn P w K mg base (CT K w) 1 (He.fAd K ("End", some "__init__")) 5 M_End_init := by
  obtain ⟨fd, F⟩ := z.c.def_ 44 (at_ := ("End", some "__init__")) (name := "__init__") (qual := "End.__init__") (st := s_End_init)
  refine Fn.simQ (fn_mk (k := 0) F sc_End_init rfl rfl (F.binds (ps := ["self", "answer", "met", "others", "teller"]) fun _ _ _ _ _ _ us hl => match us, hl with | [_, _, _, _, _], _ => rfl) (fun cdv A outer s H E hr ok => ?_)) sim_End_init
  have nd := sc_End_init.nd
  have tk := z.c.tabOk w
  have hu := hr.un
  unfold b_End_init
  exact (sss_cons (ss_fld tk (se_var 0) (se_var 1))
      (sss_cons (ss_fld tk (se_var 0) (se_var 2))
      (sss_cons (ss_fld tk (se_var 0) (se_var 3))
      (sss_one (ss_fld tk (se_var 0) (se_var 4))))))
/-! Table.own -/
abbrev s_Table_own : Stmt := inClass (top 29) 4
def b_Table_own : AS := (sRet (eDM getDA (eFld TT "owns" (eVar 0)) (aCons (eVar 1) (aCons (eC .non) aNil))))
def F_Table_own : AF := fnA 2 2 b_Table_own
abbrev M_Table_own : AF := F_Table_own
theorem sim_Table_own : SimQ F_Table_own M_Table_own := SimQ.rfl'
theorem sc_Table_own : FnScope ["self", "name"] ["self", "name"] (defScope s_Table_own) := ⟨rfl, rfl, rfl, by decide +kernel, rfl, by decide +kernel, by decide +kernel⟩
set_option maxHeartbeats 40000000 in
theorem ok_Table_own {P : Program} {w : World} {K : Frg} {mg : Str → Option Value} {base : Heap} {h : Heap} (z : Zz K mg h) : Fn P w K mg base (CT K w) 1 (He.fAd K ("Table", some "own")) 2 M_Table_own := by
  obtain ⟨fd, F⟩ := z.c.def_ 45 (at_ := ("Table", some "own")) (name := "own") (qual := "Table.own") (st := s_Table_own)
  refine Fn.simQ (fn_mk (k := 0) F sc_Table_own rfl rfl (F.binds (ps := ["self", "name"]) fun _ _ _ _ _ _ us hl => match us, hl with | [_, _], _ => rfl) (fun cdv A outer s H E hr ok => ?_)) sim_Table_own
  have nd := sc_Table_own.nd
  have tk := z.c.tabOk w
  have hu := hr.un
  unfold b_Table_own
  exact (sss_one (ss_ret (se_dm PySem.F.slot_dict_get PySem.F.type_dict_get (mt_getD (ul hu (by decide)) rfl) (se_fld tk (se_var 0)) (sa_cons (se_var 1) (sa_cons se_non sa_nil)) getDA_nx)))
theorem mk_End {K : Frg} {mg : Str → Option Value} {h : Heap} (z : Zz K mg h) : Mk K (He.ga K "End") (He.ma K (He.ga K "End") "__init__") := by
  have e : He.ma K (He.ga K "End") "__init__" = He.ma K (He.ga K "End") "__init__" := of_decide_eq_true (z.c.fact (f := .same "End" "__init__" "End" "__init__") 87)
  have m : Mk K (He.ga K "End") (He.ma K (He.ga K "End") "__init__") := He.mkr_ok (z.c.fact (f := .fa (.mkr "End")) 53)
  rw [e] at m
  exact m
def F_End : AF := mkA 15 true M_End_init
abbrev M_End : AF := F_End
theorem sim_End : SimQ (mkA 15 true M_End_init) M_End := SimQ.rfl'
def mt_own_Table : Nat → Option AF := fun c => lookN c [(12, M_Table_own)]
theorem mo_own_Table {X : Cx} {h : Heap} (z : Zz X.K X.mg h) : MethOk X (CT X.K X.w) 1 "own" mt_own_Table := by
  intro c F e
  have q := lookN_mem e
  simp only [List.mem_cons, List.not_mem_nil, or_false, Prod.mk.injEq] at q
  rcases q with ⟨rfl, rfl⟩
  · exact ⟨((z.c.tabOk X.w).cls 12 (by decide)).cl, _, _, z.c.meth (k := 12) (m := "own") (y := "Table") (by decide), (ok_Table_own z).mono (by decide)⟩
/-! end_of -/
abbrev s_end_of : Stmt := top 41
def b_end_of : AS := (sSeq (sSet 3 (eLst aNil))
  (sSeq (sWhile (tE (eBin eqA (eBin ixA (eVar 1) (eC (.int 0))) (eC (.str "node")))) (sSeq (sSet 4 (eMeth "own" mt_own_Table (eFld TT "table" (eVar 0)) (aCons (eBin ixA (eVar 1) (eC (.int 1))) aNil)))
  (sSeq (sIf (tE (eCall (isiA TT) (aCons (eVar 4) (aCons (eC (.cls 7)) aNil)))) (sRet (eCall M_End (aCons (eCall M_thing_answer (aCons (eFld TT "thing" (eVar 4)) aNil)) (aCons (eVar 2) (aCons (eVar 3) (aCons (eVar 4) aNil)))))) sNil)
  (sSeq (sIf (tNotA (tE (eCall (isiA TT) (aCons (eVar 4) (aCons (eC (.cls 9)) aNil))))) (sRet (eCall M_End (aCons (eC (.tup [(.str "nothing")])) (aCons (eVar 2) (aCons (eVar 3) (aCons (eC .non) aNil)))))) sNil)
  (sSeq (sIf (tE (eBin inX (eBin ixA (eVar 1) (eC (.int 1))) (eVar 3))) (sRet (eCall M_End (aCons (eC (.tup [(.str "round")])) (aCons (eVar 2) (aCons (eVar 3) (aCons (eC .non) aNil)))))) sNil)
  (sSeq (sDrop (eBM "list" appendA (eVar 3) (aCons (eBin ixA (eVar 1) (eC (.int 1))) aNil)))
  (sSet 1 (eMeth "read" mt_read (eVar 0) (aCons (eTup aNil) (aCons (eFld TT "target" (eVar 4)) (aCons (eVar 2) aNil)))))))))))
  (sRet (eCall M_End (aCons (eMeth "answer_at" mt_answer_at (eVar 0) (aCons (eVar 1) aNil)) (aCons (eVar 2) (aCons (eVar 3) (aCons (eIfA (tE (eBin eqA (eBin ixA (eVar 1) (eC (.int 0))) (eC (.str "out")))) (eMeth "way" mt_way (eFld TT "table" (eVar 0)) (aCons (eBin ixA (eVar 1) (eC (.int 1))) aNil)) (eC .non)) aNil))))))))
def F_end_of : AF := fnA 3 5 b_end_of
abbrev M_end_of : AF := F_end_of
theorem sim_end_of : SimQ F_end_of M_end_of := SimQ.rfl'
theorem sc_end_of : FnScope ["reader", "place", "calls", "others", "own"] ["reader", "place", "calls"] (defScope s_end_of) := ⟨rfl, rfl, rfl, by decide +kernel, rfl, by decide +kernel, by decide +kernel⟩
set_option maxHeartbeats 40000000 in
theorem ok_end_of {P : Program} {w : World} {K : Frg} {mg : Str → Option Value} {base : Heap} {h : Heap} (z : Zz K mg h) : Fn P w K mg base (CT K w) 9 (He.fAd K ("end_of", none)) 3 M_end_of := by
  obtain ⟨fd, F⟩ := z.c.def_ 46 (at_ := ("end_of", none)) (name := "end_of") (qual := "end_of") (st := s_end_of)
  refine Fn.simQ (fn_mk (k := 8) F sc_end_of rfl rfl (F.binds (ps := ["reader", "place", "calls"]) fun _ _ _ _ _ _ us hl => match us, hl with | [_, _, _], _ => rfl) (fun cdv A outer s H E hr ok => ?_)) sim_end_of
  have nd := sc_end_of.nd
  have tk := z.c.tabOk w
  have hu := hr.un
  unfold b_end_of
  exact (sss_cons (ss_set 3 (se_lst sa_nil) nd)
      (sss_cons (ss_while ok (st_cmp (op_eqD (ul hu (by decide))) os_eq (se_ix (ul hu (by decide)) rfl (se_var 1) se_int) se_str) (sss_cons (ss_set 4 (se_meth ok (mo_own_Table z) (hr.mono (by decide)) (se_fld tk (se_var 0)) (sa_cons (se_ix (ul hu (by decide)) rfl (se_var 1) se_int) sa_nil)) nd)
      (sss_cons (ss_if (st_val (se_callB call_isiA (cs_isi tk) (z.c.free z.X z.G 22) bt_isinstance (sa_cons (se_var 4) (sa_cons (se_cls (z.c.glo z.X z.G 15)) sa_nil)))) (sss_one (ss_ret (se_make (c := 15) ok (mk_End z) (ok_End_init z) sim_End (hr.mono (by decide)) (z.c.glo z.X z.G 54) (sa_cons (se_call ok (ok_thing_answer z) (hr.mono (by decide)) (z.c.glo z.X z.G 23) (sa_cons (se_fld tk (se_var 4)) sa_nil)) (sa_cons (se_var 2) (sa_cons (se_var 3) (sa_cons (se_var 4) sa_nil))))))) sss_nil)
      (sss_cons (ss_if (st_not (st_val (se_callB call_isiA (cs_isi tk) (z.c.free z.X z.G 22) bt_isinstance (sa_cons (se_var 4) (sa_cons (se_cls (z.c.glo z.X z.G 11)) sa_nil))))) (sss_one (ss_ret (se_make (c := 15) ok (mk_End z) (ok_End_init z) sim_End (hr.mono (by decide)) (z.c.glo z.X z.G 54) (sa_cons (se_gtup (z.c.glo z.X z.G 24) (z.c.fact (f := .tupc "NOTHING" (.tup [(.str "nothing")])) 25)) (sa_cons (se_var 2) (sa_cons (se_var 3) (sa_cons se_non sa_nil))))))) sss_nil)
      (sss_cons (ss_if (st_cmp (op_inX (ul hu (by decide)) rfl) os_inX (se_ix (ul hu (by decide)) rfl (se_var 1) se_int) (se_var 3)) (sss_one (ss_ret (se_make (c := 15) ok (mk_End z) (ok_End_init z) sim_End (hr.mono (by decide)) (z.c.glo z.X z.G 54) (sa_cons (se_gtup (z.c.glo z.X z.G 29) (z.c.fact (f := .tupc "ROUND" (.tup [(.str "round")])) 30)) (sa_cons (se_var 2) (sa_cons (se_var 3) (sa_cons se_non sa_nil))))))) sss_nil)
      (sss_cons (ss_expr (se_bm PySem.F.plainAttrs_list PySem.F.slot_list_append PySem.F.type_list_append mt_append ms_append (se_var 3) (sa_cons (se_ix (ul hu (by decide)) rfl (se_var 1) se_int) sa_nil)))
      (sss_one (ss_set 1 (se_meth ok (mo_read z) (hr.mono (by decide)) (se_var 0) (sa_cons (se_tup sa_nil) (sa_cons (se_fld tk (se_var 4)) (sa_cons (se_var 2) sa_nil)))) nd))))))))
      (sss_one (ss_ret (se_make (c := 15) ok (mk_End z) (ok_End_init z) sim_End (hr.mono (by decide)) (z.c.glo z.X z.G 54) (sa_cons (se_meth ok (mo_answer_at z) (hr.mono (by decide)) (se_var 0) (sa_cons (se_var 1) sa_nil)) (sa_cons (se_var 2) (sa_cons (se_var 3) (sa_cons (se_if (st_cmp (op_eqD (ul hu (by decide))) os_eq (se_ix (ul hu (by decide)) rfl (se_var 1) se_int) se_str) (se_meth ok (mo_way z) (hr.mono (by decide)) (se_fld tk (se_var 0)) (sa_cons (se_ix (ul hu (by decide)) rfl (se_var 1) se_int) sa_nil)) se_non) sa_nil)))))))))
/-! walk_end -/
abbrev s_walk_end : Stmt := top 42
def b_walk_end : AS := (sSeq (sSet 2 (eLst aNil))
  (sRet (eCall M_end_of (aCons (eVar 0) (aCons (eMeth "read" mt_read (eVar 0) (aCons (eTup aNil) (aCons (eCall M_checked_name (aCons (eVar 1) aNil)) (aCons (eVar 2) aNil)))) (aCons (eVar 2) aNil))))))
def F_walk_end : AF := fnA 2 3 b_walk_end
abbrev M_walk_end : AF := F_walk_end
theorem sim_walk_end : SimQ F_walk_end M_walk_end := SimQ.rfl'
theorem sc_walk_end : FnScope ["reader", "name", "calls"] ["reader", "name"] (defScope s_walk_end) := ⟨rfl, rfl, rfl, by decide +kernel, rfl, by decide +kernel, by decide +kernel⟩
set_option maxHeartbeats 40000000 in
theorem ok_walk_end {P : Program} {w : World} {K : Frg} {mg : Str → Option Value} {base : Heap} {h : Heap} (z : Zz K mg h) : Fn P w K mg base (CT K w) 10 (He.fAd K ("walk_end", none)) 2 M_walk_end := by
  obtain ⟨fd, F⟩ := z.c.def_ 47 (at_ := ("walk_end", none)) (name := "walk_end") (qual := "walk_end") (st := s_walk_end)
  refine Fn.simQ (fn_mk (k := 9) F sc_walk_end rfl rfl (F.binds (ps := ["reader", "name"]) fun _ _ _ _ _ _ us hl => match us, hl with | [_, _], _ => rfl) (fun cdv A outer s H E hr ok => ?_)) sim_walk_end
  have nd := sc_walk_end.nd
  have tk := z.c.tabOk w
  have hu := hr.un
  unfold b_walk_end
  exact (sss_cons (ss_set 2 (se_lst sa_nil) nd)
      (sss_one (ss_ret (se_call ok (ok_end_of z) (hr.mono (by decide)) (z.c.glo z.X z.G 52) (sa_cons (se_var 0) (sa_cons (se_meth ok (mo_read z) (hr.mono (by decide)) (se_var 0) (sa_cons (se_tup sa_nil) (sa_cons (se_call ok (ok_checked_name z) (hr.mono (by decide)) (z.c.glo z.X z.G 19) (sa_cons (se_var 1) sa_nil)) (sa_cons (se_var 2) sa_nil)))) (sa_cons (se_var 2) sa_nil)))))))
/-! count_moves -/
abbrev s_count_moves : Stmt := top 45
def b_count_moves : AS := (sSeq (sSet 2 (eCall M_reader_of (aCons (eVar 0) aNil)))
  (sRet (eCall M_moves_of (aCons (eVar 2) (aCons (eCall M_walk_end (aCons (eVar 2) (aCons (eVar 1) aNil))) aNil)))))
def F_count_moves : AF := fnA 2 3 b_count_moves
def M_count_moves : AF := gcS F_count_moves
theorem sim_count_moves : SimQ F_count_moves M_count_moves := gcS_sim _
theorem sc_count_moves : FnScope ["table", "name", "reader"] ["table", "name"] (defScope s_count_moves) := ⟨rfl, rfl, rfl, by decide +kernel, rfl, by decide +kernel, by decide +kernel⟩
set_option maxHeartbeats 40000000 in
theorem ok_count_moves {P : Program} {w : World} {K : Frg} {mg : Str → Option Value} {base : Heap} {h : Heap} (z : Zz K mg h) : Fn P w K mg base (CT K w) 11 (He.fAd K ("count_moves", none)) 2 M_count_moves := by
  obtain ⟨fd, F⟩ := z.c.def_ 48 (at_ := ("count_moves", none)) (name := "count_moves") (qual := "count_moves") (st := s_count_moves)
  refine Fn.simQ (fn_mk (k := 10) F sc_count_moves rfl rfl (F.binds (ps := ["table", "name"]) fun _ _ _ _ _ _ us hl => match us, hl with | [_, _], _ => rfl) (fun cdv A outer s H E hr ok => ?_)) sim_count_moves
  have nd := sc_count_moves.nd
  have tk := z.c.tabOk w
  have hu := hr.un
  unfold b_count_moves
  exact (sss_cons (ss_set 2 (se_call ok (ok_reader_of z) (hr.mono (by decide)) (z.c.glo z.X z.G 20) (sa_cons (se_var 0) sa_nil)) nd)
      (sss_one (ss_ret (se_call ok (ok_moves_of z) (hr.mono (by decide)) (z.c.glo z.X z.G 51) (sa_cons (se_var 2) (sa_cons (se_call ok (ok_walk_end z) (hr.mono (by decide)) (z.c.glo z.X z.G 50) (sa_cons (se_var 2) (sa_cons (se_var 1) sa_nil))) sa_nil))))))
/-! answer_of -/
abbrev s_answer_of : Stmt := top 43
def b_answer_of : AS := (sRet (eFld TT "answer" (eCall M_walk_end (aCons (eCall M_reader_of (aCons (eVar 0) aNil)) (aCons (eVar 1) aNil)))))
def F_answer_of : AF := fnA 2 2 b_answer_of
def M_answer_of : AF := gcS F_answer_of
theorem sim_answer_of : SimQ F_answer_of M_answer_of := gcS_sim _
theorem sc_answer_of : FnScope ["table", "name"] ["table", "name"] (defScope s_answer_of) := ⟨rfl, rfl, rfl, by decide +kernel, rfl, by decide +kernel, by decide +kernel⟩
set_option maxHeartbeats 40000000 in
theorem ok_answer_of {P : Program} {w : World} {K : Frg} {mg : Str → Option Value} {base : Heap} {h : Heap} (z : Zz K mg h) : Fn P w K mg base (CT K w) 11 (He.fAd K ("answer_of", none)) 2 M_answer_of := by
  obtain ⟨fd, F⟩ := z.c.def_ 49 (at_ := ("answer_of", none)) (name := "answer_of") (qual := "answer_of") (st := s_answer_of)
  refine Fn.simQ (fn_mk (k := 10) F sc_answer_of rfl rfl (F.binds (ps := ["table", "name"]) fun _ _ _ _ _ _ us hl => match us, hl with | [_, _], _ => rfl) (fun cdv A outer s H E hr ok => ?_)) sim_answer_of
  have nd := sc_answer_of.nd
  have tk := z.c.tabOk w
  have hu := hr.un
  unfold b_answer_of
  exact (sss_one (ss_ret (se_fld tk (se_call ok (ok_walk_end z) (hr.mono (by decide)) (z.c.glo z.X z.G 50) (sa_cons (se_call ok (ok_reader_of z) (hr.mono (by decide)) (z.c.glo z.X z.G 20) (sa_cons (se_var 0) sa_nil)) (sa_cons (se_var 1) sa_nil))))))
/-! _law_told -/
abbrev s_L_told : Stmt := top 52
def b_L_told : AS := (sSeq (sFor (iSeq (eVar 1)) (gT 4 (gsC (gN 2) (gsC (gN 3) (gsC (gN 4) (gsC (gN 5) gsN))))) (sIf (tOrA (tE (eBin neA (eCall M_answer_of (aCons (eVar 0) (aCons (eVar 2) aNil))) (eVar 3))) (tOrA (tE (eBin neA (eCall M_count_moves (aCons (eVar 0) (aCons (eVar 2) aNil))) (eVar 4))) (tE (eBin neA (eCall M_place_of (aCons (eVar 0) (aCons (eVar 2) aNil))) (eVar 5))))) (sRet (eC (.bl false))) sNil))
  (sRet (eC (.bl true))))
def F_L_told : AF := fnA 2 6 b_L_told
def M_L_told : AF := stf F_L_told
theorem sim_L_told : SimQ F_L_told M_L_told := stf_sim _
theorem sc_L_told : FnScope ["_law_board", "_law_rows", "_law_road", "_law_answer", "_law_many", "_law_place"] ["_law_board", "_law_rows"] (defScope s_L_told) := ⟨rfl, rfl, rfl, by decide +kernel, rfl, by decide +kernel, by decide +kernel⟩
set_option maxHeartbeats 40000000 in
theorem ok_L_told {P : Program} {w : World} {K : Frg} {mg : Str → Option Value} {base : Heap} {h : Heap} (z : Zz K mg h) : Fn P w K mg base (CT K w) 12 (He.fAd K ("_law_told", none)) 2 M_L_told := by
  obtain ⟨fd, F⟩ := z.c.def_ 50 (at_ := ("_law_told", none)) (name := "_law_told") (qual := "_law_told") (st := s_L_told)
  refine Fn.simQ (fn_mk (k := 11) F sc_L_told rfl rfl (F.binds (ps := ["_law_board", "_law_rows"]) fun _ _ _ _ _ _ us hl => match us, hl with | [_, _], _ => rfl) (fun cdv A outer s H E hr ok => ?_)) sim_L_told
  have nd := sc_L_told.nd
  have tk := z.c.tabOk w
  have hu := hr.un
  unfold b_L_told
  exact (sss_cons (ss_for ok (si_seq (se_var 1)) (sg_tup (sgs_cons (sg_name 2 nd) (sgs_cons (sg_name 3 nd) (sgs_cons (sg_name 4 nd) (sgs_cons (sg_name 5 nd) sgs_nil))))) (sss_one (ss_if (SW.st (sw_or (st_cmp (op_neD (ul hu (by decide))) os_ne (se_call ok (ok_answer_of z) (hr.mono (by decide)) (z.c.glo z.X z.G 18) (sa_cons (se_var 0) (sa_cons (se_var 2) sa_nil))) (se_var 3)) (sw_or (st_cmp (op_neD (ul hu (by decide))) os_ne (se_call ok (ok_count_moves z) (hr.mono (by decide)) (z.c.glo z.X z.G 17) (sa_cons (se_var 0) (sa_cons (se_var 2) sa_nil))) (se_var 4)) (sw_or1 (st_cmp (op_neD (ul hu (by decide))) os_ne (se_call ok (ok_place_of z) (hr.mono (by decide)) (z.c.glo z.X z.G 16) (sa_cons (se_var 0) (sa_cons (se_var 2) sa_nil))) (se_var 5)))))) (sss_one (ss_ret se_bl)) sss_nil)))
      (sss_one (ss_ret se_bl)))
/-! Table.add_row -/
abbrev s_Table_add_row : Stmt := inClass (top 29) 3
def b_Table_add_row : AS := (sSeq (sIf (tE (eCall (isiA TT) (aCons (eVar 1) (aCons (eTup (aCons (eC (.cls 7)) (aCons (eC (.cls 9)) aNil))) aNil)))) (sSub (eFld TT "owns" (eVar 0)) (eFld TT "name" (eVar 1)) (eVar 1)) (sIf (tE (eCall (isiA TT) (aCons (eVar 1) (aCons (eTup (aCons (eC (.cls 10)) (aCons (eC (.cls 8)) aNil))) aNil)))) (sSub (eFld TT "ways" (eVar 0)) (eFld TT "name" (eVar 1)) (eVar 1)) sNil))
  (sFor (iCall enumX (aCons (eFld TT "name" (eVar 1)) aNil)) (gT 2 (gsC (gN 2) (gsC (gN 3) gsN))) (sSeq (sSub (eBin ixA (eFld TT "below" (eVar 0)) (eSl (eFld TT "name" (eVar 1)) pNone (pSome (eVar 2)))) (eVar 3) (eC (.bl true)))
  (sSeq (sSet 4 (eSl (eFld TT "name" (eVar 1)) pNone (pSome (eBin addA (eVar 2) (eC (.int 1))))))
  (sSub (eFld TT "below" (eVar 0)) (eVar 4) (eDM getDA (eFld TT "below" (eVar 0)) (aCons (eVar 4) (aCons eDic0 aNil))))))))
def F_Table_add_row : AF := fnA 2 5 b_Table_add_row
abbrev M_Table_add_row : AF := F_Table_add_row
theorem sim_Table_add_row : SimQ F_Table_add_row M_Table_add_row := SimQ.rfl'
theorem sc_Table_add_row : FnScope ["self", "row", "size", "label", "node"] ["self", "row"] (defScope s_Table_add_row) := ⟨rfl, rfl, rfl, by decide +kernel, rfl, by decide +kernel, by decide +kernel⟩
set_option maxHeartbeats 40000000 in
theorem ok_Table_add_row {P : Program} {w : World} {K : Frg} {mg : Str → Option Value} {base : Heap} {h : Heap} (z : Zz K mg h) : Fn P w K mg base (CT K w) 1 (He.fAd K ("Table", some "add_row")) 2 M_Table_add_row := by
  obtain ⟨fd, F⟩ := z.c.def_ 51 (at_ := ("Table", some "add_row")) (name := "add_row") (qual := "Table.add_row") (st := s_Table_add_row)
  refine Fn.simQ (fn_mk (k := 0) F sc_Table_add_row rfl rfl (F.binds (ps := ["self", "row"]) fun _ _ _ _ _ _ us hl => match us, hl with | [_, _], _ => rfl) (fun cdv A outer s H E hr ok => ?_)) sim_Table_add_row
  have nd := sc_Table_add_row.nd
  have tk := z.c.tabOk w
  have hu := hr.un
  unfold b_Table_add_row
  exact (sss_cons (ss_if (st_val (se_callB call_isiA (cs_isi tk) (z.c.free z.X z.G 22) bt_isinstance (sa_cons (se_var 1) (sa_cons (se_tup (sa_cons (se_cls (z.c.glo z.X z.G 15)) (sa_cons (se_cls (z.c.glo z.X z.G 11)) sa_nil))) sa_nil)))) (sss_one (ss_sub (ul hu (by decide)) rfl (se_fld tk (se_var 0)) (se_fld tk (se_var 1)) (se_var 1))) (sss_one (ss_if (st_val (se_callB call_isiA (cs_isi tk) (z.c.free z.X z.G 22) bt_isinstance (sa_cons (se_var 1) (sa_cons (se_tup (sa_cons (se_cls (z.c.glo z.X z.G 13)) (sa_cons (se_cls (z.c.glo z.X z.G 6)) sa_nil))) sa_nil)))) (sss_one (ss_sub (ul hu (by decide)) rfl (se_fld tk (se_var 0)) (se_fld tk (se_var 1)) (se_var 1))) sss_nil)))
      (sss_one (ss_for ok (si_enumX (z.c.free z.X z.G 64) (se_fld tk (se_var 1))) (sg_tup (sgs_cons (sg_name 2 nd) (sgs_cons (sg_name 3 nd) sgs_nil))) (sss_cons (ss_sub (ul hu (by decide)) rfl (se_ix (ul hu (by decide)) rfl (se_fld tk (se_var 0)) (se_slice (se_fld tk (se_var 1)) so_none (so_some (se_var 2)))) (se_var 3) se_bl)
      (sss_cons (ss_set 4 (se_slice (se_fld tk (se_var 1)) so_none (so_some (se_bin op_addA os_add (se_var 2) se_int))) nd)
      (sss_one (ss_sub (ul hu (by decide)) rfl (se_fld tk (se_var 0)) (se_var 4) (se_dm PySem.F.slot_dict_get PySem.F.type_dict_get (mt_getD (ul hu (by decide)) rfl) (se_fld tk (se_var 0)) (sa_cons (se_var 4) (sa_cons se_dic0 sa_nil)) getDA_nx))))))))
/-! name_key -/
abbrev s_name_key : Stmt := top 17
def b_name_key : AS := (sRet (eTup (aCons (eCall lenA (aCons (eVar 0) aNil)) (aCons (eCall tupleA (aCons (eVar 0) aNil)) aNil))))
def F_name_key : AF := fnA 1 1 b_name_key
def M_name_key : AF := isoF F_name_key
theorem sc_name_key : FnScope ["name"] ["name"] (defScope s_name_key) := ⟨rfl, rfl, rfl, by decide +kernel, rfl, by decide +kernel, by decide +kernel⟩
set_option maxHeartbeats 40000000 in
theorem ok_name_key {P : Program} {w : World} {K : Frg} {mg : Str → Option Value} {base : Heap} {h : Heap} (z : Zz K mg h) : Fn P w K mg base (CT K w) 1 (He.fAd K ("name_key", none)) 1 M_name_key := by
  obtain ⟨fd, F⟩ := z.c.def_ 52 (at_ := ("name_key", none)) (name := "name_key") (qual := "name_key") (st := s_name_key)
  refine Fn.iso (fn_mk (k := 0) F sc_name_key rfl rfl (F.binds (ps := ["name"]) fun _ _ _ _ _ _ us hl => match us, hl with | [_], _ => rfl) (fun cdv A outer s H E hr ok => ?_))
  have nd := sc_name_key.nd
  have tk := z.c.tabOk w
  have hu := hr.un
  unfold b_name_key
  exact (sss_one (ss_ret (se_tup (sa_cons (se_callB call_lenA cs_len (z.c.free z.X z.G 33) bt_len (sa_cons (se_var 0) sa_nil)) (sa_cons (se_callTy call_tuple_of cs_tuple (z.c.free z.X z.G 37) bt_tuple (sa_cons (se_var 0) sa_nil)) sa_nil)))))
def mt_class_name_Thing5 : Nat → Option AF := fun c => lookN c [(7, M_Thing_class_name), (9, M_Other_class_name), (10, M_Lead_class_name), (8, M_Rest_class_name), (11, M_Stop_class_name)]
theorem mo_class_name_Thing5 {X : Cx} {h : Heap} (z : Zz X.K X.mg h) : MethOk X (CT X.K X.w) 1 "class_name" mt_class_name_Thing5 := by
  intro c F e
  have q := lookN_mem e
  simp only [List.mem_cons, List.not_mem_nil, or_false, Prod.mk.injEq] at q
  rcases q with ⟨rfl, rfl⟩ | ⟨rfl, rfl⟩ | ⟨rfl, rfl⟩ | ⟨rfl, rfl⟩ | ⟨rfl, rfl⟩
  · exact ⟨((z.c.tabOk X.w).cls 7 (by decide)).cl, _, _, z.c.meth (k := 7) (m := "class_name") (y := "Thing") (by decide), (ok_Thing_class_name z).mono (by decide)⟩
  · exact ⟨((z.c.tabOk X.w).cls 9 (by decide)).cl, _, _, z.c.meth (k := 9) (m := "class_name") (y := "Other") (by decide), (ok_Other_class_name z).mono (by decide)⟩
  · exact ⟨((z.c.tabOk X.w).cls 10 (by decide)).cl, _, _, z.c.meth (k := 10) (m := "class_name") (y := "Lead") (by decide), (ok_Lead_class_name z).mono (by decide)⟩
  · exact ⟨((z.c.tabOk X.w).cls 8 (by decide)).cl, _, _, z.c.meth (k := 8) (m := "class_name") (y := "Rest") (by decide), (ok_Rest_class_name z).mono (by decide)⟩
  · exact ⟨((z.c.tabOk X.w).cls 11 (by decide)).cl, _, _, z.c.meth (k := 11) (m := "class_name") (y := "Stop") (by decide), (ok_Stop_class_name z).mono (by decide)⟩
/-! row_key -/
abbrev s_row_key : Stmt := top 27
def b_row_key : AS := (sRet (eTup (aCons (eCall M_name_key (aCons (eFld TT "name" (eVar 0)) aNil)) (aCons (eCall (idxA ["thing", "other", "lead", "rest", "stop"]) (aCons (eMeth "class_name" mt_class_name_Thing5 (eVar 0) aNil) aNil)) aNil))))
def F_row_key : AF := fnA 1 1 b_row_key
def M_row_key : AF := isoF F_row_key
theorem sc_row_key : FnScope ["row"] ["row"] (defScope s_row_key) := ⟨rfl, rfl, rfl, by decide +kernel, rfl, by decide +kernel, by decide +kernel⟩
set_option maxHeartbeats 40000000 in
theorem ok_row_key {P : Program} {w : World} {K : Frg} {mg : Str → Option Value} {base : Heap} {h : Heap} (z : Zz K mg h) : Fn P w K mg base (CT K w) 2 (He.fAd K ("row_key", none)) 1 M_row_key := by
  obtain ⟨fd, F⟩ := z.c.def_ 53 (at_ := ("row_key", none)) (name := "row_key") (qual := "row_key") (st := s_row_key)
  refine Fn.iso (fn_mk (k := 1) F sc_row_key rfl rfl (F.binds (ps := ["row"]) fun _ _ _ _ _ _ us hl => match us, hl with | [_], _ => rfl) (fun cdv A outer s H E hr ok => ?_))
  have nd := sc_row_key.nd
  have tk := z.c.tabOk w
  have hu := hr.un
  unfold b_row_key
  exact (sss_one (ss_ret (se_tup (sa_cons (se_call ok (ok_name_key z) (hr.mono (by decide)) (z.c.glo z.X z.G 67) (sa_cons (se_fld tk (se_var 0)) sa_nil)) (sa_cons (se_cidx (ys := ["thing", "other", "lead", "rest", "stop"]) (z.c.glo z.X z.G 65) (z.c.fact (f := .tupc "KINDS" (.tup ((["thing", "other", "lead", "rest", "stop"] : List Str).map .str))) 66) (se_meth0 ok (mo_class_name_Thing5 z) (hr.mono (by decide)) (se_var 0))) sa_nil)))))
abbrev s_BadTable_init : Stmt := inClass (top 5) 0
theorem xi_BadTable {P : Program} {w : World} {K : Frg} {mg : Str → Option Value} {base : Heap} {h : Heap} (z : Zz K mg h) : XInit P w K mg base 1 (He.ga K "BadTable") (He.ma K (He.ga K "BadTable") "__init__") ["what", "name"] := by
  obtain ⟨fd, F⟩ := z.c.def_ 54 (at_ := ("BadTable", some "__init__")) (name := "__init__") (qual := "BadTable.__init__") (st := s_BadTable_init)
  exact xinit2 (x := "__init__") (qual := "BadTable.__init__") (st := s_BadTable_init) F ⟨rfl, rfl, rfl, by decide +kernel, rfl, by decide +kernel, by decide +kernel⟩ (F.binds (ps := ["self", "what", "name"]) fun _ _ _ _ _ _ us hl => match us, hl with | [_, _, _], _ => rfl) (oexB_ok (z.c.fact (f := .oex "BadTable") 60)) (He.noat_ok (z.c.fact (f := .fa (.noat "BadTable" "what")) 61)) (He.noat_ok (z.c.fact (f := .fa (.noat "BadTable" "name")) 62)) rfl (Or.inl rfl) (Or.inl rfl) (Or.inl rfl)
/-! check_rows -/
abbrev s_check_rows : Stmt := top 28
def b_check_rows : AS := (sSeq (sSet 1 (eDc (iSeq (eVar 0)) (gN 3) (tE (eCall (isiA TT) (aCons (eVar 3) (aCons (eC (.cls 10)) aNil)))) (eFld TT "name" (eVar 3)) (eC (.bl true)) [3]))
  (sSeq (sSet 2 eDic0)
  (sSeq (sFor (iSeq (eVar 0)) (gN 3) (sSub (eVar 2) (eFld TT "name" (eVar 3)) (eBin addA (eDM getDA (eVar 2) (aCons (eFld TT "name" (eVar 3)) (aCons (eLst aNil) aNil))) (eLst (aCons (eMeth "class_name" mt_class_name_Thing5 (eVar 3) aNil) aNil)))))
  (sFor (iSeq (eCall (sortKC M_name_key) (aCons (eVar 2) aNil))) (gN 4) (sSeq (sSet 5 (eBin ixA (eVar 2) (eVar 4)))
  (sSeq (sIf (tE (eBin (cmpI (fun i j => decide (i < j))) (eCall lenSetA (aCons (eVar 5) aNil)) (eCall lenA (aCons (eVar 5) aNil)))) (sRaise (mkXA 3 ["what", "name"] (aCons (eC (.str "twice")) (aCons (eVar 4) aNil)))) sNil)
  (sSeq (sIf (tE (eCall anyA (aCons (eLc (iSeq (eC (.tup [(.tup [(.str "thing"), (.str "other")]), (.tup [(.str "lead"), (.str "rest")])]))) (gT 2 (gsC (gN 6) (gsC (gN 7) gsN))) tYesA (eAndA (eBin inX (eVar 6) (eVar 5)) (eBin inX (eVar 7) (eVar 5))) [6, 7]) aNil))) (sRaise (mkXA 3 ["what", "name"] (aCons (eC (.str "both")) (aCons (eVar 4) aNil)))) sNil)
  (sIf (tE (eCall anyA (aCons (eLc (iCall rng1A (aCons (eCall lenA (aCons (eVar 4) aNil)) aNil)) (gN 8) tYesA (eBin inX (eSl (eVar 4) pNone (pSome (eVar 8))) (eVar 1)) [8]) aNil))) (sRaise (mkXA 3 ["what", "name"] (aCons (eC (.str "under")) (aCons (eVar 4) aNil)))) sNil))))))))
def F_check_rows : AF := fnA 1 9 b_check_rows
def M_check_rows : AF := gcS F_check_rows
theorem sim_check_rows : SimQ F_check_rows M_check_rows := gcS_sim _
theorem sc_check_rows : FnScope ["rows", "leads", "by_names", "row", "name", "kinds", "one", "two", "size"] ["rows"] (defScope s_check_rows) := ⟨rfl, rfl, rfl, by decide +kernel, rfl, by decide +kernel, by decide +kernel⟩
set_option maxHeartbeats 40000000 in
theorem ok_check_rows {P : Program} {w : World} {K : Frg} {mg : Str → Option Value} {base : Heap} {h : Heap} (z : Zz K mg h) : Fn P w K mg base (CT K w) 5 (He.fAd K ("check_rows", none)) 1 M_check_rows := by
  obtain ⟨fd, F⟩ := z.c.def_ 55 (at_ := ("check_rows", none)) (name := "check_rows") (qual := "check_rows") (st := s_check_rows)
  refine Fn.simQ (fn_mk (k := 4) F sc_check_rows rfl rfl (F.binds (ps := ["rows"]) fun _ _ _ _ _ _ us hl => match us, hl with | [_], _ => rfl) (fun cdv A outer s H E hr ok => ?_)) sim_check_rows
  have nd := sc_check_rows.nd
  have tk := z.c.tabOk w
  have hu := hr.un
  unfold b_check_rows
  exact (sss_cons (ss_set 1 (se_dc (own := [("row", 3)]) (ul hu (by decide)) rfl rfl nd (si_seq (se_var 0)) (blkOk_by (by rfl)) (fun _ _ _ _ _ => (sg_name 3 nd)) (fun _ _ _ _ _ => (sts_one (st_val (se_callB call_isiA (cs_isi tk) (z.c.free z.X z.G 22) bt_isinstance (sa_cons (se_var 3) (sa_cons (se_cls (z.c.glo z.X z.G 13)) sa_nil)))))) (fun _ _ _ _ _ => (se_fld tk (se_var 3))) (fun _ _ _ _ _ => se_bl)) nd)
      (sss_cons (ss_set 2 se_dic0 nd)
      (sss_cons (ss_for ok (si_seq (se_var 0)) (sg_name 3 nd) (sss_one (ss_sub (ul hu (by decide)) rfl (se_var 2) (se_fld tk (se_var 3)) (se_bin op_addA os_add (se_dm PySem.F.slot_dict_get PySem.F.type_dict_get (mt_getD (ul hu (by decide)) rfl) (se_var 2) (sa_cons (se_fld tk (se_var 3)) (sa_cons (se_lst sa_nil) sa_nil)) getDA_nx) (se_lst (sa_cons (se_meth0 ok (mo_class_name_Thing5 z) (hr.mono (by decide)) (se_var 3)) sa_nil))))))
      (sss_one (ss_for ok (si_seq (se_sortK (ok_name_key z) (hr.mono (by decide)) (z.c.glo z.X z.G 67) (z.c.free z.X z.G 56) (se_var 2))) (sg_name 4 nd) (sss_cons (ss_set 5 (se_ix (ul hu (by decide)) rfl (se_var 2) (se_var 4)) nd)
      (sss_cons (ss_if (st_cmp op_lt os_cmpI (se_lenSet (z.c.free z.X z.G 33) (z.c.free z.X z.G 71) (se_var 5)) (se_callB call_lenA cs_len (z.c.free z.X z.G 33) bt_len (sa_cons (se_var 5) sa_nil))) (sss_one (ss_raise ok (sm_make (c := 3) ok (xi_BadTable z) (oexB_ok (z.c.fact (f := .oex "BadTable") 60)) (z.c.ini (x := "BadTable") 59).1 (z.c.ini (x := "BadTable") 59).2 (hr.mono (by decide)) (z.c.glo z.X z.G 63) (sa_cons se_str (sa_cons (se_var 4) sa_nil))))) sss_nil)
      (sss_cons (ss_if (st_val (se_callB (cr_any rfl) cs_any (z.c.free z.X z.G 31) bt_any (sa_cons (se_lc (own := [("one", 6), ("two", 7)]) rfl nd (si_seq (se_gtup (z.c.glo z.X z.G 69) (z.c.fact (f := .tupc "PAIRS" (.tup [(.tup [(.str "thing"), (.str "other")]), (.tup [(.str "lead"), (.str "rest")])])) 70))) (blkOk_by (by rfl)) (fun _ _ _ _ _ => (sg_tup (sgs_cons (sg_name 6 nd) (sgs_cons (sg_name 7 nd) sgs_nil)))) (fun _ _ _ _ _ => sts_nil) (fun _ _ _ _ _ => (se_and (se_cmp (op_inX (ul hu (by decide)) rfl) os_inX (se_var 6) (se_var 5)) (se_one (se_cmp (op_inX (ul hu (by decide)) rfl) os_inX (se_var 7) (se_var 5)))))) sa_nil))) (sss_one (ss_raise ok (sm_make (c := 3) ok (xi_BadTable z) (oexB_ok (z.c.fact (f := .oex "BadTable") 60)) (z.c.ini (x := "BadTable") 59).1 (z.c.ini (x := "BadTable") 59).2 (hr.mono (by decide)) (z.c.glo z.X z.G 63) (sa_cons se_str (sa_cons (se_var 4) sa_nil))))) sss_nil)
      (sss_one (ss_if (st_val (se_callB (cr_any rfl) cs_any (z.c.free z.X z.G 31) bt_any (sa_cons (se_lc (own := [("size", 8)]) rfl nd (si_range1 (z.c.free z.X z.G 68) (se_callB call_lenA cs_len (z.c.free z.X z.G 33) bt_len (sa_cons (se_var 4) sa_nil))) (blkOk_by (by rfl)) (fun _ _ _ _ _ => (sg_name 8 nd)) (fun _ _ _ _ _ => sts_nil) (fun _ _ _ _ _ => (se_cmp (op_inX (ul hu (by decide)) rfl) os_inX (se_slice (se_var 4) so_none (so_some (se_var 8))) (se_var 1)))) sa_nil))) (sss_one (ss_raise ok (sm_make (c := 3) ok (xi_BadTable z) (oexB_ok (z.c.fact (f := .oex "BadTable") 60)) (z.c.ini (x := "BadTable") 59).1 (z.c.ini (x := "BadTable") 59).2 (hr.mono (by decide)) (z.c.glo z.X z.G 63) (sa_cons se_str (sa_cons (se_var 4) sa_nil))))) sss_nil))))))))))
/-! is_row -/
abbrev s_is_row : Stmt := top 26
def b_is_row : AS := (sRet (eCall (isiA TT) (aCons (eVar 0) (aCons (eTup (aCons (eC (.cls 7)) (aCons (eC (.cls 9)) (aCons (eC (.cls 10)) (aCons (eC (.cls 8)) (aCons (eC (.cls 11)) aNil)))))) aNil))))
def F_is_row : AF := fnA 1 1 b_is_row
def M_is_row : AF := isoF F_is_row
theorem sc_is_row : FnScope ["thing"] ["thing"] (defScope s_is_row) := ⟨rfl, rfl, rfl, by decide +kernel, rfl, by decide +kernel, by decide +kernel⟩
set_option maxHeartbeats 40000000 in
theorem ok_is_row {P : Program} {w : World} {K : Frg} {mg : Str → Option Value} {base : Heap} {h : Heap} (z : Zz K mg h) : Fn P w K mg base (CT K w) 1 (He.fAd K ("is_row", none)) 1 M_is_row := by
  obtain ⟨fd, F⟩ := z.c.def_ 56 (at_ := ("is_row", none)) (name := "is_row") (qual := "is_row") (st := s_is_row)
  refine Fn.iso (fn_mk (k := 0) F sc_is_row rfl rfl (F.binds (ps := ["thing"]) fun _ _ _ _ _ _ us hl => match us, hl with | [_], _ => rfl) (fun cdv A outer s H E hr ok => ?_))
  have nd := sc_is_row.nd
  have tk := z.c.tabOk w
  have hu := hr.un
  unfold b_is_row
  exact (sss_one (ss_ret (se_callB call_isiA (cs_isi tk) (z.c.free z.X z.G 22) bt_isinstance (sa_cons (se_var 0) (sa_cons (se_tup (sa_cons (se_cls (z.c.glo z.X z.G 15)) (sa_cons (se_cls (z.c.glo z.X z.G 11)) (sa_cons (se_cls (z.c.glo z.X z.G 13)) (sa_cons (se_cls (z.c.glo z.X z.G 6)) (sa_cons (se_cls (z.c.glo z.X z.G 72)) sa_nil)))))) sa_nil)))))
def mt_add_row : Nat → Option AF := fun c => lookN c [(12, M_Table_add_row)]
theorem mo_add_row {X : Cx} {h : Heap} (z : Zz X.K X.mg h) : MethOk X (CT X.K X.w) 1 "add_row" mt_add_row := by
  intro c F e
  have q := lookN_mem e
  simp only [List.mem_cons, List.not_mem_nil, or_false, Prod.mk.injEq] at q
  rcases q with ⟨rfl, rfl⟩
  · exact ⟨((z.c.tabOk X.w).cls 12 (by decide)).cl, _, _, z.c.meth (k := 12) (m := "add_row") (y := "Table") (by decide), (ok_Table_add_row z).mono (by decide)⟩
def mt_facts_Thing5 : Nat → Option AF := fun c => lookN c [(7, M_Valued_facts), (9, M_Turned_facts), (10, M_Turned_facts), (8, M_Valued_facts), (11, M_Stop_facts)]
theorem mo_facts_Thing5 {X : Cx} {h : Heap} (z : Zz X.K X.mg h) : MethOk X (CT X.K X.w) 1 "facts" mt_facts_Thing5 := by
  intro c F e
  have q := lookN_mem e
  simp only [List.mem_cons, List.not_mem_nil, or_false, Prod.mk.injEq] at q
  rcases q with ⟨rfl, rfl⟩ | ⟨rfl, rfl⟩ | ⟨rfl, rfl⟩ | ⟨rfl, rfl⟩ | ⟨rfl, rfl⟩
  · exact ⟨((z.c.tabOk X.w).cls 7 (by decide)).cl, _, _, z.c.meth (k := 7) (m := "facts") (y := "Valued") (by decide), (ok_Valued_facts z).mono (by decide)⟩
  · exact ⟨((z.c.tabOk X.w).cls 9 (by decide)).cl, _, _, z.c.meth (k := 9) (m := "facts") (y := "Turned") (by decide), (ok_Turned_facts z).mono (by decide)⟩
  · exact ⟨((z.c.tabOk X.w).cls 10 (by decide)).cl, _, _, z.c.meth (k := 10) (m := "facts") (y := "Turned") (by decide), (ok_Turned_facts z).mono (by decide)⟩
  · exact ⟨((z.c.tabOk X.w).cls 8 (by decide)).cl, _, _, z.c.meth (k := 8) (m := "facts") (y := "Valued") (by decide), (ok_Valued_facts z).mono (by decide)⟩
  · exact ⟨((z.c.tabOk X.w).cls 11 (by decide)).cl, _, _, z.c.meth (k := 11) (m := "facts") (y := "Stop") (by decide), (ok_Stop_facts z).mono (by decide)⟩
/-! Table.__init__ -/
abbrev s_Table_init : Stmt := inClass (top 29) 0
def b_Table_init : AS := (sSeq (sSet 2 eDic0)
  (sSeq (sFor (iSeq (eVar 1)) (gN 3) (sSeq (sIf (tNotA (tE (eCall M_is_row (aCons (eVar 3) aNil)))) (sRaise (mkXA 3 ["what", "name"] (aCons (eC (.str "row")) (aCons (eC .non) aNil)))) sNil)
  (sSub (eVar 2) (eTup (aCons (eMeth "class_name" mt_class_name_Thing5 (eVar 3) aNil) (aCons (eMeth "facts" mt_facts_Thing5 (eVar 3) aNil) aNil))) (eVar 3))))
  (sSeq (sLock (prD (eVar 2)) (sSet 4 (eLc (iSeqD (eVar 2)) (gN 5) tYesA (eBin ixA (eVar 2) (eVar 5)) [5])))
  (sSeq (sDrop (eCall M_check_rows (aCons (eVar 4) aNil)))
  (sSeq (sFldA TT "rows" (eVar 0) (eCall tupleA (aCons (eCall (sortKC M_row_key) (aCons (eVar 4) aNil)) aNil)))
  (sSeq (sTgts TT [.fld "owns" 0, .fld "ways" 0, .fld "below" 0] (eTup (aCons eDic0 (aCons eDic0 (aCons (eDisp (gP [((eTup aNil), eDic0)])) aNil)))))
  (sSeq (sFldA TT "memory" (eVar 0) eDic0)
  (sFor (iSeq (eFld TT "rows" (eVar 0))) (gN 3) (sDrop (eMeth "add_row" mt_add_row (eVar 0) (aCons (eVar 3) aNil)))))))))))
def F_Table_init : AF := fnA 2 6 b_Table_init
abbrev M_Table_init : AF := F_Table_init
theorem sim_Table_init : SimQ F_Table_init M_Table_init := SimQ.rfl'
theorem sc_Table_init : FnScope ["self", "rows", "found", "row", "once", "key"] ["self", "rows"] (defScope s_Table_init) := ⟨rfl, rfl, rfl, by decide +kernel, rfl, by decide +kernel, by decide +kernel⟩
set_option maxHeartbeats 40000000 in
theorem ok_Table_init {P : Program} {w : World} {K : Frg} {mg : Str → Option Value} {base : Heap} {h : Heap} (z : Zz K mg h) : Fn P w K mg base (CT K w) 8 (He.fAd K ("Table", some "__init__")) 2 M_Table_init := by
  obtain ⟨fd, F⟩ := z.c.def_ 57 (at_ := ("Table", some "__init__")) (name := "__init__") (qual := "Table.__init__") (st := s_Table_init)
  refine Fn.simQ (fn_mk (k := 7) F sc_Table_init rfl rfl (F.binds (ps := ["self", "rows"]) fun _ _ _ _ _ _ us hl => match us, hl with | [_, _], _ => rfl) (fun cdv A outer s H E hr ok => ?_)) sim_Table_init
  have nd := sc_Table_init.nd
  have tk := z.c.tabOk w
  have hu := hr.un
  unfold b_Table_init
  exact (sss_cons (ss_set 2 se_dic0 nd)
      (sss_cons (ss_for ok (si_seq (se_var 1)) (sg_name 3 nd) (sss_cons (ss_if (st_not (st_val (se_call ok (ok_is_row z) (hr.mono (by decide)) (z.c.glo z.X z.G 58) (sa_cons (se_var 3) sa_nil)))) (sss_one (ss_raise ok (sm_make (c := 3) ok (xi_BadTable z) (oexB_ok (z.c.fact (f := .oex "BadTable") 60)) (z.c.ini (x := "BadTable") 59).1 (z.c.ini (x := "BadTable") 59).2 (hr.mono (by decide)) (z.c.glo z.X z.G 63) (sa_cons se_str (sa_cons se_non sa_nil))))) sss_nil)
      (sss_one (ss_sub (ul hu (by decide)) rfl (se_var 2) (se_tup (sa_cons (se_meth0 ok (mo_class_name_Thing5 z) (hr.mono (by decide)) (se_var 3)) (sa_cons (se_meth0 ok (mo_facts_Thing5 z) (hr.mono (by decide)) (se_var 3)) sa_nil))) (se_var 3)))))
      (sss_cons (ss_lock (prD (eVar 2)) (ss_setLc (i := 4) (own := [("key", 5)]) rfl nd (si_seqD (se_var 2)) (blkOk_by (by rfl)) (fun _ _ _ _ _ => (sg_name 5 nd)) (fun _ _ _ _ _ => sts_nil) (fun _ _ _ _ _ => (se_ix (ul hu (by decide)) rfl (se_var 2) (se_var 5)))))
      (sss_cons (ss_expr (se_call ok (ok_check_rows z) (hr.mono (by decide)) (z.c.glo z.X z.G 57) (sa_cons (se_var 4) sa_nil)))
      (sss_cons (ss_fld tk (se_var 0) (se_callTy call_tuple_of cs_tuple (z.c.free z.X z.G 37) bt_tuple (sa_cons (se_sortK (ok_row_key z) (hr.mono (by decide)) (z.c.glo z.X z.G 55) (z.c.free z.X z.G 56) (se_var 4)) sa_nil)))
      (sss_cons (ss_tgts (se_tup (sa_cons se_dic0 (sa_cons se_dic0 (sa_cons (se_disp (ul hu (by decide)) rfl (l := [((eTup aNil), eDic0)]) (pps_cons (se_tup sa_nil) se_dic0 pps_nil)) sa_nil)))) (tgs_cons (tg_fld (i := 0) tk) (tgs_cons (tg_fld (i := 0) tk) (tgs_cons (tg_fld (i := 0) tk) tgs_nil))))
      (sss_cons (ss_fld tk (se_var 0) se_dic0)
      (sss_one (ss_for ok (si_seq (se_fld tk (se_var 0))) (sg_name 3 nd) (sss_one (ss_expr (se_meth ok (mo_add_row z) (hr.mono (by decide)) (se_var 0) (sa_cons (se_var 3) sa_nil)))))))))))))
/-! is_number -/
abbrev s_is_number : Stmt := top 8
def b_is_number : AS := (sRet (eAndA (eCall (isiA TT) (aCons (eVar 0) (aCons (eC (.ty "int")) aNil))) (eNotA (eCall (isiA TT) (aCons (eVar 0) (aCons (eC (.ty "bool")) aNil))))))
def F_is_number : AF := fnA 1 1 b_is_number
def M_is_number : AF := isoF F_is_number
theorem sc_is_number : FnScope ["thing"] ["thing"] (defScope s_is_number) := ⟨rfl, rfl, rfl, by decide +kernel, rfl, by decide +kernel, by decide +kernel⟩
set_option maxHeartbeats 40000000 in
theorem ok_is_number {P : Program} {w : World} {K : Frg} {mg : Str → Option Value} {base : Heap} {h : Heap} (z : Zz K mg h) : Fn P w K mg base (CT K w) 1 (He.fAd K ("is_number", none)) 1 M_is_number := by
  obtain ⟨fd, F⟩ := z.c.def_ 58 (at_ := ("is_number", none)) (name := "is_number") (qual := "is_number") (st := s_is_number)
  refine Fn.iso (fn_mk (k := 0) F sc_is_number rfl rfl (F.binds (ps := ["thing"]) fun _ _ _ _ _ _ us hl => match us, hl with | [_], _ => rfl) (fun cdv A outer s H E hr ok => ?_))
  have nd := sc_is_number.nd
  have tk := z.c.tabOk w
  have hu := hr.un
  unfold b_is_number
  exact (sss_one (ss_ret (se_and (se_callB call_isiA (cs_isi tk) (z.c.free z.X z.G 22) bt_isinstance (sa_cons (se_var 0) (sa_cons (se_ty (z.c.free z.X z.G 80) bt_int) sa_nil))) (se_one (se_not (se_callB call_isiA (cs_isi tk) (z.c.free z.X z.G 22) bt_isinstance (sa_cons (se_var 0) (sa_cons (se_ty (z.c.free z.X z.G 79) bt_bool) sa_nil))))))))
abbrev s_BadRow_init : Stmt := inClass (top 4) 0
theorem xi_BadRow {P : Program} {w : World} {K : Frg} {mg : Str → Option Value} {base : Heap} {h : Heap} (z : Zz K mg h) : XInit P w K mg base 1 (He.ga K "BadRow") (He.ma K (He.ga K "BadRow") "__init__") ["what"] := by
  obtain ⟨fd, F⟩ := z.c.def_ 59 (at_ := ("BadRow", some "__init__")) (name := "__init__") (qual := "BadRow.__init__") (st := s_BadRow_init)
  exact xinit1 (x := "__init__") (qual := "BadRow.__init__") (st := s_BadRow_init) F ⟨rfl, rfl, rfl, by decide +kernel, rfl, by decide +kernel, by decide +kernel⟩ (F.binds (ps := ["self", "what"]) fun _ _ _ _ _ _ us hl => match us, hl with | [_, _], _ => rfl) (oexB_ok (z.c.fact (f := .oex "BadRow") 75)) (He.noat_ok (z.c.fact (f := .fa (.noat "BadRow" "what")) 76)) rfl (Or.inl rfl) (Or.inl rfl)
/-! row_name -/
abbrev s_row_name : Stmt := top 18
def b_row_name : AS := (sSeq (sIf (tNotA (tE (eCall M_is_name (aCons (eVar 0) aNil)))) (sRaise (mkXA 2 ["what"] (aCons (eC (.str "name")) aNil))) sNil)
  (sRet (eCall tupleA (aCons (eVar 0) aNil))))
def F_row_name : AF := fnA 1 1 b_row_name
def M_row_name : AF := isoF F_row_name
theorem sc_row_name : FnScope ["name"] ["name"] (defScope s_row_name) := ⟨rfl, rfl, rfl, by decide +kernel, rfl, by decide +kernel, by decide +kernel⟩
set_option maxHeartbeats 40000000 in
theorem ok_row_name {P : Program} {w : World} {K : Frg} {mg : Str → Option Value} {base : Heap} {h : Heap} (z : Zz K mg h) : Fn P w K mg base (CT K w) 3 (He.fAd K ("row_name", none)) 1 M_row_name := by
  obtain ⟨fd, F⟩ := z.c.def_ 60 (at_ := ("row_name", none)) (name := "row_name") (qual := "row_name") (st := s_row_name)
  refine Fn.iso (fn_mk (k := 2) F sc_row_name rfl rfl (F.binds (ps := ["name"]) fun _ _ _ _ _ _ us hl => match us, hl with | [_], _ => rfl) (fun cdv A outer s H E hr ok => ?_))
  have nd := sc_row_name.nd
  have tk := z.c.tabOk w
  have hu := hr.un
  unfold b_row_name
  exact (sss_cons (ss_if (st_not (st_val (se_call ok (ok_is_name z) (hr.mono (by decide)) (z.c.glo z.X z.G 38) (sa_cons (se_var 0) sa_nil)))) (sss_one (ss_raise ok (sm_make (c := 2) ok (xi_BadRow z) (oexB_ok (z.c.fact (f := .oex "BadRow") 75)) (z.c.ini (x := "BadRow") 74).1 (z.c.ini (x := "BadRow") 74).2 (hr.mono (by decide)) (z.c.glo z.X z.G 77) (sa_cons se_str sa_nil)))) sss_nil)
      (sss_one (ss_ret (se_callTy call_tuple_of cs_tuple (z.c.free z.X z.G 37) bt_tuple (sa_cons (se_var 0) sa_nil)))))
/-! Valued.__init__ -/
abbrev s_Valued_init : Stmt := inClass (top 19) 0
def b_Valued_init : AS := (sSeq (sFldA TT "name" (eVar 0) (eCall M_row_name (aCons (eVar 1) aNil)))
  (sSeq (sFldA TT "thing" (eVar 0) (eVar 2))
  (sIf (tNotA (tE (eCall M_is_number (aCons (eVar 2) aNil)))) (sRaise (mkXA 2 ["what"] (aCons (eC (.str "thing")) aNil))) sNil)))
def F_Valued_init : AF := fnA 3 3 b_Valued_init
abbrev M_Valued_init : AF := F_Valued_init
theorem sim_Valued_init : SimQ F_Valued_init M_Valued_init := SimQ.rfl'
theorem sc_Valued_init : FnScope ["self", "name", "thing"] ["self", "name", "thing"] (defScope s_Valued_init) := ⟨rfl, rfl, rfl, by decide +kernel, rfl, by decide +kernel, by decide +kernel⟩
set_option maxHeartbeats 40000000 in
theorem ok_Valued_init {P : Program} {w : World} {K : Frg} {mg : Str → Option Value} {base : Heap} {h : Heap} (z : Zz K mg h) : Fn P w K mg base (CT K w) 4 (He.fAd K ("Valued", some "__init__")) 3 M_Valued_init := by
  obtain ⟨fd, F⟩ := z.c.def_ 61 (at_ := ("Valued", some "__init__")) (name := "__init__") (qual := "Valued.__init__") (st := s_Valued_init)
  refine Fn.simQ (fn_mk (k := 3) F sc_Valued_init rfl rfl (F.binds (ps := ["self", "name", "thing"]) fun _ _ _ _ _ _ us hl => match us, hl with | [_, _, _], _ => rfl) (fun cdv A outer s H E hr ok => ?_)) sim_Valued_init
  have nd := sc_Valued_init.nd
  have tk := z.c.tabOk w
  have hu := hr.un
  unfold b_Valued_init
  exact (sss_cons (ss_fld tk (se_var 0) (se_call ok (ok_row_name z) (hr.mono (by decide)) (z.c.glo z.X z.G 78) (sa_cons (se_var 1) sa_nil)))
      (sss_cons (ss_fld tk (se_var 0) (se_var 2))
      (sss_one (ss_if (st_not (st_val (se_call ok (ok_is_number z) (hr.mono (by decide)) (z.c.glo z.X z.G 73) (sa_cons (se_var 2) sa_nil)))) (sss_one (ss_raise ok (sm_make (c := 2) ok (xi_BadRow z) (oexB_ok (z.c.fact (f := .oex "BadRow") 75)) (z.c.ini (x := "BadRow") 74).1 (z.c.ini (x := "BadRow") 74).2 (hr.mono (by decide)) (z.c.glo z.X z.G 77) (sa_cons se_str sa_nil)))) sss_nil))))
/-! Turned.__init__ -/
abbrev s_Turned_init : Stmt := inClass (top 20) 0
def b_Turned_init : AS := (sSeq (sFldA TT "name" (eVar 0) (eCall M_row_name (aCons (eVar 1) aNil)))
  (sSeq (sIf (tNotA (tE (eCall M_is_name (aCons (eVar 2) aNil)))) (sRaise (mkXA 2 ["what"] (aCons (eC (.str "target")) aNil))) sNil)
  (sFldA TT "target" (eVar 0) (eCall tupleA (aCons (eVar 2) aNil)))))
def F_Turned_init : AF := fnA 3 3 b_Turned_init
abbrev M_Turned_init : AF := F_Turned_init
theorem sim_Turned_init : SimQ F_Turned_init M_Turned_init := SimQ.rfl'
theorem sc_Turned_init : FnScope ["self", "name", "target"] ["self", "name", "target"] (defScope s_Turned_init) := ⟨rfl, rfl, rfl, by decide +kernel, rfl, by decide +kernel, by decide +kernel⟩
set_option maxHeartbeats 40000000 in
theorem ok_Turned_init {P : Program} {w : World} {K : Frg} {mg : Str → Option Value} {base : Heap} {h : Heap} (z : Zz K mg h) : Fn P w K mg base (CT K w) 4 (He.fAd K ("Turned", some "__init__")) 3 M_Turned_init := by
  obtain ⟨fd, F⟩ := z.c.def_ 62 (at_ := ("Turned", some "__init__")) (name := "__init__") (qual := "Turned.__init__") (st := s_Turned_init)
  refine Fn.simQ (fn_mk (k := 3) F sc_Turned_init rfl rfl (F.binds (ps := ["self", "name", "target"]) fun _ _ _ _ _ _ us hl => match us, hl with | [_, _, _], _ => rfl) (fun cdv A outer s H E hr ok => ?_)) sim_Turned_init
  have nd := sc_Turned_init.nd
  have tk := z.c.tabOk w
  have hu := hr.un
  unfold b_Turned_init
  exact (sss_cons (ss_fld tk (se_var 0) (se_call ok (ok_row_name z) (hr.mono (by decide)) (z.c.glo z.X z.G 78) (sa_cons (se_var 1) sa_nil)))
      (sss_cons (ss_if (st_not (st_val (se_call ok (ok_is_name z) (hr.mono (by decide)) (z.c.glo z.X z.G 38) (sa_cons (se_var 2) sa_nil)))) (sss_one (ss_raise ok (sm_make (c := 2) ok (xi_BadRow z) (oexB_ok (z.c.fact (f := .oex "BadRow") 75)) (z.c.ini (x := "BadRow") 74).1 (z.c.ini (x := "BadRow") 74).2 (hr.mono (by decide)) (z.c.glo z.X z.G 77) (sa_cons se_str sa_nil)))) sss_nil)
      (sss_one (ss_fld tk (se_var 0) (se_callTy call_tuple_of cs_tuple (z.c.free z.X z.G 37) bt_tuple (sa_cons (se_var 2) sa_nil))))))
theorem mk_Rest {K : Frg} {mg : Str → Option Value} {h : Heap} (z : Zz K mg h) : Mk K (He.ga K "Rest") (He.ma K (He.ga K "Valued") "__init__") := by
  have e : He.ma K (He.ga K "Rest") "__init__" = He.ma K (He.ga K "Valued") "__init__" := of_decide_eq_true (z.c.fact (f := .same "Rest" "__init__" "Valued" "__init__") 88)
  have m : Mk K (He.ga K "Rest") (He.ma K (He.ga K "Rest") "__init__") := He.mkr_ok (z.c.fact (f := .fa (.mkr "Rest")) 5)
  rw [e] at m
  exact m
def F_Rest : AF := mkA 8 true M_Valued_init
def M_Rest : AF := gcS F_Rest
theorem sim_Rest : SimQ (mkA 8 true M_Valued_init) M_Rest := gcS_sim _
theorem mk_Table {K : Frg} {mg : Str → Option Value} {h : Heap} (z : Zz K mg h) : Mk K (He.ga K "Table") (He.ma K (He.ga K "Table") "__init__") := by
  have e : He.ma K (He.ga K "Table") "__init__" = He.ma K (He.ga K "Table") "__init__" := of_decide_eq_true (z.c.fact (f := .same "Table" "__init__" "Table" "__init__") 89)
  have m : Mk K (He.ga K "Table") (He.ma K (He.ga K "Table") "__init__") := He.mkr_ok (z.c.fact (f := .fa (.mkr "Table")) 7)
  rw [e] at m
  exact m
def F_Table : AF := mkA 12 true M_Table_init
def M_Table : AF := stf F_Table
theorem sim_Table : SimQ (mkA 12 true M_Table_init) M_Table := stf_sim _
theorem mk_Other {K : Frg} {mg : Str → Option Value} {h : Heap} (z : Zz K mg h) : Mk K (He.ga K "Other") (He.ma K (He.ga K "Turned") "__init__") := by
  have e : He.ma K (He.ga K "Other") "__init__" = He.ma K (He.ga K "Turned") "__init__" := of_decide_eq_true (z.c.fact (f := .same "Other" "__init__" "Turned" "__init__") 90)
  have m : Mk K (He.ga K "Other") (He.ma K (He.ga K "Other") "__init__") := He.mkr_ok (z.c.fact (f := .fa (.mkr "Other")) 10)
  rw [e] at m
  exact m
def F_Other : AF := mkA 9 true M_Turned_init
def M_Other : AF := gcS F_Other
theorem sim_Other : SimQ (mkA 9 true M_Turned_init) M_Other := gcS_sim _
theorem mk_Lead {K : Frg} {mg : Str → Option Value} {h : Heap} (z : Zz K mg h) : Mk K (He.ga K "Lead") (He.ma K (He.ga K "Turned") "__init__") := by
  have e : He.ma K (He.ga K "Lead") "__init__" = He.ma K (He.ga K "Turned") "__init__" := of_decide_eq_true (z.c.fact (f := .same "Lead" "__init__" "Turned" "__init__") 91)
  have m : Mk K (He.ga K "Lead") (He.ma K (He.ga K "Lead") "__init__") := He.mkr_ok (z.c.fact (f := .fa (.mkr "Lead")) 12)
  rw [e] at m
  exact m
def F_Lead : AF := mkA 10 true M_Turned_init
def M_Lead : AF := gcS F_Lead
theorem sim_Lead : SimQ (mkA 10 true M_Turned_init) M_Lead := gcS_sim _
theorem mk_Thing {K : Frg} {mg : Str → Option Value} {h : Heap} (z : Zz K mg h) : Mk K (He.ga K "Thing") (He.ma K (He.ga K "Valued") "__init__") := by
  have e : He.ma K (He.ga K "Thing") "__init__" = He.ma K (He.ga K "Valued") "__init__" := of_decide_eq_true (z.c.fact (f := .same "Thing" "__init__" "Valued" "__init__") 92)
  have m : Mk K (He.ga K "Thing") (He.ma K (He.ga K "Thing") "__init__") := He.mkr_ok (z.c.fact (f := .fa (.mkr "Thing")) 14)
  rw [e] at m
  exact m
def F_Thing : AF := mkA 7 true M_Valued_init
def M_Thing : AF := gcS F_Thing
theorem sim_Thing : SimQ (mkA 7 true M_Valued_init) M_Thing := gcS_sim _
/-! _law_behind_right -/
abbrev s_L_behind_right : Stmt := top 55
def b_L_behind_right : AS := (sSeq (sAsg (gT 3 (gsC (gN 5) (gsC (gN 6) (gsC (gN 7) gsN)))) (eTup (aCons (eTup (aCons (eC (.str "nothing")) aNil)) (aCons (eTup (aCons (eC (.str "round")) aNil)) (aCons (eTup (aCons (eC (.str "grows")) aNil)) aNil)))))
  (sSeq (sSet 3 (eCall M_Table (aCons (eLst (aCons (eCall M_Lead (aCons (eTup (aCons (eVar 0) aNil)) (aCons (eTup (aCons (eVar 1) (aCons (eVar 2) aNil))) aNil))) (aCons (eCall M_Lead (aCons (eTup (aCons (eVar 1) aNil)) (aCons (eTup aNil) aNil))) (aCons (eCall M_Rest (aCons (eTup (aCons (eVar 2) aNil)) (aCons (eC (.int 8)) aNil))) (aCons (eCall M_Thing (aCons (eTup (aCons (eVar 2) (aCons (eVar 2) aNil))) (aCons (eC (.int 9)) aNil))) (aCons (eCall M_Lead (aCons (eTup (aCons (eVar 2) (aCons (eVar 0) aNil))) (aCons (eTup (aCons (eVar 2) aNil)) aNil))) aNil)))))) aNil)))
  (sSeq (sSet 4 (eLst (aCons (eTup (aCons (eTup (aCons (eVar 0) (aCons (eVar 2) aNil))) (aCons (eTup (aCons (eC (.str "thing")) (aCons (eC (.int 9)) aNil))) (aCons (eC (.int 2)) (aCons (eTup (aCons (eC (.str "node")) (aCons (eTup (aCons (eVar 2) (aCons (eVar 2) aNil))) aNil))) aNil))))) (aCons (eTup (aCons (eTup (aCons (eVar 0) (aCons (eVar 0) (aCons (eVar 2) aNil)))) (aCons (eTup (aCons (eC (.str "thing")) (aCons (eC (.int 9)) aNil))) (aCons (eC (.int 3)) (aCons (eTup (aCons (eC (.str "node")) (aCons (eTup (aCons (eVar 2) (aCons (eVar 2) aNil))) aNil))) aNil))))) aNil))))
  (sSeq (sSet 4 (eBin addA (eVar 4) (eLst (aCons (eTup (aCons (eTup (aCons (eVar 0) (aCons (eVar 1) aNil))) (aCons (eTup (aCons (eC (.str "thing")) (aCons (eC (.int 8)) aNil))) (aCons (eC (.int 2)) (aCons (eTup (aCons (eC (.str "all")) (aCons (eTup (aCons (eC (.str "thing")) (aCons (eC (.int 8)) aNil))) aNil))) aNil))))) (aCons (eTup (aCons (eTup (aCons (eVar 0) (aCons (eVar 0) (aCons (eVar 0) (aCons (eVar 0) aNil))))) (aCons (eVar 5) (aCons (eC (.int 4)) (aCons (eTup (aCons (eC (.str "node")) (aCons (eTup (aCons (eVar 2) aNil)) aNil))) aNil))))) aNil)))))
  (sSeq (sSet 4 (eBin addA (eVar 4) (eLst (aCons (eTup (aCons (eTup (aCons (eVar 1) (aCons (eVar 1) (aCons (eVar 1) (aCons (eVar 2) aNil))))) (aCons (eVar 5) (aCons (eC (.int 3)) (aCons (eTup (aCons (eC (.str "node")) (aCons (eTup (aCons (eVar 2) aNil)) aNil))) aNil))))) (aCons (eTup (aCons (eTup (aCons (eVar 2) (aCons (eVar 0) aNil))) (aCons (eVar 5) (aCons (eC (.int 0)) (aCons (eTup (aCons (eC (.str "node")) (aCons (eTup (aCons (eVar 2) aNil)) aNil))) aNil))))) aNil)))))
  (sSeq (sIf (tNotA (tE (eCall M_L_told (aCons (eVar 3) (aCons (eVar 4) aNil))))) (sRet (eC (.bl false))) sNil)
  (sSeq (sSet 3 (eCall M_Table (aCons (eLst (aCons (eCall M_Lead (aCons (eTup aNil) (aCons (eTup (aCons (eVar 0) (aCons (eVar 1) aNil))) aNil))) (aCons (eCall M_Other (aCons (eTup aNil) (aCons (eTup (aCons (eVar 2) aNil)) aNil))) aNil))) aNil)))
  (sSeq (sIf (tNotA (tE (eCall M_L_told (aCons (eVar 3) (aCons (eLst (aCons (eTup (aCons (eTup aNil) (aCons (eVar 7) (aCons (eC .non) (aCons (eTup (aCons (eC (.str "all")) (aCons (eVar 7) aNil))) aNil))))) (aCons (eTup (aCons (eTup (aCons (eVar 1) aNil)) (aCons (eVar 7) (aCons (eC .non) (aCons (eTup (aCons (eC (.str "all")) (aCons (eVar 7) aNil))) aNil))))) aNil))) aNil))))) (sRet (eC (.bl false))) sNil)
  (sSeq (sSet 3 (eCall M_Table (aCons (eLst (aCons (eCall M_Lead (aCons (eTup aNil) (aCons (eTup aNil) aNil))) (aCons (eCall M_Other (aCons (eTup aNil) (aCons (eTup aNil) aNil))) aNil))) aNil)))
  (sSeq (sIf (tNotA (tE (eCall M_L_told (aCons (eVar 3) (aCons (eLst (aCons (eTup (aCons (eTup aNil) (aCons (eVar 6) (aCons (eC .non) (aCons (eTup (aCons (eC (.str "all")) (aCons (eVar 6) aNil))) aNil))))) (aCons (eTup (aCons (eTup (aCons (eVar 2) (aCons (eVar 2) aNil))) (aCons (eVar 6) (aCons (eC .non) (aCons (eTup (aCons (eC (.str "all")) (aCons (eVar 6) aNil))) aNil))))) aNil))) aNil))))) (sRet (eC (.bl false))) sNil)
  (sSeq (sSet 4 (eLst (aCons (eTup (aCons (eTup aNil) (aCons (eVar 5) (aCons (eC (.int 0)) (aCons (eTup (aCons (eC (.str "node")) (aCons (eTup aNil) aNil))) aNil))))) (aCons (eTup (aCons (eTup (aCons (eVar 0) aNil)) (aCons (eTup (aCons (eC (.str "thing")) (aCons (eC (.int 0)) aNil))) (aCons (eC (.int 0)) (aCons (eTup (aCons (eC (.str "all")) (aCons (eTup (aCons (eC (.str "thing")) (aCons (eC (.int 0)) aNil))) aNil))) aNil))))) aNil))))
  (sRet (eCall M_L_told (aCons (eCall M_Table (aCons (eLst (aCons (eCall M_Rest (aCons (eTup aNil) (aCons (eC (.int 0)) aNil))) aNil)) aNil)) (aCons (eVar 4) aNil)))))))))))))))
def F_L_behind_right : AF := fnA 3 8 b_L_behind_right
def M_L_behind_right : AF := isoF F_L_behind_right
theorem sc_L_behind_right : FnScope ["_law_x", "_law_y", "_law_z", "_law_board", "_law_rows", "_law_none", "_law_ring", "_law_grow"] ["_law_x", "_law_y", "_law_z"] (defScope s_L_behind_right) := ⟨rfl, rfl, rfl, by decide +kernel, rfl, by decide +kernel, by decide +kernel⟩
set_option maxHeartbeats 40000000 in
theorem ok_L_behind_right {P : Program} {w : World} {K : Frg} {mg : Str → Option Value} {base : Heap} {h : Heap} (z : Zz K mg h) : Fn P w K mg base (CT K w) 13 (He.fAd K ("_law_behind_right", none)) 3 M_L_behind_right := by
  obtain ⟨fd, F⟩ := z.c.def_ 63 (at_ := ("_law_behind_right", none)) (name := "_law_behind_right") (qual := "_law_behind_right") (st := s_L_behind_right)
  refine Fn.iso (fn_mk (k := 12) F sc_L_behind_right rfl rfl (F.binds (ps := ["_law_x", "_law_y", "_law_z"]) fun _ _ _ _ _ _ us hl => match us, hl with | [_, _, _], _ => rfl) (fun cdv A outer s H E hr ok => ?_))
  have nd := sc_L_behind_right.nd
  have tk := z.c.tabOk w
  have hu := hr.un
  unfold b_L_behind_right
  exact (sss_cons (ss_asg (se_tup (sa_cons (se_tup (sa_cons se_str sa_nil)) (sa_cons (se_tup (sa_cons se_str sa_nil)) (sa_cons (se_tup (sa_cons se_str sa_nil)) sa_nil)))) (sg_tup (sgs_cons (sg_name 5 nd) (sgs_cons (sg_name 6 nd) (sgs_cons (sg_name 7 nd) sgs_nil)))))
      (sss_cons (ss_set 3 (se_make (c := 12) ok (mk_Table z) (ok_Table_init z) sim_Table (hr.mono (by decide)) (z.c.glo z.X z.G 8) (sa_cons (se_lst (sa_cons (se_make (c := 10) ok (mk_Lead z) (ok_Turned_init z) sim_Lead (hr.mono (by decide)) (z.c.glo z.X z.G 13) (sa_cons (se_tup (sa_cons (se_var 0) sa_nil)) (sa_cons (se_tup (sa_cons (se_var 1) (sa_cons (se_var 2) sa_nil))) sa_nil))) (sa_cons (se_make (c := 10) ok (mk_Lead z) (ok_Turned_init z) sim_Lead (hr.mono (by decide)) (z.c.glo z.X z.G 13) (sa_cons (se_tup (sa_cons (se_var 1) sa_nil)) (sa_cons (se_tup sa_nil) sa_nil))) (sa_cons (se_make (c := 8) ok (mk_Rest z) (ok_Valued_init z) sim_Rest (hr.mono (by decide)) (z.c.glo z.X z.G 6) (sa_cons (se_tup (sa_cons (se_var 2) sa_nil)) (sa_cons se_int sa_nil))) (sa_cons (se_make (c := 7) ok (mk_Thing z) (ok_Valued_init z) sim_Thing (hr.mono (by decide)) (z.c.glo z.X z.G 15) (sa_cons (se_tup (sa_cons (se_var 2) (sa_cons (se_var 2) sa_nil))) (sa_cons se_int sa_nil))) (sa_cons (se_make (c := 10) ok (mk_Lead z) (ok_Turned_init z) sim_Lead (hr.mono (by decide)) (z.c.glo z.X z.G 13) (sa_cons (se_tup (sa_cons (se_var 2) (sa_cons (se_var 0) sa_nil))) (sa_cons (se_tup (sa_cons (se_var 2) sa_nil)) sa_nil))) sa_nil)))))) sa_nil)) nd)
      (sss_cons (ss_set 4 (se_lst (sa_cons (se_tup (sa_cons (se_tup (sa_cons (se_var 0) (sa_cons (se_var 2) sa_nil))) (sa_cons (se_tup (sa_cons se_str (sa_cons se_int sa_nil))) (sa_cons se_int (sa_cons (se_tup (sa_cons se_str (sa_cons (se_tup (sa_cons (se_var 2) (sa_cons (se_var 2) sa_nil))) sa_nil))) sa_nil))))) (sa_cons (se_tup (sa_cons (se_tup (sa_cons (se_var 0) (sa_cons (se_var 0) (sa_cons (se_var 2) sa_nil)))) (sa_cons (se_tup (sa_cons se_str (sa_cons se_int sa_nil))) (sa_cons se_int (sa_cons (se_tup (sa_cons se_str (sa_cons (se_tup (sa_cons (se_var 2) (sa_cons (se_var 2) sa_nil))) sa_nil))) sa_nil))))) sa_nil))) nd)
      (sss_cons (ss_set 4 (se_bin op_addA os_add (se_var 4) (se_lst (sa_cons (se_tup (sa_cons (se_tup (sa_cons (se_var 0) (sa_cons (se_var 1) sa_nil))) (sa_cons (se_tup (sa_cons se_str (sa_cons se_int sa_nil))) (sa_cons se_int (sa_cons (se_tup (sa_cons se_str (sa_cons (se_tup (sa_cons se_str (sa_cons se_int sa_nil))) sa_nil))) sa_nil))))) (sa_cons (se_tup (sa_cons (se_tup (sa_cons (se_var 0) (sa_cons (se_var 0) (sa_cons (se_var 0) (sa_cons (se_var 0) sa_nil))))) (sa_cons (se_var 5) (sa_cons se_int (sa_cons (se_tup (sa_cons se_str (sa_cons (se_tup (sa_cons (se_var 2) sa_nil)) sa_nil))) sa_nil))))) sa_nil)))) nd)
      (sss_cons (ss_set 4 (se_bin op_addA os_add (se_var 4) (se_lst (sa_cons (se_tup (sa_cons (se_tup (sa_cons (se_var 1) (sa_cons (se_var 1) (sa_cons (se_var 1) (sa_cons (se_var 2) sa_nil))))) (sa_cons (se_var 5) (sa_cons se_int (sa_cons (se_tup (sa_cons se_str (sa_cons (se_tup (sa_cons (se_var 2) sa_nil)) sa_nil))) sa_nil))))) (sa_cons (se_tup (sa_cons (se_tup (sa_cons (se_var 2) (sa_cons (se_var 0) sa_nil))) (sa_cons (se_var 5) (sa_cons se_int (sa_cons (se_tup (sa_cons se_str (sa_cons (se_tup (sa_cons (se_var 2) sa_nil)) sa_nil))) sa_nil))))) sa_nil)))) nd)
      (sss_cons (ss_if (st_not (st_val (se_call ok (ok_L_told z) (hr.mono (by decide)) (z.c.glo z.X z.G 9) (sa_cons (se_var 3) (sa_cons (se_var 4) sa_nil))))) (sss_one (ss_ret se_bl)) sss_nil)
      (sss_cons (ss_set 3 (se_make (c := 12) ok (mk_Table z) (ok_Table_init z) sim_Table (hr.mono (by decide)) (z.c.glo z.X z.G 8) (sa_cons (se_lst (sa_cons (se_make (c := 10) ok (mk_Lead z) (ok_Turned_init z) sim_Lead (hr.mono (by decide)) (z.c.glo z.X z.G 13) (sa_cons (se_tup sa_nil) (sa_cons (se_tup (sa_cons (se_var 0) (sa_cons (se_var 1) sa_nil))) sa_nil))) (sa_cons (se_make (c := 9) ok (mk_Other z) (ok_Turned_init z) sim_Other (hr.mono (by decide)) (z.c.glo z.X z.G 11) (sa_cons (se_tup sa_nil) (sa_cons (se_tup (sa_cons (se_var 2) sa_nil)) sa_nil))) sa_nil))) sa_nil)) nd)
      (sss_cons (ss_if (st_not (st_val (se_call ok (ok_L_told z) (hr.mono (by decide)) (z.c.glo z.X z.G 9) (sa_cons (se_var 3) (sa_cons (se_lst (sa_cons (se_tup (sa_cons (se_tup sa_nil) (sa_cons (se_var 7) (sa_cons se_non (sa_cons (se_tup (sa_cons se_str (sa_cons (se_var 7) sa_nil))) sa_nil))))) (sa_cons (se_tup (sa_cons (se_tup (sa_cons (se_var 1) sa_nil)) (sa_cons (se_var 7) (sa_cons se_non (sa_cons (se_tup (sa_cons se_str (sa_cons (se_var 7) sa_nil))) sa_nil))))) sa_nil))) sa_nil))))) (sss_one (ss_ret se_bl)) sss_nil)
      (sss_cons (ss_set 3 (se_make (c := 12) ok (mk_Table z) (ok_Table_init z) sim_Table (hr.mono (by decide)) (z.c.glo z.X z.G 8) (sa_cons (se_lst (sa_cons (se_make (c := 10) ok (mk_Lead z) (ok_Turned_init z) sim_Lead (hr.mono (by decide)) (z.c.glo z.X z.G 13) (sa_cons (se_tup sa_nil) (sa_cons (se_tup sa_nil) sa_nil))) (sa_cons (se_make (c := 9) ok (mk_Other z) (ok_Turned_init z) sim_Other (hr.mono (by decide)) (z.c.glo z.X z.G 11) (sa_cons (se_tup sa_nil) (sa_cons (se_tup sa_nil) sa_nil))) sa_nil))) sa_nil)) nd)
      (sss_cons (ss_if (st_not (st_val (se_call ok (ok_L_told z) (hr.mono (by decide)) (z.c.glo z.X z.G 9) (sa_cons (se_var 3) (sa_cons (se_lst (sa_cons (se_tup (sa_cons (se_tup sa_nil) (sa_cons (se_var 6) (sa_cons se_non (sa_cons (se_tup (sa_cons se_str (sa_cons (se_var 6) sa_nil))) sa_nil))))) (sa_cons (se_tup (sa_cons (se_tup (sa_cons (se_var 2) (sa_cons (se_var 2) sa_nil))) (sa_cons (se_var 6) (sa_cons se_non (sa_cons (se_tup (sa_cons se_str (sa_cons (se_var 6) sa_nil))) sa_nil))))) sa_nil))) sa_nil))))) (sss_one (ss_ret se_bl)) sss_nil)
      (sss_cons (ss_set 4 (se_lst (sa_cons (se_tup (sa_cons (se_tup sa_nil) (sa_cons (se_var 5) (sa_cons se_int (sa_cons (se_tup (sa_cons se_str (sa_cons (se_tup sa_nil) sa_nil))) sa_nil))))) (sa_cons (se_tup (sa_cons (se_tup (sa_cons (se_var 0) sa_nil)) (sa_cons (se_tup (sa_cons se_str (sa_cons se_int sa_nil))) (sa_cons se_int (sa_cons (se_tup (sa_cons se_str (sa_cons (se_tup (sa_cons se_str (sa_cons se_int sa_nil))) sa_nil))) sa_nil))))) sa_nil))) nd)
      (sss_one (ss_ret (se_call ok (ok_L_told z) (hr.mono (by decide)) (z.c.glo z.X z.G 9) (sa_cons (se_make (c := 12) ok (mk_Table z) (ok_Table_init z) sim_Table (hr.mono (by decide)) (z.c.glo z.X z.G 8) (sa_cons (se_lst (sa_cons (se_make (c := 8) ok (mk_Rest z) (ok_Valued_init z) sim_Rest (hr.mono (by decide)) (z.c.glo z.X z.G 6) (sa_cons (se_tup sa_nil) (sa_cons se_int sa_nil))) sa_nil)) sa_nil)) (sa_cons (se_var 4) sa_nil))))))))))))))))
/-! Stop.__init__ -/
abbrev s_Stop_init : Stmt := inClass (top 25) 0
def b_Stop_init : AS := (sFldA TT "name" (eVar 0) (eCall M_row_name (aCons (eVar 1) aNil)))
def F_Stop_init : AF := fnA 2 2 b_Stop_init
abbrev M_Stop_init : AF := F_Stop_init
theorem sim_Stop_init : SimQ F_Stop_init M_Stop_init := SimQ.rfl'
theorem sc_Stop_init : FnScope ["self", "name"] ["self", "name"] (defScope s_Stop_init) := ⟨rfl, rfl, rfl, by decide +kernel, rfl, by decide +kernel, by decide +kernel⟩
set_option maxHeartbeats 40000000 in
theorem ok_Stop_init {P : Program} {w : World} {K : Frg} {mg : Str → Option Value} {base : Heap} {h : Heap} (z : Zz K mg h) : Fn P w K mg base (CT K w) 4 (He.fAd K ("Stop", some "__init__")) 2 M_Stop_init := by
  obtain ⟨fd, F⟩ := z.c.def_ 64 (at_ := ("Stop", some "__init__")) (name := "__init__") (qual := "Stop.__init__") (st := s_Stop_init)
  refine Fn.simQ (fn_mk (k := 3) F sc_Stop_init rfl rfl (F.binds (ps := ["self", "name"]) fun _ _ _ _ _ _ us hl => match us, hl with | [_, _], _ => rfl) (fun cdv A outer s H E hr ok => ?_)) sim_Stop_init
  have nd := sc_Stop_init.nd
  have tk := z.c.tabOk w
  have hu := hr.un
  unfold b_Stop_init
  exact (sss_one (ss_fld tk (se_var 0) (se_call ok (ok_row_name z) (hr.mono (by decide)) (z.c.glo z.X z.G 78) (sa_cons (se_var 1) sa_nil))))
theorem mk_Stop {K : Frg} {mg : Str → Option Value} {h : Heap} (z : Zz K mg h) : Mk K (He.ga K "Stop") (He.ma K (He.ga K "Stop") "__init__") := by
  have e : He.ma K (He.ga K "Stop") "__init__" = He.ma K (He.ga K "Stop") "__init__" := of_decide_eq_true (z.c.fact (f := .same "Stop" "__init__" "Stop" "__init__") 93)
  have m : Mk K (He.ga K "Stop") (He.ma K (He.ga K "Stop") "__init__") := He.mkr_ok (z.c.fact (f := .fa (.mkr "Stop")) 81)
  rw [e] at m
  exact m
def F_Stop : AF := mkA 11 true M_Stop_init
def M_Stop : AF := gcS F_Stop
theorem sim_Stop : SimQ (mkA 11 true M_Stop_init) M_Stop := gcS_sim _
/-! _law_others_right -/
abbrev s_L_others_right : Stmt := top 54
def b_L_others_right : AS := (sSeq (sAsg (gT 3 (gsC (gN 5) (gsC (gN 6) (gsC (gN 7) gsN)))) (eTup (aCons (eTup (aCons (eC (.str "nothing")) aNil)) (aCons (eTup (aCons (eC (.str "round")) aNil)) (aCons (eTup (aCons (eC (.str "grows")) aNil)) aNil)))))
  (sSeq (sSet 3 (eLst (aCons (eCall M_Other (aCons (eTup aNil) (aCons (eTup (aCons (eVar 0) (aCons (eVar 1) aNil))) aNil))) (aCons (eCall M_Lead (aCons (eTup (aCons (eVar 0) aNil)) (aCons (eTup (aCons (eVar 2) (aCons (eVar 2) aNil))) aNil))) (aCons (eCall M_Other (aCons (eTup (aCons (eVar 2) (aCons (eVar 2) (aCons (eVar 1) aNil)))) (aCons (eTup aNil) aNil))) (aCons (eCall M_Rest (aCons (eTup (aCons (eVar 2) (aCons (eVar 2) aNil))) (aCons (eC (.int 3)) aNil))) (aCons (eCall M_Other (aCons (eTup (aCons (eVar 0) aNil)) (aCons (eTup (aCons (eVar 2) (aCons (eVar 2) (aCons (eVar 0) aNil)))) aNil))) aNil)))))))
  (sSeq (sSet 4 (eCall M_Table (aCons (eVar 3) aNil)))
  (sSeq (sSet 3 (eLst (aCons (eTup (aCons (eTup aNil) (aCons (eVar 6) (aCons (eC .non) (aCons (eTup (aCons (eC (.str "node")) (aCons (eTup aNil) aNil))) aNil))))) (aCons (eTup (aCons (eTup (aCons (eVar 0) (aCons (eVar 1) aNil))) (aCons (eVar 6) (aCons (eC .non) (aCons (eTup (aCons (eC (.str "node")) (aCons (eTup (aCons (eVar 2) (aCons (eVar 2) (aCons (eVar 1) aNil)))) aNil))) aNil))))) aNil))))
  (sSeq (sDrop (eBM "list" appendA (eVar 3) (aCons (eTup (aCons (eTup (aCons (eVar 2) (aCons (eVar 2) (aCons (eVar 1) aNil)))) (aCons (eVar 6) (aCons (eC .non) (aCons (eTup (aCons (eC (.str "node")) (aCons (eTup (aCons (eVar 2) (aCons (eVar 2) (aCons (eVar 1) aNil)))) aNil))) aNil))))) aNil)))
  (sSeq (sSet 3 (eBin addA (eVar 3) (eLst (aCons (eTup (aCons (eTup (aCons (eVar 0) (aCons (eVar 0) aNil))) (aCons (eTup (aCons (eC (.str "thing")) (aCons (eC (.int 3)) aNil))) (aCons (eC (.int 1)) (aCons (eTup (aCons (eC (.str "all")) (aCons (eTup (aCons (eC (.str "thing")) (aCons (eC (.int 3)) aNil))) aNil))) aNil))))) (aCons (eTup (aCons (eTup (aCons (eVar 0) aNil)) (aCons (eTup (aCons (eC (.str "thing")) (aCons (eC (.int 3)) aNil))) (aCons (eC (.int 1)) (aCons (eTup (aCons (eC (.str "node")) (aCons (eTup (aCons (eVar 2) (aCons (eVar 2) aNil))) aNil))) aNil))))) aNil)))))
  (sSeq (sSet 3 (eBin addA (eVar 3) (eLst (aCons (eTup (aCons (eTup (aCons (eVar 0) (aCons (eVar 1) (aCons (eVar 1) aNil)))) (aCons (eVar 5) (aCons (eC (.int 1)) (aCons (eTup (aCons (eC (.str "all")) (aCons (eVar 5) aNil))) aNil))))) (aCons (eTup (aCons (eTup (aCons (eVar 2) aNil)) (aCons (eVar 5) (aCons (eC (.int 0)) (aCons (eTup (aCons (eC (.str "node")) (aCons (eTup (aCons (eVar 2) aNil)) aNil))) aNil))))) aNil)))))
  (sSeq (sIf (tNotA (tE (eCall M_L_told (aCons (eVar 4) (aCons (eVar 3) aNil))))) (sRet (eC (.bl false))) sNil)
  (sSeq (sSet 4 (eCall M_Table (aCons (eLst (aCons (eCall M_Other (aCons (eTup (aCons (eVar 0) aNil)) (aCons (eTup (aCons (eVar 1) (aCons (eVar 2) aNil))) aNil))) (aCons (eCall M_Lead (aCons (eTup (aCons (eVar 1) aNil)) (aCons (eTup (aCons (eVar 1) (aCons (eVar 1) aNil))) aNil))) (aCons (eCall M_Other (aCons (eTup (aCons (eVar 1) aNil)) (aCons (eTup (aCons (eVar 1) aNil)) aNil))) (aCons (eCall M_Other (aCons (eTup (aCons (eVar 2) aNil)) (aCons (eTup (aCons (eVar 0) aNil)) aNil))) (aCons (eCall M_Stop (aCons (eTup (aCons (eVar 0) (aCons (eVar 2) aNil))) aNil)) aNil)))))) aNil)))
  (sSeq (sSet 3 (eLst (aCons (eTup (aCons (eTup (aCons (eVar 0) aNil)) (aCons (eVar 7) (aCons (eC .non) (aCons (eTup (aCons (eC (.str "node")) (aCons (eTup (aCons (eVar 0) aNil)) aNil))) aNil))))) (aCons (eTup (aCons (eTup (aCons (eVar 2) aNil)) (aCons (eVar 7) (aCons (eC .non) (aCons (eTup (aCons (eC (.str "node")) (aCons (eTup (aCons (eVar 2) aNil)) aNil))) aNil))))) (aCons (eTup (aCons (eTup (aCons (eVar 1) aNil)) (aCons (eVar 6) (aCons (eC .non) (aCons (eTup (aCons (eC (.str "all")) (aCons (eVar 7) aNil))) aNil))))) aNil)))))
  (sRet (eCall M_L_told (aCons (eVar 4) (aCons (eBin addA (eVar 3) (eLst (aCons (eTup (aCons (eTup (aCons (eVar 0) (aCons (eVar 2) aNil))) (aCons (eVar 5) (aCons (eC (.int 0)) (aCons (eTup (aCons (eC (.str "node")) (aCons (eTup (aCons (eVar 0) (aCons (eVar 2) aNil))) aNil))) aNil))))) (aCons (eTup (aCons (eTup (aCons (eVar 0) (aCons (eVar 1) aNil))) (aCons (eVar 5) (aCons (eC (.int 0)) (aCons (eTup (aCons (eC (.str "all")) (aCons (eVar 5) aNil))) aNil))))) aNil)))) aNil))))))))))))))
def F_L_others_right : AF := fnA 3 8 b_L_others_right
def M_L_others_right : AF := isoF F_L_others_right
theorem sc_L_others_right : FnScope ["_law_x", "_law_y", "_law_z", "_law_rows", "_law_board", "_law_none", "_law_ring", "_law_grow"] ["_law_x", "_law_y", "_law_z"] (defScope s_L_others_right) := ⟨rfl, rfl, rfl, by decide +kernel, rfl, by decide +kernel, by decide +kernel⟩
set_option maxHeartbeats 40000000 in
theorem ok_L_others_right {P : Program} {w : World} {K : Frg} {mg : Str → Option Value} {base : Heap} {h : Heap} (z : Zz K mg h) : Fn P w K mg base (CT K w) 13 (He.fAd K ("_law_others_right", none)) 3 M_L_others_right := by
  obtain ⟨fd, F⟩ := z.c.def_ 65 (at_ := ("_law_others_right", none)) (name := "_law_others_right") (qual := "_law_others_right") (st := s_L_others_right)
  refine Fn.iso (fn_mk (k := 12) F sc_L_others_right rfl rfl (F.binds (ps := ["_law_x", "_law_y", "_law_z"]) fun _ _ _ _ _ _ us hl => match us, hl with | [_, _, _], _ => rfl) (fun cdv A outer s H E hr ok => ?_))
  have nd := sc_L_others_right.nd
  have tk := z.c.tabOk w
  have hu := hr.un
  unfold b_L_others_right
  exact (sss_cons (ss_asg (se_tup (sa_cons (se_tup (sa_cons se_str sa_nil)) (sa_cons (se_tup (sa_cons se_str sa_nil)) (sa_cons (se_tup (sa_cons se_str sa_nil)) sa_nil)))) (sg_tup (sgs_cons (sg_name 5 nd) (sgs_cons (sg_name 6 nd) (sgs_cons (sg_name 7 nd) sgs_nil)))))
      (sss_cons (ss_set 3 (se_lst (sa_cons (se_make (c := 9) ok (mk_Other z) (ok_Turned_init z) sim_Other (hr.mono (by decide)) (z.c.glo z.X z.G 11) (sa_cons (se_tup sa_nil) (sa_cons (se_tup (sa_cons (se_var 0) (sa_cons (se_var 1) sa_nil))) sa_nil))) (sa_cons (se_make (c := 10) ok (mk_Lead z) (ok_Turned_init z) sim_Lead (hr.mono (by decide)) (z.c.glo z.X z.G 13) (sa_cons (se_tup (sa_cons (se_var 0) sa_nil)) (sa_cons (se_tup (sa_cons (se_var 2) (sa_cons (se_var 2) sa_nil))) sa_nil))) (sa_cons (se_make (c := 9) ok (mk_Other z) (ok_Turned_init z) sim_Other (hr.mono (by decide)) (z.c.glo z.X z.G 11) (sa_cons (se_tup (sa_cons (se_var 2) (sa_cons (se_var 2) (sa_cons (se_var 1) sa_nil)))) (sa_cons (se_tup sa_nil) sa_nil))) (sa_cons (se_make (c := 8) ok (mk_Rest z) (ok_Valued_init z) sim_Rest (hr.mono (by decide)) (z.c.glo z.X z.G 6) (sa_cons (se_tup (sa_cons (se_var 2) (sa_cons (se_var 2) sa_nil))) (sa_cons se_int sa_nil))) (sa_cons (se_make (c := 9) ok (mk_Other z) (ok_Turned_init z) sim_Other (hr.mono (by decide)) (z.c.glo z.X z.G 11) (sa_cons (se_tup (sa_cons (se_var 0) sa_nil)) (sa_cons (se_tup (sa_cons (se_var 2) (sa_cons (se_var 2) (sa_cons (se_var 0) sa_nil)))) sa_nil))) sa_nil)))))) nd)
      (sss_cons (ss_set 4 (se_make (c := 12) ok (mk_Table z) (ok_Table_init z) sim_Table (hr.mono (by decide)) (z.c.glo z.X z.G 8) (sa_cons (se_var 3) sa_nil)) nd)
      (sss_cons (ss_set 3 (se_lst (sa_cons (se_tup (sa_cons (se_tup sa_nil) (sa_cons (se_var 6) (sa_cons se_non (sa_cons (se_tup (sa_cons se_str (sa_cons (se_tup sa_nil) sa_nil))) sa_nil))))) (sa_cons (se_tup (sa_cons (se_tup (sa_cons (se_var 0) (sa_cons (se_var 1) sa_nil))) (sa_cons (se_var 6) (sa_cons se_non (sa_cons (se_tup (sa_cons se_str (sa_cons (se_tup (sa_cons (se_var 2) (sa_cons (se_var 2) (sa_cons (se_var 1) sa_nil)))) sa_nil))) sa_nil))))) sa_nil))) nd)
      (sss_cons (ss_expr (se_bm PySem.F.plainAttrs_list PySem.F.slot_list_append PySem.F.type_list_append mt_append ms_append (se_var 3) (sa_cons (se_tup (sa_cons (se_tup (sa_cons (se_var 2) (sa_cons (se_var 2) (sa_cons (se_var 1) sa_nil)))) (sa_cons (se_var 6) (sa_cons se_non (sa_cons (se_tup (sa_cons se_str (sa_cons (se_tup (sa_cons (se_var 2) (sa_cons (se_var 2) (sa_cons (se_var 1) sa_nil)))) sa_nil))) sa_nil))))) sa_nil)))
      (sss_cons (ss_set 3 (se_bin op_addA os_add (se_var 3) (se_lst (sa_cons (se_tup (sa_cons (se_tup (sa_cons (se_var 0) (sa_cons (se_var 0) sa_nil))) (sa_cons (se_tup (sa_cons se_str (sa_cons se_int sa_nil))) (sa_cons se_int (sa_cons (se_tup (sa_cons se_str (sa_cons (se_tup (sa_cons se_str (sa_cons se_int sa_nil))) sa_nil))) sa_nil))))) (sa_cons (se_tup (sa_cons (se_tup (sa_cons (se_var 0) sa_nil)) (sa_cons (se_tup (sa_cons se_str (sa_cons se_int sa_nil))) (sa_cons se_int (sa_cons (se_tup (sa_cons se_str (sa_cons (se_tup (sa_cons (se_var 2) (sa_cons (se_var 2) sa_nil))) sa_nil))) sa_nil))))) sa_nil)))) nd)
      (sss_cons (ss_set 3 (se_bin op_addA os_add (se_var 3) (se_lst (sa_cons (se_tup (sa_cons (se_tup (sa_cons (se_var 0) (sa_cons (se_var 1) (sa_cons (se_var 1) sa_nil)))) (sa_cons (se_var 5) (sa_cons se_int (sa_cons (se_tup (sa_cons se_str (sa_cons (se_var 5) sa_nil))) sa_nil))))) (sa_cons (se_tup (sa_cons (se_tup (sa_cons (se_var 2) sa_nil)) (sa_cons (se_var 5) (sa_cons se_int (sa_cons (se_tup (sa_cons se_str (sa_cons (se_tup (sa_cons (se_var 2) sa_nil)) sa_nil))) sa_nil))))) sa_nil)))) nd)
      (sss_cons (ss_if (st_not (st_val (se_call ok (ok_L_told z) (hr.mono (by decide)) (z.c.glo z.X z.G 9) (sa_cons (se_var 4) (sa_cons (se_var 3) sa_nil))))) (sss_one (ss_ret se_bl)) sss_nil)
      (sss_cons (ss_set 4 (se_make (c := 12) ok (mk_Table z) (ok_Table_init z) sim_Table (hr.mono (by decide)) (z.c.glo z.X z.G 8) (sa_cons (se_lst (sa_cons (se_make (c := 9) ok (mk_Other z) (ok_Turned_init z) sim_Other (hr.mono (by decide)) (z.c.glo z.X z.G 11) (sa_cons (se_tup (sa_cons (se_var 0) sa_nil)) (sa_cons (se_tup (sa_cons (se_var 1) (sa_cons (se_var 2) sa_nil))) sa_nil))) (sa_cons (se_make (c := 10) ok (mk_Lead z) (ok_Turned_init z) sim_Lead (hr.mono (by decide)) (z.c.glo z.X z.G 13) (sa_cons (se_tup (sa_cons (se_var 1) sa_nil)) (sa_cons (se_tup (sa_cons (se_var 1) (sa_cons (se_var 1) sa_nil))) sa_nil))) (sa_cons (se_make (c := 9) ok (mk_Other z) (ok_Turned_init z) sim_Other (hr.mono (by decide)) (z.c.glo z.X z.G 11) (sa_cons (se_tup (sa_cons (se_var 1) sa_nil)) (sa_cons (se_tup (sa_cons (se_var 1) sa_nil)) sa_nil))) (sa_cons (se_make (c := 9) ok (mk_Other z) (ok_Turned_init z) sim_Other (hr.mono (by decide)) (z.c.glo z.X z.G 11) (sa_cons (se_tup (sa_cons (se_var 2) sa_nil)) (sa_cons (se_tup (sa_cons (se_var 0) sa_nil)) sa_nil))) (sa_cons (se_make (c := 11) ok (mk_Stop z) (ok_Stop_init z) sim_Stop (hr.mono (by decide)) (z.c.glo z.X z.G 72) (sa_cons (se_tup (sa_cons (se_var 0) (sa_cons (se_var 2) sa_nil))) sa_nil)) sa_nil)))))) sa_nil)) nd)
      (sss_cons (ss_set 3 (se_lst (sa_cons (se_tup (sa_cons (se_tup (sa_cons (se_var 0) sa_nil)) (sa_cons (se_var 7) (sa_cons se_non (sa_cons (se_tup (sa_cons se_str (sa_cons (se_tup (sa_cons (se_var 0) sa_nil)) sa_nil))) sa_nil))))) (sa_cons (se_tup (sa_cons (se_tup (sa_cons (se_var 2) sa_nil)) (sa_cons (se_var 7) (sa_cons se_non (sa_cons (se_tup (sa_cons se_str (sa_cons (se_tup (sa_cons (se_var 2) sa_nil)) sa_nil))) sa_nil))))) (sa_cons (se_tup (sa_cons (se_tup (sa_cons (se_var 1) sa_nil)) (sa_cons (se_var 6) (sa_cons se_non (sa_cons (se_tup (sa_cons se_str (sa_cons (se_var 7) sa_nil))) sa_nil))))) sa_nil)))) nd)
      (sss_one (ss_ret (se_call ok (ok_L_told z) (hr.mono (by decide)) (z.c.glo z.X z.G 9) (sa_cons (se_var 4) (sa_cons (se_bin op_addA os_add (se_var 3) (se_lst (sa_cons (se_tup (sa_cons (se_tup (sa_cons (se_var 0) (sa_cons (se_var 2) sa_nil))) (sa_cons (se_var 5) (sa_cons se_int (sa_cons (se_tup (sa_cons se_str (sa_cons (se_tup (sa_cons (se_var 0) (sa_cons (se_var 2) sa_nil))) sa_nil))) sa_nil))))) (sa_cons (se_tup (sa_cons (se_tup (sa_cons (se_var 0) (sa_cons (se_var 1) sa_nil))) (sa_cons (se_var 5) (sa_cons se_int (sa_cons (se_tup (sa_cons se_str (sa_cons (se_var 5) sa_nil))) sa_nil))))) sa_nil)))) sa_nil)))))))))))))))
/-! _law_leads_right -/
abbrev s_L_leads_right : Stmt := top 53
def b_L_leads_right : AS := (sSeq (sAsg (gT 3 (gsC (gN 5) (gsC (gN 6) (gsC (gN 7) gsN)))) (eTup (aCons (eTup (aCons (eC (.str "nothing")) aNil)) (aCons (eTup (aCons (eC (.str "round")) aNil)) (aCons (eTup (aCons (eC (.str "grows")) aNil)) aNil)))))
  (sSeq (sSet 3 (eCall M_Table (aCons (eLst (aCons (eCall M_Lead (aCons (eTup (aCons (eVar 0) aNil)) (aCons (eTup aNil) aNil))) (aCons (eCall M_Thing (aCons (eTup (aCons (eVar 0) aNil)) (aCons (eC (.int 4)) aNil))) (aCons (eCall M_Thing (aCons (eTup (aCons (eVar 1) aNil)) (aCons (eC (.int 5)) aNil))) (aCons (eCall M_Rest (aCons (eTup aNil) (aCons (eC (.int 6)) aNil))) aNil))))) aNil)))
  (sSeq (sSet 4 (eLst (aCons (eTup (aCons (eTup (aCons (eVar 0) aNil)) (aCons (eTup (aCons (eC (.str "thing")) (aCons (eC (.int 4)) aNil))) (aCons (eC (.int 0)) (aCons (eTup (aCons (eC (.str "node")) (aCons (eTup aNil) aNil))) aNil))))) (aCons (eTup (aCons (eTup (aCons (eVar 0) (aCons (eVar 0) (aCons (eVar 1) aNil)))) (aCons (eTup (aCons (eC (.str "thing")) (aCons (eC (.int 5)) aNil))) (aCons (eC (.int 2)) (aCons (eTup (aCons (eC (.str "node")) (aCons (eTup (aCons (eVar 1) aNil)) aNil))) aNil))))) aNil))))
  (sSeq (sSet 4 (eBin addA (eVar 4) (eLst (aCons (eTup (aCons (eTup (aCons (eVar 0) (aCons (eVar 0) (aCons (eVar 0) aNil)))) (aCons (eTup (aCons (eC (.str "thing")) (aCons (eC (.int 4)) aNil))) (aCons (eC (.int 2)) (aCons (eTup (aCons (eC (.str "node")) (aCons (eTup aNil) aNil))) aNil))))) (aCons (eTup (aCons (eTup (aCons (eVar 0) (aCons (eVar 2) aNil))) (aCons (eTup (aCons (eC (.str "thing")) (aCons (eC (.int 6)) aNil))) (aCons (eC (.int 1)) (aCons (eTup (aCons (eC (.str "all")) (aCons (eTup (aCons (eC (.str "thing")) (aCons (eC (.int 6)) aNil))) aNil))) aNil))))) aNil)))))
  (sSeq (sSet 4 (eBin addA (eVar 4) (eLst (aCons (eTup (aCons (eTup (aCons (eVar 1) (aCons (eVar 0) aNil))) (aCons (eVar 5) (aCons (eC (.int 0)) (aCons (eTup (aCons (eC (.str "all")) (aCons (eVar 5) aNil))) aNil))))) (aCons (eTup (aCons (eTup aNil) (aCons (eVar 5) (aCons (eC (.int 0)) (aCons (eTup (aCons (eC (.str "node")) (aCons (eTup aNil) aNil))) aNil))))) aNil)))))
  (sSeq (sIf (tNotA (tE (eCall M_L_told (aCons (eVar 3) (aCons (eVar 4) aNil))))) (sRet (eC (.bl false))) sNil)
  (sSeq (sSet 3 (eCall M_Table (aCons (eLst (aCons (eCall M_Lead (aCons (eTup (aCons (eVar 0) aNil)) (aCons (eTup (aCons (eVar 1) (aCons (eVar 2) aNil))) aNil))) (aCons (eCall M_Lead (aCons (eTup (aCons (eVar 1) aNil)) (aCons (eTup (aCons (eVar 0) aNil)) aNil))) aNil))) aNil)))
  (sSeq (sSet 4 (eLst (aCons (eTup (aCons (eTup (aCons (eVar 0) (aCons (eVar 0) aNil))) (aCons (eVar 7) (aCons (eC .non) (aCons (eTup (aCons (eC (.str "all")) (aCons (eVar 7) aNil))) aNil))))) (aCons (eTup (aCons (eTup (aCons (eVar 1) (aCons (eVar 2) (aCons (eVar 2) aNil)))) (aCons (eVar 7) (aCons (eC .non) (aCons (eTup (aCons (eC (.str "all")) (aCons (eVar 7) aNil))) aNil))))) (aCons (eTup (aCons (eTup (aCons (eVar 0) aNil)) (aCons (eVar 5) (aCons (eC (.int 0)) (aCons (eTup (aCons (eC (.str "all")) (aCons (eVar 7) aNil))) aNil))))) aNil)))))
  (sSeq (sIf (tNotA (tE (eCall M_L_told (aCons (eVar 3) (aCons (eBin addA (eVar 4) (eLst (aCons (eTup (aCons (eTup (aCons (eVar 1) aNil)) (aCons (eVar 5) (aCons (eC (.int 0)) (aCons (eTup (aCons (eC (.str "all")) (aCons (eVar 7) aNil))) aNil))))) (aCons (eTup (aCons (eTup (aCons (eVar 2) (aCons (eVar 0) aNil))) (aCons (eVar 5) (aCons (eC (.int 0)) (aCons (eTup (aCons (eC (.str "all")) (aCons (eVar 5) aNil))) aNil))))) aNil)))) aNil))))) (sRet (eC (.bl false))) sNil)
  (sSeq (sSet 3 (eCall M_Table (aCons (eLst (aCons (eCall M_Lead (aCons (eTup (aCons (eVar 0) aNil)) (aCons (eTup (aCons (eVar 1) aNil)) aNil))) (aCons (eCall M_Lead (aCons (eTup (aCons (eVar 1) aNil)) (aCons (eTup (aCons (eVar 2) aNil)) aNil))) (aCons (eCall M_Lead (aCons (eTup (aCons (eVar 2) aNil)) (aCons (eTup (aCons (eVar 0) aNil)) aNil))) (aCons (eCall M_Thing (aCons (eTup (aCons (eVar 2) aNil)) (aCons (eC (.int 1)) aNil))) aNil))))) aNil)))
  (sSeq (sSet 4 (eLc (iSeq (eTup (aCons (eVar 0) (aCons (eVar 1) (aCons (eVar 2) aNil))))) (gN 8) tYesA (eTup (aCons (eTup (aCons (eVar 8) (aCons (eVar 0) aNil))) (aCons (eVar 6) (aCons (eC .non) (aCons (eTup (aCons (eC (.str "all")) (aCons (eVar 6) aNil))) aNil))))) [8]))
  (sSeq (sSet 4 (eBin addA (eVar 4) (eLc (iSeq (eTup (aCons (eVar 0) (aCons (eVar 1) (aCons (eVar 2) aNil))))) (gN 8) tYesA (eTup (aCons (eTup (aCons (eVar 8) (aCons (eVar 0) (aCons (eVar 1) aNil)))) (aCons (eVar 6) (aCons (eC .non) (aCons (eTup (aCons (eC (.str "all")) (aCons (eVar 6) aNil))) aNil))))) [8])))
  (sRet (eCall M_L_told (aCons (eVar 3) (aCons (eBin addA (eVar 4) (eLst (aCons (eTup (aCons (eTup (aCons (eVar 2) aNil)) (aCons (eTup (aCons (eC (.str "thing")) (aCons (eC (.int 1)) aNil))) (aCons (eC (.int 0)) (aCons (eTup (aCons (eC (.str "all")) (aCons (eVar 6) aNil))) aNil))))) (aCons (eTup (aCons (eTup (aCons (eVar 0) aNil)) (aCons (eVar 5) (aCons (eC (.int 0)) (aCons (eTup (aCons (eC (.str "all")) (aCons (eVar 6) aNil))) aNil))))) aNil)))) aNil))))))))))))))))
def F_L_leads_right : AF := fnA 3 9 b_L_leads_right
def M_L_leads_right : AF := isoF F_L_leads_right
theorem sc_L_leads_right : FnScope ["_law_x", "_law_y", "_law_z", "_law_board", "_law_rows", "_law_none", "_law_ring", "_law_grow", "_law_road"] ["_law_x", "_law_y", "_law_z"] (defScope s_L_leads_right) := ⟨rfl, rfl, rfl, by decide +kernel, rfl, by decide +kernel, by decide +kernel⟩
set_option maxHeartbeats 40000000 in
theorem ok_L_leads_right {P : Program} {w : World} {K : Frg} {mg : Str → Option Value} {base : Heap} {h : Heap} (z : Zz K mg h) : Fn P w K mg base (CT K w) 13 (He.fAd K ("_law_leads_right", none)) 3 M_L_leads_right := by
  obtain ⟨fd, F⟩ := z.c.def_ 66 (at_ := ("_law_leads_right", none)) (name := "_law_leads_right") (qual := "_law_leads_right") (st := s_L_leads_right)
  refine Fn.iso (fn_mk (k := 12) F sc_L_leads_right rfl rfl (F.binds (ps := ["_law_x", "_law_y", "_law_z"]) fun _ _ _ _ _ _ us hl => match us, hl with | [_, _, _], _ => rfl) (fun cdv A outer s H E hr ok => ?_))
  have nd := sc_L_leads_right.nd
  have tk := z.c.tabOk w
  have hu := hr.un
  unfold b_L_leads_right
  exact (sss_cons (ss_asg (se_tup (sa_cons (se_tup (sa_cons se_str sa_nil)) (sa_cons (se_tup (sa_cons se_str sa_nil)) (sa_cons (se_tup (sa_cons se_str sa_nil)) sa_nil)))) (sg_tup (sgs_cons (sg_name 5 nd) (sgs_cons (sg_name 6 nd) (sgs_cons (sg_name 7 nd) sgs_nil)))))
      (sss_cons (ss_set 3 (se_make (c := 12) ok (mk_Table z) (ok_Table_init z) sim_Table (hr.mono (by decide)) (z.c.glo z.X z.G 8) (sa_cons (se_lst (sa_cons (se_make (c := 10) ok (mk_Lead z) (ok_Turned_init z) sim_Lead (hr.mono (by decide)) (z.c.glo z.X z.G 13) (sa_cons (se_tup (sa_cons (se_var 0) sa_nil)) (sa_cons (se_tup sa_nil) sa_nil))) (sa_cons (se_make (c := 7) ok (mk_Thing z) (ok_Valued_init z) sim_Thing (hr.mono (by decide)) (z.c.glo z.X z.G 15) (sa_cons (se_tup (sa_cons (se_var 0) sa_nil)) (sa_cons se_int sa_nil))) (sa_cons (se_make (c := 7) ok (mk_Thing z) (ok_Valued_init z) sim_Thing (hr.mono (by decide)) (z.c.glo z.X z.G 15) (sa_cons (se_tup (sa_cons (se_var 1) sa_nil)) (sa_cons se_int sa_nil))) (sa_cons (se_make (c := 8) ok (mk_Rest z) (ok_Valued_init z) sim_Rest (hr.mono (by decide)) (z.c.glo z.X z.G 6) (sa_cons (se_tup sa_nil) (sa_cons se_int sa_nil))) sa_nil))))) sa_nil)) nd)
      (sss_cons (ss_set 4 (se_lst (sa_cons (se_tup (sa_cons (se_tup (sa_cons (se_var 0) sa_nil)) (sa_cons (se_tup (sa_cons se_str (sa_cons se_int sa_nil))) (sa_cons se_int (sa_cons (se_tup (sa_cons se_str (sa_cons (se_tup sa_nil) sa_nil))) sa_nil))))) (sa_cons (se_tup (sa_cons (se_tup (sa_cons (se_var 0) (sa_cons (se_var 0) (sa_cons (se_var 1) sa_nil)))) (sa_cons (se_tup (sa_cons se_str (sa_cons se_int sa_nil))) (sa_cons se_int (sa_cons (se_tup (sa_cons se_str (sa_cons (se_tup (sa_cons (se_var 1) sa_nil)) sa_nil))) sa_nil))))) sa_nil))) nd)
      (sss_cons (ss_set 4 (se_bin op_addA os_add (se_var 4) (se_lst (sa_cons (se_tup (sa_cons (se_tup (sa_cons (se_var 0) (sa_cons (se_var 0) (sa_cons (se_var 0) sa_nil)))) (sa_cons (se_tup (sa_cons se_str (sa_cons se_int sa_nil))) (sa_cons se_int (sa_cons (se_tup (sa_cons se_str (sa_cons (se_tup sa_nil) sa_nil))) sa_nil))))) (sa_cons (se_tup (sa_cons (se_tup (sa_cons (se_var 0) (sa_cons (se_var 2) sa_nil))) (sa_cons (se_tup (sa_cons se_str (sa_cons se_int sa_nil))) (sa_cons se_int (sa_cons (se_tup (sa_cons se_str (sa_cons (se_tup (sa_cons se_str (sa_cons se_int sa_nil))) sa_nil))) sa_nil))))) sa_nil)))) nd)
      (sss_cons (ss_set 4 (se_bin op_addA os_add (se_var 4) (se_lst (sa_cons (se_tup (sa_cons (se_tup (sa_cons (se_var 1) (sa_cons (se_var 0) sa_nil))) (sa_cons (se_var 5) (sa_cons se_int (sa_cons (se_tup (sa_cons se_str (sa_cons (se_var 5) sa_nil))) sa_nil))))) (sa_cons (se_tup (sa_cons (se_tup sa_nil) (sa_cons (se_var 5) (sa_cons se_int (sa_cons (se_tup (sa_cons se_str (sa_cons (se_tup sa_nil) sa_nil))) sa_nil))))) sa_nil)))) nd)
      (sss_cons (ss_if (st_not (st_val (se_call ok (ok_L_told z) (hr.mono (by decide)) (z.c.glo z.X z.G 9) (sa_cons (se_var 3) (sa_cons (se_var 4) sa_nil))))) (sss_one (ss_ret se_bl)) sss_nil)
      (sss_cons (ss_set 3 (se_make (c := 12) ok (mk_Table z) (ok_Table_init z) sim_Table (hr.mono (by decide)) (z.c.glo z.X z.G 8) (sa_cons (se_lst (sa_cons (se_make (c := 10) ok (mk_Lead z) (ok_Turned_init z) sim_Lead (hr.mono (by decide)) (z.c.glo z.X z.G 13) (sa_cons (se_tup (sa_cons (se_var 0) sa_nil)) (sa_cons (se_tup (sa_cons (se_var 1) (sa_cons (se_var 2) sa_nil))) sa_nil))) (sa_cons (se_make (c := 10) ok (mk_Lead z) (ok_Turned_init z) sim_Lead (hr.mono (by decide)) (z.c.glo z.X z.G 13) (sa_cons (se_tup (sa_cons (se_var 1) sa_nil)) (sa_cons (se_tup (sa_cons (se_var 0) sa_nil)) sa_nil))) sa_nil))) sa_nil)) nd)
      (sss_cons (ss_set 4 (se_lst (sa_cons (se_tup (sa_cons (se_tup (sa_cons (se_var 0) (sa_cons (se_var 0) sa_nil))) (sa_cons (se_var 7) (sa_cons se_non (sa_cons (se_tup (sa_cons se_str (sa_cons (se_var 7) sa_nil))) sa_nil))))) (sa_cons (se_tup (sa_cons (se_tup (sa_cons (se_var 1) (sa_cons (se_var 2) (sa_cons (se_var 2) sa_nil)))) (sa_cons (se_var 7) (sa_cons se_non (sa_cons (se_tup (sa_cons se_str (sa_cons (se_var 7) sa_nil))) sa_nil))))) (sa_cons (se_tup (sa_cons (se_tup (sa_cons (se_var 0) sa_nil)) (sa_cons (se_var 5) (sa_cons se_int (sa_cons (se_tup (sa_cons se_str (sa_cons (se_var 7) sa_nil))) sa_nil))))) sa_nil)))) nd)
      (sss_cons (ss_if (st_not (st_val (se_call ok (ok_L_told z) (hr.mono (by decide)) (z.c.glo z.X z.G 9) (sa_cons (se_var 3) (sa_cons (se_bin op_addA os_add (se_var 4) (se_lst (sa_cons (se_tup (sa_cons (se_tup (sa_cons (se_var 1) sa_nil)) (sa_cons (se_var 5) (sa_cons se_int (sa_cons (se_tup (sa_cons se_str (sa_cons (se_var 7) sa_nil))) sa_nil))))) (sa_cons (se_tup (sa_cons (se_tup (sa_cons (se_var 2) (sa_cons (se_var 0) sa_nil))) (sa_cons (se_var 5) (sa_cons se_int (sa_cons (se_tup (sa_cons se_str (sa_cons (se_var 5) sa_nil))) sa_nil))))) sa_nil)))) sa_nil))))) (sss_one (ss_ret se_bl)) sss_nil)
      (sss_cons (ss_set 3 (se_make (c := 12) ok (mk_Table z) (ok_Table_init z) sim_Table (hr.mono (by decide)) (z.c.glo z.X z.G 8) (sa_cons (se_lst (sa_cons (se_make (c := 10) ok (mk_Lead z) (ok_Turned_init z) sim_Lead (hr.mono (by decide)) (z.c.glo z.X z.G 13) (sa_cons (se_tup (sa_cons (se_var 0) sa_nil)) (sa_cons (se_tup (sa_cons (se_var 1) sa_nil)) sa_nil))) (sa_cons (se_make (c := 10) ok (mk_Lead z) (ok_Turned_init z) sim_Lead (hr.mono (by decide)) (z.c.glo z.X z.G 13) (sa_cons (se_tup (sa_cons (se_var 1) sa_nil)) (sa_cons (se_tup (sa_cons (se_var 2) sa_nil)) sa_nil))) (sa_cons (se_make (c := 10) ok (mk_Lead z) (ok_Turned_init z) sim_Lead (hr.mono (by decide)) (z.c.glo z.X z.G 13) (sa_cons (se_tup (sa_cons (se_var 2) sa_nil)) (sa_cons (se_tup (sa_cons (se_var 0) sa_nil)) sa_nil))) (sa_cons (se_make (c := 7) ok (mk_Thing z) (ok_Valued_init z) sim_Thing (hr.mono (by decide)) (z.c.glo z.X z.G 15) (sa_cons (se_tup (sa_cons (se_var 2) sa_nil)) (sa_cons se_int sa_nil))) sa_nil))))) sa_nil)) nd)
      (sss_cons (ss_setLc (i := 4) (own := [("_law_road", 8)]) rfl nd (si_seq (se_tup (sa_cons (se_var 0) (sa_cons (se_var 1) (sa_cons (se_var 2) sa_nil))))) (blkOk_by (by rfl)) (fun _ _ _ _ _ => (sg_name 8 nd)) (fun _ _ _ _ _ => sts_nil) (fun _ _ _ _ _ => (se_tup (sa_cons (se_tup (sa_cons (se_var 8) (sa_cons (se_var 0) sa_nil))) (sa_cons (se_var 6) (sa_cons se_non (sa_cons (se_tup (sa_cons se_str (sa_cons (se_var 6) sa_nil))) sa_nil)))))))
      (sss_cons (ss_set 4 (se_bin op_addA os_add (se_var 4) (se_lc (own := [("_law_road", 8)]) rfl nd (si_seq (se_tup (sa_cons (se_var 0) (sa_cons (se_var 1) (sa_cons (se_var 2) sa_nil))))) (blkOk_by (by rfl)) (fun _ _ _ _ _ => (sg_name 8 nd)) (fun _ _ _ _ _ => sts_nil) (fun _ _ _ _ _ => (se_tup (sa_cons (se_tup (sa_cons (se_var 8) (sa_cons (se_var 0) (sa_cons (se_var 1) sa_nil)))) (sa_cons (se_var 6) (sa_cons se_non (sa_cons (se_tup (sa_cons se_str (sa_cons (se_var 6) sa_nil))) sa_nil)))))))) nd)
      (sss_one (ss_ret (se_call ok (ok_L_told z) (hr.mono (by decide)) (z.c.glo z.X z.G 9) (sa_cons (se_var 3) (sa_cons (se_bin op_addA os_add (se_var 4) (se_lst (sa_cons (se_tup (sa_cons (se_tup (sa_cons (se_var 2) sa_nil)) (sa_cons (se_tup (sa_cons se_str (sa_cons se_int sa_nil))) (sa_cons se_int (sa_cons (se_tup (sa_cons se_str (sa_cons (se_var 6) sa_nil))) sa_nil))))) (sa_cons (se_tup (sa_cons (se_tup (sa_cons (se_var 0) sa_nil)) (sa_cons (se_var 5) (sa_cons se_int (sa_cons (se_tup (sa_cons se_str (sa_cons (se_var 6) sa_nil))) sa_nil))))) sa_nil)))) sa_nil)))))))))))))))))
/-! _law_take -/
abbrev s_L_take : Stmt := top 49
def b_L_take : AS := (sSeq (sIf (tE (eBin (cmpI (fun i j => decide (j < i))) (eBin ixA (eVar 0) (eC (.int 0))) (eC (.int 0)))) (sSeq (sSet 3 (eBin modA (eCall intA (aCons (eBin ixA (eVar 0) (eC (.int 0))) aNil)) (eVar 1)))
  (sSeq (sSub (eVar 0) (eC (.int 0)) (eBin fdivA (eBin ixA (eVar 0) (eC (.int 0))) (eVar 1)))
  (sRet (eVar 3)))) sNil)
  (sSeq (sSub (eVar 0) (eC (.int 2)) (eBin addA (eBin ixA (eVar 0) (eC (.int 2))) (eC (.int 1))))
  (sSeq (sSet 2 (eBin modA (eCall intA (aCons (eBin powA (eBin addA (eBin addA (eBin ixA (eVar 0) (eC (.int 1))) (eBin mulA (eC (.int 40009)) (eBin ixA (eVar 0) (eC (.int 2))))) (eC (.int 13))) (eC (.int 3))) aNil)) (eC (.int 2147483587))))
  (sSeq (sSet 2 (eBin modA (eCall intA (aCons (eBin mulA (eVar 2) (eBin addA (eBin fdivA (eVar 2) (eC (.int 1021))) (eBin mulA (eC (.int 60013)) (eBin ixA (eVar 0) (eC (.int 2)))))) aNil)) (eC (.int 2147483579))))
  (sRet (eBin modA (eCall intA (aCons (eBin fdivA (eVar 2) (eC (.int 11))) aNil)) (eVar 1)))))))
def F_L_take : AF := fnA 2 4 b_L_take
abbrev M_L_take : AF := F_L_take
theorem sim_L_take : SimQ F_L_take M_L_take := SimQ.rfl'
theorem sc_L_take : FnScope ["_law_spring_here", "_law_many", "_law_mixed", "_law_found"] ["_law_spring_here", "_law_many"] (defScope s_L_take) := ⟨rfl, rfl, rfl, by decide +kernel, rfl, by decide +kernel, by decide +kernel⟩
set_option maxHeartbeats 40000000 in
theorem ok_L_take {P : Program} {w : World} {K : Frg} {mg : Str → Option Value} {base : Heap} {h : Heap} (z : Zz K mg h) : Fn P w K mg base (CT K w) 1 (He.fAd K ("_law_take", none)) 2 M_L_take := by
  obtain ⟨fd, F⟩ := z.c.def_ 67 (at_ := ("_law_take", none)) (name := "_law_take") (qual := "_law_take") (st := s_L_take)
  refine Fn.simQ (fn_mk (k := 0) F sc_L_take rfl rfl (F.binds (ps := ["_law_spring_here", "_law_many"]) fun _ _ _ _ _ _ us hl => match us, hl with | [_, _], _ => rfl) (fun cdv A outer s H E hr ok => ?_)) sim_L_take
  have nd := sc_L_take.nd
  have tk := z.c.tabOk w
  have hu := hr.un
  unfold b_L_take
  exact (sss_cons (ss_if (st_cmp op_gt os_cmpI (se_ix (ul hu (by decide)) rfl (se_var 0) se_int) se_int) (sss_cons (ss_set 3 (se_bin op_mod os_mod (se_callTy call_int1 cs_int (z.c.free z.X z.G 80) bt_int (sa_cons (se_ix (ul hu (by decide)) rfl (se_var 0) se_int) sa_nil)) (se_var 1)) nd)
      (sss_cons (ss_sub (ul hu (by decide)) rfl (se_var 0) se_int (se_bin op_fdiv os_fdiv (se_ix (ul hu (by decide)) rfl (se_var 0) se_int) (se_var 1)))
      (sss_one (ss_ret (se_var 3))))) sss_nil)
      (sss_cons (ss_sub (ul hu (by decide)) rfl (se_var 0) se_int (se_bin op_addA os_add (se_ix (ul hu (by decide)) rfl (se_var 0) se_int) se_int))
      (sss_cons (ss_set 2 (se_bin op_mod os_mod (se_callTy call_int1 cs_int (z.c.free z.X z.G 80) bt_int (sa_cons (se_bin op_pow os_pow (se_bin op_addA os_add (se_bin op_addA os_add (se_ix (ul hu (by decide)) rfl (se_var 0) se_int) (se_bin op_mulA os_mul se_int (se_ix (ul hu (by decide)) rfl (se_var 0) se_int))) se_int) se_int) sa_nil)) se_int) nd)
      (sss_cons (ss_set 2 (se_bin op_mod os_mod (se_callTy call_int1 cs_int (z.c.free z.X z.G 80) bt_int (sa_cons (se_bin op_mulA os_mul (se_var 2) (se_bin op_addA os_add (se_bin op_fdiv os_fdiv (se_var 2) se_int) (se_bin op_mulA os_mul se_int (se_ix (ul hu (by decide)) rfl (se_var 0) se_int)))) sa_nil)) se_int) nd)
      (sss_one (ss_ret (se_bin op_mod os_mod (se_callTy call_int1 cs_int (z.c.free z.X z.G 80) bt_int (sa_cons (se_bin op_fdiv os_fdiv (se_var 2) se_int) sa_nil)) (se_var 1))))))))
/-! _law_one -/
abbrev s_L_one : Stmt := top 50
def b_L_one : AS := (sRet (eBin ixA (eVar 1) (eCall M_L_take (aCons (eVar 0) (aCons (eCall lenA (aCons (eVar 1) aNil)) aNil)))))
def F_L_one : AF := fnA 2 2 b_L_one
abbrev M_L_one : AF := F_L_one
theorem sim_L_one : SimQ F_L_one M_L_one := SimQ.rfl'
theorem sc_L_one : FnScope ["_law_spring_here", "_law_some"] ["_law_spring_here", "_law_some"] (defScope s_L_one) := ⟨rfl, rfl, rfl, by decide +kernel, rfl, by decide +kernel, by decide +kernel⟩
set_option maxHeartbeats 40000000 in
theorem ok_L_one {P : Program} {w : World} {K : Frg} {mg : Str → Option Value} {base : Heap} {h : Heap} (z : Zz K mg h) : Fn P w K mg base (CT K w) 2 (He.fAd K ("_law_one", none)) 2 M_L_one := by
  obtain ⟨fd, F⟩ := z.c.def_ 68 (at_ := ("_law_one", none)) (name := "_law_one") (qual := "_law_one") (st := s_L_one)
  refine Fn.simQ (fn_mk (k := 1) F sc_L_one rfl rfl (F.binds (ps := ["_law_spring_here", "_law_some"]) fun _ _ _ _ _ _ us hl => match us, hl with | [_, _], _ => rfl) (fun cdv A outer s H E hr ok => ?_)) sim_L_one
  have nd := sc_L_one.nd
  have tk := z.c.tabOk w
  have hu := hr.un
  unfold b_L_one
  exact (sss_one (ss_ret (se_ix (ul hu (by decide)) rfl (se_var 1) (se_call ok (ok_L_take z) (hr.mono (by decide)) (z.c.glo z.X z.G 83) (sa_cons (se_var 0) (sa_cons (se_callB call_lenA cs_len (z.c.free z.X z.G 33) bt_len (sa_cons (se_var 1) sa_nil)) sa_nil))))))
/-! _law_labels -/
abbrev s_L_labels : Stmt := top 51
def b_L_labels : AS := (sSeq (sSet 1 (eLst (aCons (eLst (aCons (eC (.str "a")) (aCons (eC (.str "b")) (aCons (eC (.str "c")) aNil)))) (aCons (eLst (aCons (eC (.str "x")) (aCons (eC (.str "xx")) (aCons (eC (.str "xxx")) aNil)))) (aCons (eLst (aCons (eC (.str "b")) (aCons (eC (.str "a")) (aCons (eC (.str "aa")) aNil)))) (aCons (eLst (aCons (eC (.str "zzzzzzzz")) (aCons (eC (.str "z")) (aCons (eC (.str "y")) aNil)))) (aCons (eLst (aCons (eC (.str "m")) (aCons (eC (.str "mn")) (aCons (eC (.str "n")) aNil)))) aNil)))))))
  (sRet (eCall listA (aCons (eCall M_L_one (aCons (eVar 0) (aCons (eVar 1) aNil))) aNil))))
def F_L_labels : AF := fnA 1 2 b_L_labels
abbrev M_L_labels : AF := F_L_labels
theorem sim_L_labels : SimQ F_L_labels M_L_labels := SimQ.rfl'
theorem sc_L_labels : FnScope ["_law_spring_here", "_law_menu"] ["_law_spring_here"] (defScope s_L_labels) := ⟨rfl, rfl, rfl, by decide +kernel, rfl, by decide +kernel, by decide +kernel⟩
set_option maxHeartbeats 40000000 in
theorem ok_L_labels {P : Program} {w : World} {K : Frg} {mg : Str → Option Value} {base : Heap} {h : Heap} (z : Zz K mg h) : Fn P w K mg base (CT K w) 3 (He.fAd K ("_law_labels", none)) 1 M_L_labels := by
  obtain ⟨fd, F⟩ := z.c.def_ 69 (at_ := ("_law_labels", none)) (name := "_law_labels") (qual := "_law_labels") (st := s_L_labels)
  refine Fn.simQ (fn_mk (k := 2) F sc_L_labels rfl rfl (F.binds (ps := ["_law_spring_here"]) fun _ _ _ _ _ _ us hl => match us, hl with | [_], _ => rfl) (fun cdv A outer s H E hr ok => ?_)) sim_L_labels
  have nd := sc_L_labels.nd
  have tk := z.c.tabOk w
  have hu := hr.un
  unfold b_L_labels
  exact (sss_cons (ss_set 1 (se_lst (sa_cons (se_lst (sa_cons se_str (sa_cons se_str (sa_cons se_str sa_nil)))) (sa_cons (se_lst (sa_cons se_str (sa_cons se_str (sa_cons se_str sa_nil)))) (sa_cons (se_lst (sa_cons se_str (sa_cons se_str (sa_cons se_str sa_nil)))) (sa_cons (se_lst (sa_cons se_str (sa_cons se_str (sa_cons se_str sa_nil)))) (sa_cons (se_lst (sa_cons se_str (sa_cons se_str (sa_cons se_str sa_nil)))) sa_nil)))))) nd)
      (sss_one (ss_ret (se_callTy call_list_of cs_list (z.c.free z.X z.G 32) bt_list (sa_cons (se_call ok (ok_L_one z) (hr.mono (by decide)) (z.c.glo z.X z.G 82) (sa_cons (se_var 0) (sa_cons (se_var 1) sa_nil))) sa_nil)))))
/-! _law_spring -/
abbrev s_L_spring : Stmt := top 48
def b_L_spring : AS := (sSeq (sSet 0 (eCall absA (aCons (eVar 0) aNil)))
  (sRet (eLst (aCons (eBin mulA (eVar 0) (eCall intA (aCons (eBin (cmpI (fun i j => decide (j ≤ i))) (eVar 0) (eBin powA (eC (.int 10)) (eC (.int 18)))) aNil))) (aCons (eBin modA (eCall intA (aCons (eVar 0) aNil)) (eC (.int 2147483629))) (aCons (eC (.int 2)) aNil))))))
def F_L_spring : AF := fnA 1 1 b_L_spring
abbrev M_L_spring : AF := F_L_spring
theorem sim_L_spring : SimQ F_L_spring M_L_spring := SimQ.rfl'
theorem sc_L_spring : FnScope ["_law_cell"] ["_law_cell"] (defScope s_L_spring) := ⟨rfl, rfl, rfl, by decide +kernel, rfl, by decide +kernel, by decide +kernel⟩
set_option maxHeartbeats 40000000 in
theorem ok_L_spring {P : Program} {w : World} {K : Frg} {mg : Str → Option Value} {base : Heap} {h : Heap} (z : Zz K mg h) : Fn P w K mg base (CT K w) 1 (He.fAd K ("_law_spring", none)) 1 M_L_spring := by
  obtain ⟨fd, F⟩ := z.c.def_ 70 (at_ := ("_law_spring", none)) (name := "_law_spring") (qual := "_law_spring") (st := s_L_spring)
  refine Fn.simQ (fn_mk (k := 0) F sc_L_spring rfl rfl (F.binds (ps := ["_law_cell"]) fun _ _ _ _ _ _ us hl => match us, hl with | [_], _ => rfl) (fun cdv A outer s H E hr ok => ?_)) sim_L_spring
  have nd := sc_L_spring.nd
  have tk := z.c.tabOk w
  have hu := hr.un
  unfold b_L_spring
  exact (sss_cons (ss_set 0 (se_callB call_abs cs_abs (z.c.free z.X z.G 84) bt_abs (sa_cons (se_var 0) sa_nil)) nd)
      (sss_one (ss_ret (se_lst (sa_cons (se_bin op_mulA os_mul (se_var 0) (se_callTy call_int1 cs_int (z.c.free z.X z.G 80) bt_int (sa_cons (se_cmp op_ge os_cmpI (se_var 0) (se_bin op_pow os_pow se_int se_int)) sa_nil))) (sa_cons (se_bin op_mod os_mod (se_callTy call_int1 cs_int (z.c.free z.X z.G 80) bt_int (sa_cons (se_var 0) sa_nil)) se_int) (sa_cons se_int sa_nil)))))))
/-! law -/
abbrev s_law : Stmt := top 56
def b_law : AS := (sSeq (sFor (iSeq (eSl (eBin addA (eVar 0) (eLst (aCons (eC (.int 0)) aNil))) pNone (pSome (eC (.int 3))))) (gN 1) (sSeq (sAsg (gTL 3 (gsC (gN 2) (gsC (gN 3) (gsC (gN 4) gsN)))) (eCall M_L_labels (aCons (eCall M_L_spring (aCons (eVar 1) aNil)) aNil)))
  (sIf (tOrA (tNotA (tE (eCall M_L_leads_right (aCons (eVar 2) (aCons (eVar 3) (aCons (eVar 4) aNil)))))) (tOrA (tNotA (tE (eCall M_L_others_right (aCons (eVar 2) (aCons (eVar 3) (aCons (eVar 4) aNil)))))) (tNotA (tE (eCall M_L_behind_right (aCons (eVar 2) (aCons (eVar 3) (aCons (eVar 4) aNil)))))))) (sRet (eC (.bl false))) sNil)))
  (sRet (eC (.bl true))))
def F_law : AF := fnA 1 5 b_law
abbrev M_law : AF := F_law
theorem sim_law : SimQ F_law M_law := SimQ.rfl'
theorem sc_law : FnScope ["_law_script", "_law_cell", "_law_x", "_law_y", "_law_z"] ["_law_script"] (defScope s_law) := ⟨rfl, rfl, rfl, by decide +kernel, rfl, by decide +kernel, by decide +kernel⟩
set_option maxHeartbeats 40000000 in
theorem ok_law {P : Program} {w : World} {K : Frg} {mg : Str → Option Value} {base : Heap} {h : Heap} (z : Zz K mg h) : Fn P w K mg base (CT K w) 14 (He.fAd K ("law", none)) 1 M_law := by
  obtain ⟨fd, F⟩ := z.c.def_ 71 (at_ := ("law", none)) (name := "law") (qual := "law") (st := s_law)
  refine Fn.simQ (fn_mk (k := 13) F sc_law rfl rfl (F.binds (ps := ["_law_script"]) fun _ _ _ _ _ _ us hl => match us, hl with | [_], _ => rfl) (fun cdv A outer s H E hr ok => ?_)) sim_law
  have nd := sc_law.nd
  have tk := z.c.tabOk w
  have hu := hr.un
  unfold b_law
  exact (sss_cons (ss_for ok (si_seq (se_slice (se_bin op_addA os_add (se_var 0) (se_lst (sa_cons se_int sa_nil))) so_none (so_some se_int))) (sg_name 1 nd) (sss_cons (ss_asg (se_call ok (ok_L_labels z) (hr.mono (by decide)) (z.c.glo z.X z.G 4) (sa_cons (se_call ok (ok_L_spring z) (hr.mono (by decide)) (z.c.glo z.X z.G 3) (sa_cons (se_var 1) sa_nil)) sa_nil)) (sg_lst (sgs_cons (sg_name 2 nd) (sgs_cons (sg_name 3 nd) (sgs_cons (sg_name 4 nd) sgs_nil)))))
      (sss_one (ss_if (SW.st (sw_or (st_not (st_val (se_call ok (ok_L_leads_right z) (hr.mono (by decide)) (z.c.glo z.X z.G 2) (sa_cons (se_var 2) (sa_cons (se_var 3) (sa_cons (se_var 4) sa_nil)))))) (sw_or (st_not (st_val (se_call ok (ok_L_others_right z) (hr.mono (by decide)) (z.c.glo z.X z.G 1) (sa_cons (se_var 2) (sa_cons (se_var 3) (sa_cons (se_var 4) sa_nil)))))) (sw_or1 (st_not (st_val (se_call ok (ok_L_behind_right z) (hr.mono (by decide)) (z.c.glo z.X z.G 0) (sa_cons (se_var 2) (sa_cons (se_var 3) (sa_cons (se_var 4) sa_nil)))))))))) (sss_one (ss_ret se_bl)) sss_nil))))
      (sss_one (ss_ret se_bl)))
set_option maxHeartbeats 40000000 in
theorem okE_law {P : Program} {w : World} {K : Frg} {mg : Str → Option Value} {h : Heap} (z : Zz K mg h) : ∃ fd : FuncData, (∀ (s : Shared) (u : Value), BindsTo s fd ⟨[u], []⟩ [("_law_script", u)]) ∧ ∀ base, FnOk P w K mg base CX0 14 (He.ga K "law") fd ["_law_script"] (fun vs H Q _ => spA K (CT K w) 1 F_law vs H Q fun _ _ _ => False) := by
  obtain ⟨fd, F⟩ := z.c.def_ 71 (at_ := ("law", none)) (name := "law") (qual := "law") (st := s_law)
  obtain ⟨oc, od, kV, doc, pm, an, cdv, ct, osl, rfl, lk, hcd⟩ := F.ex
  refine ⟨_, fun s u => .of_eq rfl, fun base => fn_mkE (k := 13) F sc_law rfl rfl (fun cdv A outer s H E hr ok => ?_)⟩
  have nd := sc_law.nd
  have tk := z.c.tabOk w
  have hu := hr.un
  unfold b_law
  exact (sss_cons (ss_for ok (si_seq (se_slice (se_bin op_addA os_add (se_var 0) (se_lst (sa_cons se_int sa_nil))) so_none (so_some se_int))) (sg_name 1 nd) (sss_cons (ss_asg (se_call ok (ok_L_labels z) (hr.mono (by decide)) (z.c.glo z.X z.G 4) (sa_cons (se_call ok (ok_L_spring z) (hr.mono (by decide)) (z.c.glo z.X z.G 3) (sa_cons (se_var 1) sa_nil)) sa_nil)) (sg_lst (sgs_cons (sg_name 2 nd) (sgs_cons (sg_name 3 nd) (sgs_cons (sg_name 4 nd) sgs_nil)))))
      (sss_one (ss_if (SW.st (sw_or (st_not (st_val (se_call ok (ok_L_leads_right z) (hr.mono (by decide)) (z.c.glo z.X z.G 2) (sa_cons (se_var 2) (sa_cons (se_var 3) (sa_cons (se_var 4) sa_nil)))))) (sw_or (st_not (st_val (se_call ok (ok_L_others_right z) (hr.mono (by decide)) (z.c.glo z.X z.G 1) (sa_cons (se_var 2) (sa_cons (se_var 3) (sa_cons (se_var 4) sa_nil)))))) (sw_or1 (st_not (st_val (se_call ok (ok_L_behind_right z) (hr.mono (by decide)) (z.c.glo z.X z.G 0) (sa_cons (se_var 2) (sa_cons (se_var 3) (sa_cons (se_var 4) sa_nil)))))))))) (sss_one (ss_ret se_bl)) sss_nil))))
      (sss_one (ss_ret se_bl)))
def good : Res D → Bool
  | .ok (.bl true) _ => true
  | _ => false
theorem good_ok {r : Res D} (h : good r = true) : ∃ h0, r = .ok (.bl true) h0 := by
  unfold good at h
  split at h
  · exact ⟨_, rfl⟩
  · cases h
theorem iso_good {F : AF} {ds : List D} (g : good (F ds []) = true) (hc : clBL ds = true) (h : AH) : isoF F ds h = .ok (.bl true) h := by
  obtain ⟨h0, e⟩ := good_ok g
  exact iso_ok e hc rfl h
def mn : List (List D) := [[.str "a", .str "b", .str "c"], [.str "x", .str "xx", .str "xxx"], [.str "b", .str "a", .str "aa"], [.str "zzzzzzzz", .str "z", .str "y"], [.str "m", .str "mn", .str "n"]]
theorem g_leads0 : good (F_L_leads_right [.str "a", .str "b", .str "c"] []) = true := by decide +kernel
theorem g_leads1 : good (F_L_leads_right [.str "x", .str "xx", .str "xxx"] []) = true := by decide +kernel
theorem g_leads2 : good (F_L_leads_right [.str "b", .str "a", .str "aa"] []) = true := by decide +kernel
theorem g_leads3 : good (F_L_leads_right [.str "zzzzzzzz", .str "z", .str "y"] []) = true := by decide +kernel
theorem g_leads4 : good (F_L_leads_right [.str "m", .str "mn", .str "n"] []) = true := by decide +kernel
theorem g_others0 : good (F_L_others_right [.str "a", .str "b", .str "c"] []) = true := by decide +kernel
theorem g_others1 : good (F_L_others_right [.str "x", .str "xx", .str "xxx"] []) = true := by decide +kernel
theorem g_others2 : good (F_L_others_right [.str "b", .str "a", .str "aa"] []) = true := by decide +kernel
theorem g_others3 : good (F_L_others_right [.str "zzzzzzzz", .str "z", .str "y"] []) = true := by decide +kernel
theorem g_others4 : good (F_L_others_right [.str "m", .str "mn", .str "n"] []) = true := by decide +kernel
theorem g_behind0 : good (F_L_behind_right [.str "a", .str "b", .str "c"] []) = true := by decide +kernel
theorem g_behind1 : good (F_L_behind_right [.str "x", .str "xx", .str "xxx"] []) = true := by decide +kernel
theorem g_behind2 : good (F_L_behind_right [.str "b", .str "a", .str "aa"] []) = true := by decide +kernel
theorem g_behind3 : good (F_L_behind_right [.str "zzzzzzzz", .str "z", .str "y"] []) = true := by decide +kernel
theorem g_behind4 : good (F_L_behind_right [.str "m", .str "mn", .str "n"] []) = true := by decide +kernel
theorem leads_ok {l : List D} (hl : l ∈ mn) (h : AH) : M_L_leads_right l h = .ok (.bl true) h := by
  unfold mn at hl
  simp only [List.mem_cons, List.not_mem_nil, or_false] at hl
  rcases hl with rfl | rfl | rfl | rfl | rfl
  · exact iso_good g_leads0 rfl h
  · exact iso_good g_leads1 rfl h
  · exact iso_good g_leads2 rfl h
  · exact iso_good g_leads3 rfl h
  · exact iso_good g_leads4 rfl h
theorem others_ok {l : List D} (hl : l ∈ mn) (h : AH) : M_L_others_right l h = .ok (.bl true) h := by
  unfold mn at hl
  simp only [List.mem_cons, List.not_mem_nil, or_false] at hl
  rcases hl with rfl | rfl | rfl | rfl | rfl
  · exact iso_good g_others0 rfl h
  · exact iso_good g_others1 rfl h
  · exact iso_good g_others2 rfl h
  · exact iso_good g_others3 rfl h
  · exact iso_good g_others4 rfl h
theorem behind_ok {l : List D} (hl : l ∈ mn) (h : AH) : M_L_behind_right l h = .ok (.bl true) h := by
  unfold mn at hl
  simp only [List.mem_cons, List.not_mem_nil, or_false] at hl
  rcases hl with rfl | rfl | rfl | rfl | rfl
  · exact iso_good g_behind0 rfl h
  · exact iso_good g_behind1 rfl h
  · exact iso_good g_behind2 rfl h
  · exact iso_good g_behind3 rfl h
  · exact iso_good g_behind4 rfl h
theorem mn3 {l : List D} (hl : l ∈ mn) : ∃ x y z, l = [x, y, z] := by
  unfold mn at hl
  simp only [List.mem_cons, List.not_mem_nil, or_false] at hl
  rcases hl with rfl | rfl | rfl | rfl | rfl <;> exact ⟨_, _, _, rfl⟩
theorem get_add (h l : AH) (k : Nat) : (h ++ l)[h.length + k]? = l[k]? := by
  rw [List.getElem?_append_right (by omega)]
  congr 1
  omega
def l1 (L : Nat) : AH := [.lst (mn.getD 0 []), .lst (mn.getD 1 []), .lst (mn.getD 2 []), .lst (mn.getD 3 []), .lst (mn.getD 4 []), .lst [.ref L, .ref (L + 1), .ref (L + 2), .ref (L + 3), .ref (L + 4)]]
def eM : AE := (eLst (aCons (eLst (aCons (eC (.str "a")) (aCons (eC (.str "b")) (aCons (eC (.str "c")) aNil)))) (aCons (eLst (aCons (eC (.str "x")) (aCons (eC (.str "xx")) (aCons (eC (.str "xxx")) aNil)))) (aCons (eLst (aCons (eC (.str "b")) (aCons (eC (.str "a")) (aCons (eC (.str "aa")) aNil)))) (aCons (eLst (aCons (eC (.str "zzzzzzzz")) (aCons (eC (.str "z")) (aCons (eC (.str "y")) aNil)))) (aCons (eLst (aCons (eC (.str "m")) (aCons (eC (.str "mn")) (aCons (eC (.str "n")) aNil)))) aNil))))))
theorem eM_ok (A : AEnv) (h : AH) : eM A h = .ok (.ref (h.length + 5)) (h ++ l1 h.length) := by
  unfold eM
  simp [eLst, aCons, aNil, eC, Res.bind, sizeLine, l1, mn, Nat.add_assoc]
theorem ixA_nat {h : AH} {a k : Nat} {xs : List D} {x : D} (e : h[a]? = some (.lst xs)) (ek : xs[k]? = some x) : ixA (.ref a) (.int k) h = .ok x h := by
  unfold ixA
  dsimp only
  rw [e]
  show atR xs (k : Int) id h = _
  unfold atR
  have hk := lt_of_get ek
  have : atI xs (k : Int) = some x := by
    unfold atI ixN
    have hk' : (k : Int) < xs.length := by omega
    simp [hk', ek]
  rw [this]
  rfl
theorem labels_ok {h : AH} {n : Nat} {p q : Int} (e : h[n]? = some (.lst [.int p, .int q, .int 2])) (hp : 0 ≤ p) (hq : 0 ≤ q) (hq' : q < 2 ^ 40) : ∃ (l : List D) (H : AH), l ∈ mn ∧ F_L_labels [.ref n] h = .ok (.ref H.length) (H ++ [.lst l]) ∧ Fr [n] h H := by
  have hn := lt_of_get e
  have fr0 : Fr [n] h (h ++ l1 h.length) := Fr.app _ _ _
  have e1 : (h ++ l1 h.length)[n]? = some (.lst [.int p, .int q, .int 2]) := (Fr.app [] h (l1 h.length)).keep e (by simp)
  obtain ⟨d, p', r', hd, _, _, _, et⟩ := take_ok (b := 5) e1 hp hq hq' (by decide) (by decide) (by decide) (by decide)
  have fr1 : Fr [n] (h ++ l1 h.length) ((h ++ l1 h.length).set n (.lst [.int p', .int q, .int r'])) := Fr.set (by simp)
  have em : (h ++ l1 h.length)[h.length + 5]? = some (.lst [.ref h.length, .ref (h.length + 1), .ref (h.length + 2), .ref (h.length + 3), .ref (h.length + 4)]) := get_add h (l1 h.length) 5
  have eone : F_L_one [.ref n, .ref (h.length + 5)] (h ++ l1 h.length) = .ok (.ref (h.length + d)) ((h ++ l1 h.length).set n (.lst [.int p', .int q, .int r'])) := by
    refine fn_ret rfl (st_ret ((ev_bin rfl ((ev_call (ev_cons rfl (ev_cons ((ev_call (ev_cons rfl ev_nil)).trans (show lenA [.ref (h.length + 5)] (h ++ l1 h.length) = .ok (.int 5) _ from ?_)) ev_nil))).trans et)).trans (ixA_nat (fr1.keep em (by simp; omega)) ?_)))
    · unfold lenA
      dsimp only
      rw [getL_of em rfl]
      rfl
    · have hd5 : d < 5 := by omega
      rcases (show d = 0 ∨ d = 1 ∨ d = 2 ∨ d = 3 ∨ d = 4 by omega) with rfl | rfl | rfl | rfl | rfl <;> rfl
  have hd5 : d < 5 := by omega
  have el : (h ++ l1 h.length)[h.length + d]? = some (.lst (mn.getD d [])) := by
    rw [get_add]
    rcases (show d = 0 ∨ d = 1 ∨ d = 2 ∨ d = 3 ∨ d = 4 by omega) with rfl | rfl | rfl | rfl | rfl <;> rfl
  refine ⟨mn.getD d [], (h ++ l1 h.length).set n (.lst [.int p', .int q, .int r']), ?_, ?_, fr0.trans fr1⟩
  · rcases (show d = 0 ∨ d = 1 ∨ d = 2 ∨ d = 3 ∨ d = 4 by omega) with rfl | rfl | rfl | rfl | rfl <;> simp [mn]
  · refine fn_ret rfl ((st_seq (st_set (eM_ok _ h))).trans (st_ret ((ev_call (ev_cons ((ev_call (ev_cons rfl (ev_cons rfl ev_nil))).trans eone) ev_nil)).trans ?_)))
    unfold listA
    dsimp only
    rw [getL_of (fr1.keep el (by simp; omega)) rfl]
theorem len5 {A : AEnv} (h : A.length = 5) : ∃ a0 a1 a2 a3 a4, A = [a0, a1, a2, a3, a4] := by
  match A, h with
  | [a0, a1, a2, a3, a4], _ => exact ⟨a0, a1, a2, a3, a4, rfl⟩
def Io (a : Nat) (items : List D) (A : AEnv) (h : AH) : Prop := A.length = 5 ∧ h[a]? = some (.lst items)
def cellB : AS := (sSeq (sAsg (gTL 3 (gsC (gN 2) (gsC (gN 3) (gsC (gN 4) gsN)))) (eCall M_L_labels (aCons (eCall M_L_spring (aCons (eVar 1) aNil)) aNil)))
  (sIf (tOrA (tNotA (tE (eCall M_L_leads_right (aCons (eVar 2) (aCons (eVar 3) (aCons (eVar 4) aNil)))))) (tOrA (tNotA (tE (eCall M_L_others_right (aCons (eVar 2) (aCons (eVar 3) (aCons (eVar 4) aNil)))))) (tNotA (tE (eCall M_L_behind_right (aCons (eVar 2) (aCons (eVar 3) (aCons (eVar 4) aNil)))))))) (sRet (eC (.bl false))) sNil))
theorem law_is : b_law = sSeq (sFor (iSeq (eSl (eBin addA (eVar 0) (eLst (aCons (eC (.int 0)) aNil))) pNone (pSome (eC (.int 3))))) (gN 1) cellB) (sRet (eC (.bl true))) := rfl
theorem cell_ok {a : Nat} {items : List D} {A : AEnv} {h : AH} {n : Int} (j : Io a items A h) (R : D → AH → Prop) (B C : AEnv → AH → Prop) (X : Exc → AEnv → AH → Prop) : SWp (cellB (A.set 1 (some (.int n))) h) (Io a items) R B C X := by
  obtain ⟨h5, ha⟩ := j
  obtain ⟨a0, a1, a2, a3, a4, rfl⟩ := len5 h5
  obtain ⟨p, q, hp, hq, hq', es⟩ := spring_ok n h
  have hlt := lt_of_get ha
  obtain ⟨l, H, hl, el, fr⟩ := labels_ok (get_last h (.lst [.int p, .int q, .int 2])) hp hq hq'
  obtain ⟨x, y, z, rfl⟩ := mn3 hl
  have fr1 : Fr [h.length] h H := (Fr.app _ h _).trans fr
  have haH : (H ++ [.lst [x, y, z]])[a]? = some (.lst items) := (Fr.app [] H _).keep (fr1.keep ha (by simp; omega)) (by simp)
  unfold cellB
  refine swp_seq (swp_asg (wp_eq ((ev_call (ev_cons ((ev_call (ev_cons rfl ev_nil)).trans es) ev_nil)).trans el) (ex_g (A1 := [a0, some (.int n), some x, some y, some z]) ?_ ?_)))
  · unfold gTL
    dsimp only
    rw [getL_last]
    rfl
  · have t1 : tNotA (tE (eCall M_L_leads_right (aCons (eVar 2) (aCons (eVar 3) (aCons (eVar 4) aNil))))) [a0, some (.int n), some x, some y, some z] (H ++ [.lst [x, y, z]]) = .ok false _ := ev_tnot (ev_tE ((ev_call (ev_cons rfl (ev_cons rfl (ev_cons rfl ev_nil)))).trans (leads_ok hl _)))
    have t2 : tNotA (tE (eCall M_L_others_right (aCons (eVar 2) (aCons (eVar 3) (aCons (eVar 4) aNil))))) [a0, some (.int n), some x, some y, some z] (H ++ [.lst [x, y, z]]) = .ok false _ := ev_tnot (ev_tE ((ev_call (ev_cons rfl (ev_cons rfl (ev_cons rfl ev_nil)))).trans (others_ok hl _)))
    have t3 : tNotA (tE (eCall M_L_behind_right (aCons (eVar 2) (aCons (eVar 3) (aCons (eVar 4) aNil))))) [a0, some (.int n), some x, some y, some z] (H ++ [.lst [x, y, z]]) = .ok false _ := ev_tnot (ev_tE ((ev_call (ev_cons rfl (ev_cons rfl (ev_cons rfl ev_nil)))).trans (behind_ok hl _)))
    exact swp_if (wp_eq ((ev_tor_f t1).trans ((ev_tor_f t2).trans t3)) (br_f rfl (swp_nil ⟨rfl, haH⟩)))
theorem plain (ns : List Int) (hl : ns.length ≤ 63) : ∃ h', F_law [.ref 0] [.fls (ns.map .int)] = .ok (.bl true) h' := by
  have hi : ∀ d ∈ cutA (ns.map D.int ++ [D.int 0]) none (some 3), ∃ n, d = D.int n := fun d hd => by
    have := List.mem_of_mem_drop (List.mem_of_mem_take hd)
    rcases List.mem_append.mp this with q | q
    · obtain ⟨n, _, rfl⟩ := List.mem_map.mp q; exact ⟨n, rfl⟩
    · exact ⟨0, List.mem_singleton.mp q⟩
  have hlen : (cutA (ns.map D.int ++ [D.int 0]) none (some 3)).length < FUEL := by
    refine Nat.lt_of_le_of_lt (Nat.le_trans (List.length_take_le' _ _) (by rw [List.length_drop]; exact Nat.sub_le _ _)) ?_
    rw [List.length_append, List.length_map]
    exact Nat.lt_of_le_of_lt (show _ ≤ 64 by simpa using hl) (by decide)
  have eS : ∀ A : AEnv, A[0]? = some (some (.ref 0)) → iSeq (eSl (eBin addA (eVar 0) (eLst (aCons (eC (.int 0)) aNil))) pNone (pSome (eC (.int 3)))) A [.fls (ns.map .int)] = .ok (.list 3) [.fls (ns.map .int), .lst [.int 0], .lst (ns.map .int ++ [.int 0]), .lst (cutA (ns.map .int ++ [.int 0]) none (some 3))] := fun A hA => by
    have e1 : eBin addA (eVar 0) (eLst (aCons (eC (.int 0)) aNil)) A [.fls (ns.map .int)] = .ok (.ref 2) [.fls (ns.map .int), .lst [.int 0], .lst (ns.map .int ++ [.int 0])] := by
      refine (ev_bin (show eVar 0 A _ = .ok (.ref 0) _ by unfold eVar; rw [hA]) (ev_lst (ev_cons rfl ev_nil) (by decide))).trans ?_
      show (if (ns.map D.int).length + 1 ≤ sizeLine then _ else _) = _
      rw [if_pos (by rw [List.length_map]; exact Nat.le_trans (show _ ≤ 64 by omega) (by decide))]
      rfl
    unfold iSeq eSl
    rw [e1]
    rfl
  generalize cutA (ns.map D.int ++ [D.int 0]) none (some 3) = items at hi hlen eS
  obtain ⟨d, h', e, rfl⟩ := wp_get (r := F_law [.ref 0] [.fls (ns.map .int)]) (Q := fun d _ => d = .bl true) (by
    unfold F_law
    rw [law_is]
    refine wp_fn rfl (swp_seq (swp_for (wp_eq (eS _ rfl) ?_)))
    refine for_items items (fun i A h => Io 3 items A h) hlen (fun i A h j => ?_) ⟨rfl, rfl⟩ (fun i A h d j ed => ?_) (fun A h j => swp_ret (wp_c rfl))
    · unfold Src.nxt
      rw [j.2]
    · obtain ⟨n, rfl⟩ := hi d (List.mem_of_getElem? ed)
      exact ex_g rfl (cell_ok j _ _ _ _))
  exact ⟨h', e⟩

def loose : List Str := (["_wall", "LedError", "NoName", "BadRow", "BadTable", "Fact", "is_number", "LETTERS", "MOST_LETTERS", "KINDS", "PAIRS", "is_label", "is_name", "checked_name", "name_key", "row_name", "Valued", "Turned", "Thing", "Rest"] : List Str) ++ (["Other", "Lead", "Stop", "is_row", "row_key", "check_rows", "Table", "NOTHING", "ROUND", "GROWS", "thing_answer", "leaving_answer", "Way", "Reader", "reader_of", "End", "end_of", "walk_end", "answer_of", "moves_of"] : List Str) ++ (["count_moves", "place_of", "_law_spring", "_law_take", "_law_one", "_law_labels", "_law_told", "_law_leads_right", "_law_others_right", "_law_behind_right"] : List Str)
abbrev R : PySem.W.OpenRow := PySem.W.OpenLaw.row PySem.Challenge.rw_lednames_k18_known_answers
abbrev hk : PySem.W.Hook := hookL 4 hd
noncomputable def ob (s : PySem.W.SharedT) : He.AlD := obsLG 4 hd (HandSHeadRun.getT s)
theorem ob_eq (s : PySem.W.SharedT) : ob s = hk.obs s.abs := obsLG_eq (HandSHeadRun.getT_eq s)
set_option maxHeartbeats 0 in
theorem run (w : World) : HandSHeadRun.RunEq R (PySem.W.view R.prog [56]) hk ob 20000 loose w := by
  intro os
  kernel_rfl
end K18
open PySem PySem.W PySem.Calls PyProof.Rows
set_option maxHeartbeats 0 in
theorem PySem.Challenge.cw_lednames_k18_known_answers_holds : PySem.Challenge.rw_lednames_k18_known_answers.Holds := by
  w_on; o_law
  refine HandSHeadRun.head_any (r := OpenLaw.row PySem.Challenge.rw_lednames_k18_known_answers) (q := view (OpenLaw.row PySem.Challenge.rw_lednames_k18_known_answers).prog [56]) (H := K18.hk) (ob := K18.ob) (M := 20000) (loose := K18.loose) (d := HandSHeadRun.topDef (OpenLaw.row PySem.Challenge.rw_lednames_k18_known_answers).prog 56) (kwd := []) K18.ob_eq
    (by kernel_rfl) (fun s => by kernel_rfl) K18.run (by kernel_rfl) (by kernel_rfl) (by kernel_rfl) (by rfl) (by first | assumption | decide +kernel) (by decide +kernel) ⟨rfl, rfl, rfl, rfl, rfl, by decide +kernel⟩ ?hw ?hc
  case hw => w_witness2
  case hc =>
    refine L2.walk_ofE (l := PySem.Challenge.rw_lednames_k18_known_answers) (n := 63) (k := 14) (x := "_law_script") (CX := L2.CX0) rfl (by decide) (by kernel_rfl) ⟨rfl, by decide, by decide⟩ ?F (fun _ _ _ _ z => z)
    intro w mg fa h Y G hmg0
    obtain ⟨K, KX, c, nl⟩ := Y
    have hmg : mg ("law" : PySem.Str) = some (.ref fa) := by
      have e : (HandSHeadRun.topDef (OpenLaw.row PySem.Challenge.rw_lednames_k18_known_answers).prog 56).name = ("law" : PySem.Str) := by kernel_rfl
      rw [← e]
      exact hmg0
    have e := hmg.symm.trans (c.glo (d := K18.hd) KX G 94)
    cases e
    obtain ⟨fd, hb, hF⟩ := K18.okE_law (P := (PySem.Challenge.rw_lednames_k18_known_answers).prog) (w := w) (⟨c, KX, G⟩ : K18.Zz K mg h)
    exact ⟨K, fd, fun vs H Q _ => Led.spA K (K18.CT K w) 1 K18.F_law vs H Q fun _ _ _ => False, KX, hb, fun H a ns hl hO hS => Led.law_sp nl K18.plain H a ns hl hO hS, fun base _ _ => hF base⟩
#print axioms PySem.Challenge.cw_lednames_k18_known_answers_holds

