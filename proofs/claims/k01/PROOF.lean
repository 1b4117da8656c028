import PyProof.Rows.All
import Wide.All
import OpenK.AllK
import Wide.FinOn
import HandS.ForMost
import HandS.ForExc
import HandS.EndBits
import HandS.Wide
import HandS.WideBits
import HandS.Style
import HandS.TupAny
import HandS.StrMore
import HandS.IsInst
import HandS.ExcIs
import HandS.ExcField
import HandS.ExcSuper
import HandS.Text
import KE.IntTextLaws
import Wide.Loose
import HandS.Dict
import HandS.WordsDict
import PyProof.AutoSeq1
import HandS.More
import HandS.TupLe
import HandS.DictComp
import PyProof.ListStr
import KE.IntTextText
import PySem.Challenge.RW_allgoon_k01_formulas
set_option Elab.async false
set_option linter.all false
set_option autoImplicit false
set_option maxRecDepth 100000
/-! A small language of values: what a def of the program does, as a plain function. -/
namespace Mi
/-- a text, as its codes -/
abbrev Tx := List Nat
inductive MV where
  | non | bl (b : Bool) | int (i : Int) | str (s : Tx) | tup (l : List MV) | ref (i : Nat) | rol (l : List MV)
  deriving Inhabited
inductive MO where
  | lst (l : List MV) | dic (l : List (MV × MV)) | ins (c : Nat) (fs : List (Tx × MV))
  deriving Inhabited
abbrev Hm := List MO
abbrev Env := List (Option MV)
/-- an error: its class, its own fields where it has a dict -/
structure MX where
  cls : Nat
  fs : Option (List (Tx × MV))
inductive R (α : Type) where
  | ok (a : α) (M : Hm) | exc (x : MX) (M : Hm) | bad
def R.bind {α β : Type} (r : R α) (f : α → Hm → R β) : R β := match r with
  | .ok a M => f a M
  | .exc x M => .exc x M
  | .bad => .bad
inductive O where
  | nx | brk | cnt | ret (d : MV)
inductive RS where
  | ok (o : O) (env : Env) (M : Hm) | exc (x : MX) (env : Env) (M : Hm) | bad
abbrev Fe := Env → Hm → R MV
abbrev Ft := Env → Hm → R Bool
abbrev Fs := Env → Hm → RS
abbrev Fa := Env → Hm → R (List MV)
/-- as bind, where nothing may be raised -/
def R.bindN {α β : Type} (r : R α) (f : α → Hm → R β) : R β := match r with
  | .ok a M => f a M
  | _ => .bad
theorem R.bindN_bind {α β γ : Type} (r : R α) (f : α → Hm → R β) (h : β → Hm → R γ) : (r.bindN f).bind h = r.bindN fun a M => (f a M).bind h := by
  cases r <;> rfl
/-- from an expression's end to a statement's -/
def R.st {α : Type} (r : R α) (env : Env) (f : α → Hm → RS) : RS := match r with
  | .ok a M => f a M
  | .exc x M => .exc x env M
  | .bad => .bad
abbrev SL : Nat := 16777216

/-! ### expressions -/
def eVar (i : Nat) : Fe := fun env M => match env[i]? with
  | some (some d) => .ok d M
  | _ => .bad
def eC (d : MV) : Fe := fun _ M => .ok d M
/-- two places, one place, on values -/
def eOp (f : MV → MV → Hm → R MV) (a b : Fe) : Fe := fun env M => (a env M).bind fun x M1 => (b env M1).bind fun y M2 => f x y M2
def eUn (f : MV → Hm → R MV) (a : Fe) : Fe := fun env M => (a env M).bind fun x M1 => f x M1
def aNil : Fa := fun _ M => .ok [] M
def aCons (a : Fe) (r : Fa) : Fa := fun env M => (a env M).bind fun x M1 => (r env M1).bind fun xs M2 => .ok (x :: xs) M2
def eTup (t : Fa) : Fe := fun env M => (t env M).bind fun xs M1 => if xs.length ≤ SL then .ok (.tup xs) M1 else .bad
def eLst (t : Fa) : Fe := fun env M => (t env M).bind fun xs M1 => if xs.length ≤ SL then .ok (.ref M1.length) (M1 ++ [.lst xs]) else .bad
/-- a built-in, a def, on values -/
def eFn (f : List MV → Hm → R MV) (t : Fa) : Fe := fun env M => (t env M).bind fun xs M1 => f xs M1
/-- a method of a built-in type -/
def eMt (f : MV → List MV → Hm → R MV) (o : Fe) (t : Fa) : Fe := fun env M => (o env M).bind fun x M1 => (t env M1).bind fun xs M2 => f x xs M2
def eIf (c : Ft) (a b : Fe) : Fe := fun env M => (c env M).bind fun k M1 => if k then a env M1 else b env M1
def eAnd (a b : Fe) : Fe := fun env M => (a env M).bind fun x M1 => match x with
  | .bl true => b env M1
  | .bl false => .ok (.bl false) M1
  | _ => .bad
def eOr (a b : Fe) : Fe := fun env M => (a env M).bind fun x M1 => match x with
  | .bl true => .ok (.bl true) M1
  | .bl false => b env M1
  | _ => .bad
/-- a test as a value -/
def eT (c : Ft) : Fe := fun env M => (c env M).bind fun k M1 => .ok (.bl k) M1
def truth (M : Hm) : MV → Option Bool
  | .non => some false
  | .bl b => some b
  | .int i => some (i != 0)
  | .str s => if s.length ≤ SL then some (!s.isEmpty) else none
  | .tup l => some (!l.isEmpty)
  | .ref i => match M[i]? with
    | some (.lst l) => some (!l.isEmpty)
    | some (.dic l) => some (!l.isEmpty)
    | _ => none
  | .rol l => some (!l.isEmpty)
def cV (a : Fe) : Ft := fun env M => (a env M).bind fun x M1 => match truth M1 x with
  | some b => .ok b M1
  | none => .bad
/-- a value that is a bool -/
def cB (a : Fe) : Ft := fun env M => (a env M).bind fun x M1 => match x with
  | .bl b => .ok b M1
  | _ => .bad
def cAnd (a b : Ft) : Ft := fun env M => (a env M).bind fun k M1 => if k then b env M1 else .ok false M1
def cOr (a b : Ft) : Ft := fun env M => (a env M).bind fun k M1 => if k then .ok true M1 else b env M1
def cNot (a : Ft) : Ft := fun env M => (a env M).bind fun k M1 => .ok (!k) M1

/-! ### what is walked -/
/-- what comes at turn k: none: it can't be told; some none: the end -/
abbrev Ni := Hm → Nat → Option (Option MV)
abbrev Fi := Env → Hm → R (Ni × Nat)
def nT (l : List MV) : Ni := fun _ k => some l[k]?
def nL (i : Nat) : Ni := fun M k => match M[i]? with
  | some (.lst l) => some l[k]?
  | _ => none
abbrev Ftg := MV → Env → Hm → R Env
def gN (i : Nat) : Ftg := fun d env M => .ok (env.set i (some d)) M
abbrev Ftgs := List MV → Env → Hm → R Env
def gsNil : Ftgs := fun ds env M => match ds with
  | [] => .ok env M
  | _ => .bad
def gsCons (g : Ftg) (r : Ftgs) : Ftgs := fun ds env M => match ds with
  | d :: ds => (g d env M).bind fun env1 M1 => r ds env1 M1
  | [] => .bad
def gT (n : Nat) (r : Ftgs) : Ftg := fun d env M => match d with
  | .tup l => if l.length = n then r l env M else .bad
  | _ => .bad
def wipeE (env : Env) : List Nat → Env
  | [] => env
  | v :: vs => (wipeE env vs).set v none
/-- the turns of a comprehension: acc, what is made so far -/
def lcGo (ni : Ni) (tg : Ftg) (c : Ft) (e : Fe) (env0 : Env) : Nat → Nat → List MV → Hm → R (List MV)
  | 0, _, _, _ => .bad
  | n + 1, k, acc, M => match ni M k with
    | none => .bad
    | some none => .ok acc M
    | some (some x) => (tg x env0 M).bindN fun env1 M1 => (c env1 M1).bindN fun b M2 =>
      if b then (e env1 M2).bindN fun y M3 => if acc.length < SL then lcGo ni tg c e env0 n (k + 1) (acc ++ [y]) M3 else .bad
      else lcGo ni tg c e env0 n (k + 1) acc M2
def cYes : Ft := fun _ M => .ok true M
def eLc (it : Fi) (tg : Ftg) (c : Ft) (e : Fe) (vs : List Nat) : Fe := fun env M => (it env M).bind fun p M1 =>
  (lcGo p.1 tg c e (wipeE env vs) p.2 0 [] M1).bind fun l M2 => .ok (.ref M2.length) (M2 ++ [.lst l])
def iL (a : Fe) : Fi := fun env M => (a env M).bind fun x M1 => match x with
  | .ref i => match M1[i]? with
    | some (.lst l) => .ok (nL i, l.length + 1) M1
    | _ => .bad
  | .rol l => .ok (nT l, l.length + 1) M1
  | _ => .bad
def iT (a : Fe) : Fi := fun env M => (a env M).bind fun x M1 => match x with
  | .tup l => .ok (nT l, l.length + 1) M1
  | _ => .bad
/-- lo, lo + c, .. n of them -/
def nR (lo c : Int) (n : Nat) : Ni := fun _ k => some (if k < n then some (.int (lo + k * c)) else none)
def iS (a : Fe) : Fi := fun env M => (a env M).bind fun x M1 => match x with
  | .str s => .ok (nT (s.map fun c => .str [c]), s.length + 1) M1
  | _ => .bad

/-! ### statements -/
def sNx : Fs := fun env M => .ok .nx env M
def sSeq (a b : Fs) : Fs := fun env M => match a env M with
  | .ok .nx env1 M1 => b env1 M1
  | r => r
def sSet (i : Nat) (e : Fe) : Fs := fun env M => (e env M).st env fun d M1 => .ok .nx (env.set i (some d)) M1
def sAsg (g : Ftg) (e : Fe) : Fs := fun env M => (e env M).st env fun d M1 => (g d env M1).st env fun env1 M2 => .ok .nx env1 M2
def sAug (f : MV → MV → Hm → R MV) (i : Nat) (e : Fe) : Fs := fun env M => match env[i]? with
  | some (some x) => (e env M).st env fun y M1 => (f x y M1).st env fun z M2 => .ok .nx (env.set i (some z)) M2
  | _ => .bad
def sEx (e : Fe) : Fs := fun env M => (e env M).st env fun _ M1 => .ok .nx env M1
def sRet (e : Fe) : Fs := fun env M => (e env M).st env fun d M1 => .ok (.ret d) env M1
def sRetN : Fs := fun env M => .ok (.ret .non) env M
def sIf (c : Ft) (a b : Fs) : Fs := fun env M => (c env M).st env fun k M1 => if k then a env M1 else b env M1
def sBrk : Fs := fun env M => .ok .brk env M
def sCnt : Fs := fun env M => .ok .cnt env M
def whlGo (c : Ft) (b : Fs) : Nat → Fs
  | 0 => fun _ _ => .bad
  | n + 1 => fun env M => (c env M).st env fun k M1 => if k then
      match b env M1 with
      | .ok .nx env2 M2 => whlGo c b n env2 M2
      | .ok .cnt env2 M2 => whlGo c b n env2 M2
      | .ok .brk env2 M2 => .ok .nx env2 M2
      | r => r
    else .ok .nx env M1
/-- most turns of a while -/
abbrev WL : Nat := 1073741824
def sWhl (c : Ft) (b : Fs) : Fs := whlGo c b WL
def forGo (ni : Ni) (tg : Ftg) (b : Fs) : Nat → Nat → Fs
  | 0, _ => fun _ _ => .bad
  | n + 1, k => fun env M => match ni M k with
    | none => .bad
    | some none => .ok .nx env M
    | some (some x) => (tg x env M).st env fun env1 M1 => match b env1 M1 with
      | .ok .nx env2 M2 => forGo ni tg b n (k + 1) env2 M2
      | .ok .cnt env2 M2 => forGo ni tg b n (k + 1) env2 M2
      | .ok .brk env2 M2 => .ok .nx env2 M2
      | r => r
def sFor (it : Fi) (tg : Ftg) (b : Fs) : Fs := fun env M => (it env M).st env fun p M1 => forGo p.1 tg b p.2 0 env M1
/-- raise C(..) -/
def sRaise (f : List MV → Hm → R MX) (t : Fa) : Fs := fun env M => (t env M).st env fun xs M1 => (f xs M1).st env fun x M2 => .exc x env M2

/-! ### defs -/
abbrev Ga := Nat → List MV → Hm → R MV
structure Df where
  np : Nat
  ns : Nat
  bd : Ga → Fs
def RS.res : RS → R MV
  | .ok .nx _ M => .ok .non M
  | .ok (.ret d) _ M => .ok d M
  | .ok _ _ _ => .bad
  | .exc x _ M => .exc x M
  | .bad => .bad
/-! what nobody can come to any more is left out -/
mutual
def beqV : MV → MV → Bool
  | .non, .non => true
  | .bl a, .bl b => a == b
  | .int i, .int j => decide (i = j)
  | .str s, .str t => decide (s = t)
  | .tup l, .tup m => beqVs l m
  | .ref i, .ref j => decide (i = j)
  | .rol l, .rol m => beqVs l m
  | _, _ => false
def beqVs : List MV → List MV → Bool
  | [], [] => true
  | a :: l, b :: m => beqV a b && beqVs l m
  | _, _ => false
end
def beqP : List (MV × MV) → List (MV × MV) → Bool
  | [], [] => true
  | (a, x) :: l, (b, y) :: m => beqV a b && beqV x y && beqP l m
  | _, _ => false
def beqF : List (Tx × MV) → List (Tx × MV) → Bool
  | [], [] => true
  | (a, x) :: l, (b, y) :: m => decide (a = b) && beqV x y && beqF l m
  | _, _ => false
def beqO : MO → MO → Bool
  | .lst l, .lst m => beqVs l m
  | .dic l, .dic m => beqP l m
  | .ins c l, .ins d m => decide (c = d) && beqF l m
  | _, _ => false
mutual
/-- all places in a value are below k -/
def rfs (k : Nat) : MV → Bool
  | .tup l => rfsL k l
  | .ref i => decide (i < k)
  | .rol l => rfsL k l
  | _ => true
def rfsL (k : Nat) : List MV → Bool
  | [] => true
  | d :: l => rfs k d && rfsL k l
end
def rfsP (k : Nat) : List (MV × MV) → Bool
  | [] => true
  | (_, x) :: l => rfs k x && rfsP k l
def rfsF (k : Nat) : List (Tx × MV) → Bool
  | [] => true
  | (_, x) :: l => rfs k x && rfsF k l
def rfsO (k : Nat) : MO → Bool
  | .lst l => rfsL k l
  | .dic l => rfsP k l
  | .ins _ l => rfsF k l
/-- what stood stands, or is changed to what has places below k -/
def okH (k : Nat) : Hm → Hm → Bool
  | [], _ => true
  | a :: M, b :: M' => (beqO a b || rfsO k b) && okH k M M'
  | _ :: _, [] => false
def gcV (M M' : Hm) (d : MV) : MV × Hm :=
  if okH M.length M M' then
    if rfs M.length d then (d, M'.take M.length)
    else match d with
      | .ref j => match M'[j]? with
        | some o => if decide (M.length ≤ j) && rfsO M.length o then (.ref M.length, M'.take M.length ++ [o]) else (d, M')
        | none => (d, M')
      | _ => (d, M')
  else (d, M')
def gcX (M M' : Hm) (x : MX) : Hm :=
  if okH M.length M M' then
    match x.fs with
    | none => M'.take M.length
    | some fs => if rfsF M.length fs then M'.take M.length else M'
  else M'
def gcR (M : Hm) : R MV → R MV
  | .ok d M' => .ok (gcV M M' d).1 (gcV M M' d).2
  | .exc x M' => .exc x (gcX M M' x)
  | .bad => .bad
/-- an expression, and nothing left of it but its value -/
def eGc (e : Fe) : Fe := fun env M => gcR M (e env M)
def callD (d : Df) (G : Ga) (ds : List MV) (M : Hm) : R MV :=
  if ds.length = d.np then gcR M (d.bd G (ds.map some ++ List.replicate (d.ns - d.np) none) M).res else .bad
/-- the defs of a text, n calls deep -/
def run (tab : Nat → Option Df) : Nat → Ga
  | 0 => fun _ _ _ => .bad
  | n + 1 => fun f ds M => match tab f with
    | some d => callD d (run tab n) ds M
    | none => .bad
def eCall (G : Ga) (f : Nat) (t : Fa) : Fe := eFn (G f) t
end Mi
set_option maxRecDepth 100000
/-! The relation between the small language's values and those of the layer. -/
namespace Mi
open PySem PySem.Spec PyProof.Rows L2

def T (l : Tx) : Str := ⟨l.toArray⟩
theorem T_inj {a b : Tx} (h : T a = T b) : a = b := by
  have e : a.toArray = b.toArray := congrArg Str.cps h
  simpa using congrArg Array.toList e
theorem T_len (a : Tx) : (T a).length = a.length := by
  show a.toArray.size = a.length
  simp
theorem T_list (a : Tx) : (T a).cps.toList = a := by
  show a.toArray.toList = a
  simp
theorem T_app (a b : Tx) : T a ++ T b = T (a ++ b) := by
  show Str.mk (a.toArray ++ b.toArray) = Str.mk (a ++ b).toArray
  simp
theorem T_surj (s : Str) : ∃ l, s = T l := ⟨s.cps.toList, by cases s; simp [T]⟩

/-- where the small language's classes stand, and what is written -/
structure Cfg where
  K : PySem.W.Frag
  /-- a class's address -/
  cA : Nat → Addr

/-- a list that is read only -/
def FzL (K : PySem.W.Frag) (H : Hp) (a : Addr) (xs : List V) : Prop :=
  (∃ o, H a = some (.frz o (.lst xs))) ∨
    ∃ (o : Obj) (its : Array Value) (n : Nat), K.lookup a = some o ∧ o.cls = .type "list" ∧ o.dict = none ∧ o.data = .seq its n ∧ its.size ≤ sizeLine ∧ Vals xs its.toList
theorem FzL.sq {K : PySem.W.Frag} {H : Hp} {a : Addr} {xs : List V} (h : FzL K H a xs) : SqL K H a xs := by
  rcases h with ⟨o, h⟩ | h
  · exact .inl (.inr ⟨o, h⟩)
  · exact .inr h

section
variable (K : PySem.W.Frag)
mutual
def RV (H : Hp) (ρ : List Addr) : MV → V → Prop
  | .non, v => v = .non
  | .bl b, v => v = .bl b
  | .int i, v => v = .int i
  | .str s, v => v = .str (T s)
  | .tup l, v => ∃ a xs, v = .ref a ∧ SqT K H a xs ∧ RVs H ρ l xs
  | .ref i, v => ∃ a, ρ[i]? = some a ∧ v = .ref a
  | .rol l, v => ∃ a xs, v = .ref a ∧ FzL K H a xs ∧ RVs H ρ l xs
def RVs (H : Hp) (ρ : List Addr) : List MV → List V → Prop
  | [], xs => xs = []
  | d :: ds, xs => ∃ v vs, xs = v :: vs ∧ RV H ρ d v ∧ RVs H ρ ds vs
end
end

/-- what is never lost -/
structure Mo (K : PySem.W.Frag) (ρ ρ' : List Addr) (H H' : Hp) : Prop where
  pre : ρ <+: ρ'
  tup : ∀ a xs, SqT K H a xs → SqT K H' a xs
  fz : ∀ a xs, FzL K H a xs → FzL K H' a xs
structure Ext (K : PySem.W.Frag) (ρ ρ' : List Addr) (H H' : Hp) : Prop extends Mo K ρ ρ' H H' where
  /-- what is tracked beside the places stands -/
  fr : ∀ a o, H a = some o → a ∉ ρ → H' a = some o
  /-- new places were free -/
  nw : ∀ a, a ∈ ρ' → a ∈ ρ ∨ H a = none
section
variable {K : PySem.W.Frag} {ρ ρ' ρ2 : List Addr} {H H' H2 : Hp}
theorem Ext.refl : Ext K ρ ρ H H := ⟨⟨List.prefix_refl _, fun _ _ h => h, fun _ _ h => h⟩, fun _ _ h _ => h, fun _ h => .inl h⟩
theorem Ext.trans (a : Ext K ρ ρ' H H') (b : Ext K ρ' ρ2 H' H2) : Ext K ρ ρ2 H H2 := by
  refine ⟨⟨a.pre.trans b.pre, fun x y h => b.tup x y (a.tup x y h), fun x y h => b.fz x y (a.fz x y h)⟩, fun x o h hn => ?_, fun x hx => ?_⟩
  · refine b.fr x o (a.fr x o h hn) fun hm => ?_
    rcases a.nw x hm with q | q
    · exact hn q
    · rw [h] at q; cases q
  · rcases b.nw x hx with q | q
    · exact a.nw x q
    · by_cases hm : x ∈ ρ
      · exact .inl hm
      · cases e : H x with
        | none => exact .inr rfl
        | some o => rw [a.fr x o e hm] at q; cases q
theorem Mo.trans (a : Mo K ρ ρ' H H') (b : Mo K ρ' ρ2 H' H2) : Mo K ρ ρ2 H H2 := ⟨a.pre.trans b.pre, fun x y h => b.tup x y (a.tup x y h), fun x y h => b.fz x y (a.fz x y h)⟩
theorem Mo.ix (e : Mo K ρ ρ' H H') {i : Nat} {a : Addr} (h : ρ[i]? = some a) : ρ'[i]? = some a := by
  obtain ⟨t, rfl⟩ := e.pre
  obtain ⟨hl, he⟩ := List.getElem?_eq_some_iff.mp h
  rw [List.getElem?_append_left hl]
  exact h
mutual
theorem RV.mo (e : Mo K ρ ρ' H H') : ∀ {d : MV} {v : V}, RV K H ρ d v → RV K H' ρ' d v
  | .non, _, h => by unfold RV at h ⊢; exact h
  | .bl _, _, h => by unfold RV at h ⊢; exact h
  | .int _, _, h => by unfold RV at h ⊢; exact h
  | .str _, _, h => by unfold RV at h ⊢; exact h
  | .tup l, v, h => by
    unfold RV at h ⊢
    obtain ⟨a, xs, h1, h2, h3⟩ := h
    exact ⟨a, xs, h1, e.tup a xs h2, RVs.mo e h3⟩
  | .ref i, v, h => by
    unfold RV at h ⊢
    obtain ⟨a, h1, h2⟩ := h
    exact ⟨a, e.ix h1, h2⟩
  | .rol l, v, h => by
    unfold RV at h ⊢
    obtain ⟨a, xs, h1, h2, h3⟩ := h
    exact ⟨a, xs, h1, e.fz a xs h2, RVs.mo e h3⟩
theorem RVs.mo (e : Mo K ρ ρ' H H') : ∀ {ds : List MV} {vs : List V}, RVs K H ρ ds vs → RVs K H' ρ' ds vs
  | [], _, h => by unfold RVs at h ⊢; exact h
  | d :: ds, xs, h => by
    unfold RVs at h ⊢
    obtain ⟨v, vs, h1, h2, h3⟩ := h
    exact ⟨v, vs, h1, RV.mo e h2, RVs.mo e h3⟩
end
theorem RV.mono (e : Ext K ρ ρ' H H') {d : MV} {v : V} (h : RV K H ρ d v) : RV K H' ρ' d v := h.mo e.toMo
theorem RVs.mono (e : Ext K ρ ρ' H H') {ds : List MV} {vs : List V} (h : RVs K H ρ ds vs) : RVs K H' ρ' ds vs := h.mo e.toMo
theorem Ext.ix (e : Ext K ρ ρ' H H') {i : Nat} {a : Addr} (h : ρ[i]? = some a) : ρ'[i]? = some a := e.toMo.ix h
theorem RVs.len : ∀ {ds : List MV} {vs : List V}, RVs K H ρ ds vs → vs.length = ds.length
  | [], _, h => by unfold RVs at h; rw [h]; rfl
  | d :: ds, xs, h => by
    unfold RVs at h
    obtain ⟨v, vs, rfl, _, h3⟩ := h
    rw [List.length_cons, List.length_cons, RVs.len h3]
theorem RVs.get : ∀ {ds : List MV} {vs : List V}, RVs K H ρ ds vs → ∀ {k : Nat} {d : MV}, ds[k]? = some d → ∃ v, vs[k]? = some v ∧ RV K H ρ d v
  | [], _, h, k, d, e => by simp at e
  | d :: ds, xs, h, k, d', e => by
    unfold RVs at h
    obtain ⟨v, vs, rfl, h2, h3⟩ := h
    cases k with
    | zero =>
      simp at e
      subst e
      exact ⟨v, rfl, h2⟩
    | succ k =>
      simp at e
      obtain ⟨v', e', r'⟩ := RVs.get h3 e
      exact ⟨v', by simpa using e', r'⟩
theorem RVs.app : ∀ {ds es : List MV} {vs ws : List V}, RVs K H ρ ds vs → RVs K H ρ es ws → RVs K H ρ (ds ++ es) (vs ++ ws)
  | [], es, _, ws, h, h' => by unfold RVs at h; subst h; exact h'
  | d :: ds, es, xs, ws, h, h' => by
    unfold RVs at h
    obtain ⟨v, vs, rfl, h2, h3⟩ := h
    show RVs K H ρ (d :: (ds ++ es)) (v :: (vs ++ ws))
    unfold RVs
    exact ⟨v, _, rfl, h2, RVs.app h3 h'⟩
theorem RVs.nil : RVs K H ρ [] [] := by unfold RVs; rfl
theorem RVs.cons {d : MV} {ds : List MV} {v : V} {vs : List V} (h : RV K H ρ d v) (t : RVs K H ρ ds vs) : RVs K H ρ (d :: ds) (v :: vs) := by
  unfold RVs
  exact ⟨v, vs, rfl, h, t⟩
theorem RVs.take : ∀ {ds : List MV} {vs : List V} (n : Nat), RVs K H ρ ds vs → RVs K H ρ (ds.take n) (vs.take n)
  | [], _, n, h => by unfold RVs at h; subst h; simp; exact RVs.nil
  | d :: ds, xs, n, h => by
    unfold RVs at h
    obtain ⟨v, vs, rfl, h2, h3⟩ := h
    cases n with
    | zero => exact RVs.nil
    | succ n => exact RVs.cons h2 (RVs.take n h3)
theorem RVs.drop : ∀ {ds : List MV} {vs : List V} (n : Nat), RVs K H ρ ds vs → RVs K H ρ (ds.drop n) (vs.drop n)
  | [], _, n, h => by unfold RVs at h; subst h; simp; exact RVs.nil
  | d :: ds, xs, n, h => by
    unfold RVs at h
    obtain ⟨v, vs, rfl, h2, h3⟩ := h
    cases n with
    | zero => exact RVs.cons h2 h3
    | succ n => exact RVs.drop n h3
theorem RVs.rev : ∀ {ds : List MV} {vs : List V}, RVs K H ρ ds vs → RVs K H ρ ds.reverse vs.reverse
  | [], _, h => by unfold RVs at h; subst h; exact RVs.nil
  | d :: ds, xs, h => by
    unfold RVs at h
    obtain ⟨v, vs, rfl, h2, h3⟩ := h
    rw [List.reverse_cons, List.reverse_cons]
    exact RVs.app (RVs.rev h3) (RVs.cons h2 RVs.nil)
theorem RVs.set : ∀ {ds : List MV} {vs : List V} (k : Nat) {d : MV} {v : V}, RVs K H ρ ds vs → RV K H ρ d v → RVs K H ρ (ds.set k d) (vs.set k v)
  | [], _, k, d, v, h, r => by unfold RVs at h; subst h; exact RVs.nil
  | d' :: ds, xs, k, d, v, h, r => by
    unfold RVs at h
    obtain ⟨v', vs, rfl, h2, h3⟩ := h
    cases k with
    | zero => exact RVs.cons r h3
    | succ k => exact RVs.cons h2 (RVs.set k h3 r)
theorem RVs.snoc {ds : List MV} {vs : List V} {d : MV} {v : V} (h : RVs K H ρ ds vs) (r : RV K H ρ d v) : RVs K H ρ (ds ++ [d]) (vs ++ [v]) := h.app (RVs.cons r RVs.nil)
end

/-! ### the heap -/
/-- pairs of a dict: a key is an int or a text -/
def keyM : MV → Option Key
  | .int i => some (.inl i)
  | .str s => some (.inr (T s))
  | _ => none
def RK (K : PySem.W.Frag) (H : Hp) (ρ : List Addr) : List (MV × MV) → List (Key × V) → Prop
  | [], ks => ks = []
  | (k, d) :: r, ks => ∃ k' v t, ks = (k', v) :: t ∧ keyM k = some k' ∧ RV K H ρ d v ∧ RK K H ρ r t
def RF (K : PySem.W.Frag) (H : Hp) (ρ : List Addr) : List (Tx × MV) → List (Str × V) → Prop
  | [], ks => ks = []
  | (f, d) :: r, ks => ∃ v t, ks = (T f, v) :: t ∧ RV K H ρ d v ∧ RF K H ρ r t
def RO (C : Cfg) (H : Hp) (ρ : List Addr) : MO → Addr → Prop
  | .lst l, a => ∃ xs, H a = some (.lst xs) ∧ RVs C.K H ρ l xs
  | .dic l, a => ∃ ks, H a = some (.dK ks) ∧ RK C.K H ρ l ks
  | .ins c fs, a => ∃ dx gs, H a = some (.ins (C.cA c) dx gs) ∧ RF C.K H ρ fs gs
structure RH (C : Cfg) (ρ : List Addr) (H : Hp) (M : Hm) : Prop where
  len : ρ.length = M.length
  nd : ρ.Nodup
  ob : ∀ (i : Nat) (o : MO), M[i]? = some o → ∃ a, ρ[i]? = some a ∧ RO C H ρ o a
section
variable {C : Cfg} {ρ ρ' : List Addr} {H H' : Hp} {M : Hm}
theorem RK.mo (e : Mo C.K ρ ρ' H H') : ∀ {l : List (MV × MV)} {ks : List (Key × V)}, RK C.K H ρ l ks → RK C.K H' ρ' l ks
  | [], _, h => h
  | (k, d) :: r, ks, h => by
    obtain ⟨k', v, t, h1, h2, h3, h4⟩ := h
    exact ⟨k', v, t, h1, h2, h3.mo e, RK.mo e h4⟩
theorem RF.mo (e : Mo C.K ρ ρ' H H') : ∀ {l : List (Tx × MV)} {ks : List (Str × V)}, RF C.K H ρ l ks → RF C.K H' ρ' l ks
  | [], _, h => h
  | (k, d) :: r, ks, h => by
    obtain ⟨v, t, h1, h3, h4⟩ := h
    exact ⟨v, t, h1, h3.mo e, RF.mo e h4⟩
theorem RO.mo (e : Mo C.K ρ ρ' H H') {o : MO} {a : Addr} (hk : H' a = H a) (h : RO C H ρ o a) : RO C H' ρ' o a := by
  cases o with
  | lst l =>
    obtain ⟨xs, h1, h2⟩ := h
    exact ⟨xs, hk.trans h1, h2.mo e⟩
  | dic l =>
    obtain ⟨xs, h1, h2⟩ := h
    exact ⟨xs, hk.trans h1, h2.mo e⟩
  | ins c fs =>
    obtain ⟨dx, gs, h1, h2⟩ := h
    exact ⟨dx, gs, hk.trans h1, h2.mo e⟩
theorem RO.mono (e : Ext C.K ρ ρ' H H') {o : MO} {a : Addr} (hk : H' a = H a) (h : RO C H ρ o a) : RO C H' ρ' o a := h.mo e.toMo hk
/-- what stands at an object's place may be written, and is no tuple -/
theorem RO.mut {o : MO} {a : Addr} (h : RO C H ρ o a) : ∃ u, H a = some u ∧ Mut (some u) := by
  cases o with
  | lst l => obtain ⟨xs, h1, _⟩ := h; exact ⟨_, h1, trivial⟩
  | dic l => obtain ⟨xs, h1, _⟩ := h; exact ⟨_, h1, trivial⟩
  | ins c fs => obtain ⟨dx, gs, h1, _⟩ := h; exact ⟨_, h1, trivial⟩
/-- a place that may be written is changed: tuples and read only lists stand -/
theorem Ext.wr {a : Addr} {u o : HO} (h : H a = some u) (m : Mut (some u)) (hm : a ∈ ρ) : Ext C.K ρ ρ H (upd H a o) := by
  have rd : ∀ b w, ¬ Mut (some w) → Rd H b w → Rd (upd H a o) b w := fun b w nm r => by
    rcases r with r | ⟨ob, r⟩
    · have : b ≠ a := fun e => by rw [e, h] at r; cases r; exact nm m
      exact .inl (by rw [upd_ne this]; exact r)
    · have : b ≠ a := fun e => by rw [e, h] at r; cases r; exact m
      exact .inr ⟨ob, by rw [upd_ne this]; exact r⟩
  refine ⟨⟨List.prefix_refl _, fun b xs q => ?_, fun b xs q => ?_⟩, fun b w q hn => by rw [upd_ne (fun e => hn (by rw [e]; exact hm))]; exact q, fun b hb => .inl hb⟩
  · rcases q with q | q
    · exact .inl (rd b _ (fun z => z) q)
    · exact .inr q
  · rcases q with ⟨ob, q⟩ | q
    · have : b ≠ a := fun e => by rw [e, h] at q; cases q; exact m
      exact .inl ⟨ob, by rw [upd_ne this]; exact q⟩
    · exact .inr q
/-- something new is tracked -/
theorem Ext.newG {a : Addr} {o : HO} (h : H a = none) (hp : ρ <+: ρ') (hw : ∀ b, b ∈ ρ' → b ∈ ρ ∨ H b = none) : Ext C.K ρ ρ' H (upd H a o) := by
  have ne : ∀ b w, H b = some w → b ≠ a := fun b w q e => by rw [e, h] at q; cases q
  refine ⟨⟨hp, fun b xs q => ?_, fun b xs q => ?_⟩, fun b w q _ => by rw [upd_ne (ne _ _ q)]; exact q, hw⟩
  · rcases q with (q | ⟨ob, q⟩) | q
    · exact .inl (.inl (by rw [upd_ne (ne _ _ q)]; exact q))
    · exact .inl (.inr ⟨ob, by rw [upd_ne (ne _ _ q)]; exact q⟩)
    · exact .inr q
  · rcases q with ⟨ob, q⟩ | q
    · exact .inl ⟨ob, by rw [upd_ne (ne _ _ q)]; exact q⟩
    · exact .inr q
theorem Ext.new {a : Addr} {o : HO} (h : H a = none) : Ext C.K ρ ρ H (upd H a o) := Ext.newG h (List.prefix_refl _) fun _ q => .inl q
theorem Ext.new1 {a : Addr} {o : HO} (h : H a = none) : Ext C.K ρ (ρ ++ [a]) H (upd H a o) := Ext.newG h (List.prefix_append _ _) fun b q => by
  rcases List.mem_append.mp q with q | q
  · exact .inl q
  · have : b = a := by simpa using q
    exact .inr (by rw [this]; exact h)
theorem RH.at (h : RH C ρ H M) {i : Nat} {o : MO} {a : Addr} (hm : M[i]? = some o) (ha : ρ[i]? = some a) : RO C H ρ o a := by
  obtain ⟨b, hb, r⟩ := h.ob i o hm
  rw [ha] at hb
  cases hb
  exact r
theorem RH.there (h : RH C ρ H M) {i : Nat} {a : Addr} (ha : ρ[i]? = some a) : ∃ o, M[i]? = some o ∧ RO C H ρ o a := by
  have hl : i < M.length := by
    rw [← h.len]
    exact (List.getElem?_eq_some_iff.mp ha).1
  exact ⟨M[i], List.getElem?_eq_getElem hl, h.at (List.getElem?_eq_getElem hl) ha⟩
theorem RH.fresh (h : RH C ρ H M) {p : Addr} (hp : H p = none) : p ∉ ρ := fun hm => by
  obtain ⟨i, hi⟩ := List.mem_iff_getElem?.mp hm
  obtain ⟨o, _, r⟩ := h.there hi
  obtain ⟨u, hu, _⟩ := r.mut
  rw [hp] at hu
  cases hu
/-- something else is laid anew -/
theorem RH.beside (h : RH C ρ H M) {p : Addr} {o : HO} (hp : H p = none) : RH C ρ (upd H p o) M := by
  refine ⟨h.len, h.nd, fun i ob hi => ?_⟩
  obtain ⟨a, ha, r⟩ := h.ob i ob hi
  obtain ⟨u, hu, _⟩ := r.mut
  have ne : a ≠ p := fun e => by rw [e, hp] at hu; cases hu
  exact ⟨a, ha, r.mono (Ext.new (C := C) hp) (upd_ne ne)⟩
/-- an object is laid anew -/
theorem RH.push (h : RH C ρ H M) {p : Addr} {o : HO} {ob : MO} (hp : H p = none) (r : RO C (upd H p o) (ρ ++ [p]) ob p) : RH C (ρ ++ [p]) (upd H p o) (M ++ [ob]) := by
  have e : Ext C.K ρ (ρ ++ [p]) H (upd H p o) := Ext.new1 (C := C) hp
  refine ⟨by rw [List.length_append, List.length_append, h.len]; rfl, ?_, fun i ob' hi => ?_⟩
  · rw [List.nodup_append]
    refine ⟨h.nd, by simp, fun a ha b hb q => ?_⟩
    have : b = p := by simpa using hb
    subst this
    subst q
    exact h.fresh hp ha
  · by_cases hl : i < M.length
    · rw [List.getElem?_append_left hl] at hi
      obtain ⟨a, ha, r'⟩ := h.ob i ob' hi
      obtain ⟨u, hu, _⟩ := r'.mut
      have ne : a ≠ p := fun q => by rw [q, hp] at hu; cases hu
      exact ⟨a, e.ix ha, r'.mono e (upd_ne ne)⟩
    · have hl2 : M.length ≤ i := Nat.le_of_not_lt hl
      rw [List.getElem?_append_right hl2] at hi
      have h0 : i - M.length = 0 := by
        have := (List.getElem?_eq_some_iff.mp hi).1
        simp at this
        omega
      rw [h0] at hi
      cases hi
      refine ⟨p, ?_, r⟩
      rw [List.getElem?_append_right (by rw [h.len]; exact hl2), h.len, h0]
      rfl
/-- an object is written -/
theorem RH.set (h : RH C ρ H M) {i : Nat} {a : Addr} {o : HO} {ob : MO} (ha : ρ[i]? = some a) (r : RO C (upd H a o) ρ ob a) : RH C ρ (upd H a o) (M.set i ob) := by
  obtain ⟨ob0, hm, r0⟩ := h.there ha
  obtain ⟨u, hu, mu⟩ := r0.mut
  have e : Ext C.K ρ ρ H (upd H a o) := Ext.wr (C := C) hu mu (List.mem_of_getElem? ha)
  have hl := (List.getElem?_eq_some_iff.mp hm).1
  refine ⟨by rw [List.length_set]; exact h.len, h.nd, fun j ob' hj => ?_⟩
  by_cases hji : j = i
  · subst hji
    rw [List.getElem?_set_self hl] at hj
    cases hj
    exact ⟨a, ha, r⟩
  · rw [List.getElem?_set_ne (Ne.symm hji)] at hj
    obtain ⟨b, hb, r'⟩ := h.ob j ob' hj
    have ne : b ≠ a := fun q => by
      subst q
      exact hji (nodup_ixA h.nd hb ha)
    exact ⟨b, hb, r'.mono e (upd_ne ne)⟩
where
  nodup_ixA {l : List Addr} (hN : l.Nodup) {i j : Nat} {x : Addr} (a : l[i]? = some x) (b : l[j]? = some x) : i = j := by
    obtain ⟨h1, e1⟩ := List.getElem?_eq_some_iff.mp a
    obtain ⟨h2, e2⟩ := List.getElem?_eq_some_iff.mp b
    exact (List.getElem_inj hN).mp (e1.trans e2.symm)
end

/-! ### the slots -/
structure RE (K : PySem.W.Frag) (H : Hp) (ρ : List Addr) (env : Env) (σ : L2.St) : Prop where
  len : σ.length = env.length
  at_ : ∀ (i : Nat) (d : MV), env[i]? = some (some d) → ∃ v, σ[i]? = some (some v) ∧ RV K H ρ d v
section
variable {K : PySem.W.Frag} {ρ ρ' : List Addr} {H H' : Hp} {env : Env} {σ : L2.St}
theorem RE.mo (e : Mo K ρ ρ' H H') (h : RE K H ρ env σ) : RE K H' ρ' env σ := ⟨h.len, fun i d q => by
  obtain ⟨v, e1, r⟩ := h.at_ i d q
  exact ⟨v, e1, r.mo e⟩⟩
theorem RE.mono (e : Ext K ρ ρ' H H') (h : RE K H ρ env σ) : RE K H' ρ' env σ := ⟨h.len, fun i d q => by
  obtain ⟨v, e1, r⟩ := h.at_ i d q
  exact ⟨v, e1, r.mono e⟩⟩
theorem RE.set (h : RE K H ρ env σ) (i : Nat) {d : MV} {v : V} (r : RV K H ρ d v) : RE K H ρ (env.set i (some d)) (σ.set i (some v)) := by
  refine ⟨by rw [List.length_set, List.length_set]; exact h.len, fun j d' q => ?_⟩
  by_cases hj : j = i
  · subst hj
    have hl : j < env.length := by
      have := (List.getElem?_eq_some_iff.mp q).1
      simpa using this
    rw [List.getElem?_set_self hl] at q
    cases q
    exact ⟨v, List.getElem?_set_self (by rw [h.len]; exact hl), r⟩
  · rw [List.getElem?_set_ne (Ne.symm hj)] at q
    obtain ⟨v', e1, r'⟩ := h.at_ j d' q
    exact ⟨v', by rw [List.getElem?_set_ne (Ne.symm hj)]; exact e1, r'⟩
theorem RE.none (h : RE K H ρ env σ) (i : Nat) (x : Option V) : RE K H ρ (env.set i none) (σ.set i x) := by
  refine ⟨by rw [List.length_set, List.length_set]; exact h.len, fun j d' q => ?_⟩
  by_cases hj : j = i
  · subst hj
    have hl : j < env.length := by
      have := (List.getElem?_eq_some_iff.mp q).1
      simpa using this
    rw [List.getElem?_set_self hl] at q
    cases q
  · rw [List.getElem?_set_ne (Ne.symm hj)] at q
    obtain ⟨v', e1, r'⟩ := h.at_ j d' q
    exact ⟨v', by rw [List.getElem?_set_ne (Ne.symm hj)]; exact e1, r'⟩
theorem RE.wipe (h : RE K H ρ env σ) : ∀ vs : List Nat, RE K H ρ (wipeE env vs) (L2.wipe σ vs)
  | [] => h
  | v :: vs => (RE.wipe h vs).none v Option.none
end
end Mi
set_option maxRecDepth 100000
/-! What a piece of syntax does, by the small language. -/
namespace Mi
open PySem PySem.Spec PyProof.Rows L2
def RX (C : Cfg) (H : Hp) (ρ : List Addr) (x : MX) (cls : Value) (dd : Option Addr) : Prop :=
  cls = .ref (C.cA x.cls) ∧ match x.fs, dd with
    | none, none => True
    | some fs, some a => ∃ gs, H a = some (.xd gs) ∧ RF C.K H ρ fs gs
    | _, _ => False
def Post {α : Type} (C : Cfg) (ρ : List Addr) (H : Hp) (r : R α) (F : α → Hm → List Addr → Hp → Prop) (G : MX → Hm → List Addr → Hp → Prop) : Prop :=
  match r with
  | .ok a M' => ∀ ρ' H', Ext C.K ρ ρ' H H' → RH C ρ' H' M' → F a M' ρ' H'
  | .exc x M' => ∀ ρ' H', Ext C.K ρ ρ' H H' → RH C ρ' H' M' → G x M' ρ' H'
  | .bad => False
section
variable {α β : Type} {C : Cfg} {ρ ρ' : List Addr} {H H' : Hp} {r : R α} {f : α → Hm → R β}
theorem Post.ext {F : α → Hm → List Addr → Hp → Prop} {G : MX → Hm → List Addr → Hp → Prop} (p : Post C ρ H r F G) (e : Ext C.K ρ ρ' H H') : Post C ρ' H' r F G := by
  cases r with
  | ok a M => exact fun ρ2 H2 e2 => p ρ2 H2 (e.trans e2)
  | exc x M => exact fun ρ2 H2 e2 => p ρ2 H2 (e.trans e2)
  | bad => exact p
theorem Post.imp {F F' : α → Hm → List Addr → Hp → Prop} {G G' : MX → Hm → List Addr → Hp → Prop} (p : Post C ρ H r F G)
    (hf : ∀ a M' ρ' H', Ext C.K ρ ρ' H H' → RH C ρ' H' M' → F a M' ρ' H' → F' a M' ρ' H') (hg : ∀ x M' ρ' H', Ext C.K ρ ρ' H H' → RH C ρ' H' M' → G x M' ρ' H' → G' x M' ρ' H') : Post C ρ H r F' G' := by
  cases r with
  | ok a M => exact fun ρ2 H2 e2 h2 => hf _ _ _ _ e2 h2 (p ρ2 H2 e2 h2)
  | exc x M => exact fun ρ2 H2 e2 h2 => hg _ _ _ _ e2 h2 (p ρ2 H2 e2 h2)
  | bad => exact p
theorem Post.bind {F : β → Hm → List Addr → Hp → Prop} {G : MX → Hm → List Addr → Hp → Prop} (p : Post C ρ H (r.bind f) F G) : Post C ρ H r (fun a M' ρ' H' => Post C ρ' H' (f a M') F G) G := by
  cases r with
  | ok a M =>
    have p' : Post C ρ H (f a M) F G := p
    exact fun ρ2 H2 e2 _ => p'.ext e2
  | exc x M => exact p
  | bad => exact p
theorem Post.bindN {F : β → Hm → List Addr → Hp → Prop} {G : MX → Hm → List Addr → Hp → Prop} (p : Post C ρ H (r.bindN f) F G) : Post C ρ H r (fun a M' ρ' H' => Post C ρ' H' (f a M') F G) (fun _ _ _ _ => False) := by
  cases r with
  | ok a M =>
    have p' : Post C ρ H (f a M) F G := p
    exact fun ρ2 H2 e2 _ => p'.ext e2
  | exc x M => exact p.elim
  | bad => exact p
theorem Post.now {a : α} {M : Hm} {F : α → Hm → List Addr → Hp → Prop} {G : MX → Hm → List Addr → Hp → Prop} (p : Post C ρ H (.ok a M) F G) (h : RH C ρ H M) : F a M ρ H := p ρ H Ext.refl h
end

/-- what a piece that gives a value asks -/
def tG {α β : Type} (C : Cfg) (W : WX) (rel : Hp → List Addr → α → β → Prop) (f : Env → Hm → R α) : L2.St → Hp → (β → Hp → Prop) → Prop := fun σ H Q =>
  ∃ ρ M env, RH C ρ H M ∧ RE C.K H ρ env σ ∧ Post C ρ H (f env M) (fun d _ ρ' H' => ∀ v, rel H' ρ' d v → Q v H') (fun x _ ρ' H' => ∀ cls dd, RX C H' ρ' x cls dd → W cls dd σ H')
abbrev tE (C : Cfg) (W : WX) (f : Fe) : TE := tG C W (RV C.K) f
abbrev tT (C : Cfg) (W : WX) (f : Ft) : TT := tG C W (fun _ _ a b => b = a) f
abbrev tA (C : Cfg) (W : WX) (f : Fa) : TA := tG C W (RVs C.K) f

theorem PE.imp {X : Cx} {e : Expr} {t t' : TE} (h : PE X e t) (hi : ∀ σ H Q, t' σ H Q → t σ H Q) : PE X e t' := ⟨fun pins s σ H Q I q => h.run pins s σ H Q I (hi σ H Q q)⟩
theorem PT.imp {X : Cx} {e : Expr} {t t' : TT} (h : PT X e t) (hi : ∀ σ H Q, t' σ H Q → t σ H Q) : PT X e t' := ⟨fun pins s σ H Q I q => h.run pins s σ H Q I (hi σ H Q q)⟩
theorem PW.imp {X : Cx} {e : Expr} {t t' : TT} (h : PW X e t) (hi : ∀ σ H Q, t' σ H Q → t σ H Q) : PW X e t' := ⟨fun wh pins s σ H Q I q => h.run wh pins s σ H Q I (hi σ H Q q)⟩
theorem PA.imp {X : Cx} {e : List Expr} {t t' : TA} (h : PA X e t) (hi : ∀ σ H Q, t' σ H Q → t σ H Q) : PA X e t' := ⟨fun p pins s σ H Q I q => h.run p pins s σ H Q I (hi σ H Q q)⟩
theorem PS.imp {X : Cx} {e : Stmt} {t t' : TS} (h : PS X e t) (hi : ∀ D σ H, t' D σ H → t D σ H) : PS X e t' := ⟨fun pins s σ H D I q => h.run pins s σ H D I (hi D σ H q)⟩
theorem PSs.imp {X : Cx} {e : List Stmt} {t t' : TS} (h : PSs X e t) (hi : ∀ D σ H, t' D σ H → t D σ H) : PSs X e t' := ⟨fun pins s σ H D I q => h.run pins s σ H D I (hi D σ H q)⟩
theorem PG.imp {X : Cx} {e : Expr} {t t' : TG} (h : PG X e t) (hi : ∀ v σ H Q, t' v σ H Q → t v σ H Q) : PG X e t' := ⟨fun pins s σ H v u Q I r q => h.run pins s σ H v u Q I r (hi v σ H Q q)⟩
theorem PGs.imp {X : Cx} {e : List Expr} {t t' : TGs} (h : PGs X e t) (hi : ∀ v σ H Q, t' v σ H Q → t v σ H Q) : PGs X e t' := ⟨fun pins s σ H v u Q I r q => h.run pins s σ H v u Q I r (hi v σ H Q q)⟩
theorem PI.imp {X : Cx} {tg e : Expr} {t t' : TI} (h : PI X tg e t) (hi : ∀ σ H Q, t' σ H Q → t σ H Q) : PI X tg e t' := ⟨fun pins s σ H R I q => h.run pins s σ H R I (hi σ H R q)⟩

/-! ### a value's operations -/
def Sim2 (C : Cfg) (f : MV → MV → Hm → R MV) (r : R2) : Prop := ∀ (ρ : List Addr) (H : Hp) (M : Hm) (d e : MV) (x y : V) (Q : VK) (G : MX → Hm → List Addr → Hp → Prop), RH C ρ H M → RV C.K H ρ d x → RV C.K H ρ e y →
  Post C ρ H (f d e M) (fun z _ ρ' H' => ∀ v, RV C.K H' ρ' z v → Q v H') G → r x y H Q
def Sim1 (C : Cfg) (f : MV → Hm → R MV) (r : V → Hp → VK → Prop) : Prop := ∀ (ρ : List Addr) (H : Hp) (M : Hm) (d : MV) (x : V) (Q : VK) (G : MX → Hm → List Addr → Hp → Prop), RH C ρ H M → RV C.K H ρ d x →
  Post C ρ H (f d M) (fun z _ ρ' H' => ∀ v, RV C.K H' ρ' z v → Q v H') G → r x H Q
def SimC (C : Cfg) (f : List MV → Hm → R MV) (r : List V → Hp → VK → Prop) : Prop := ∀ (ρ : List Addr) (H : Hp) (M : Hm) (ds : List MV) (xs : List V) (Q : VK) (G : MX → Hm → List Addr → Hp → Prop), RH C ρ H M → RVs C.K H ρ ds xs →
  Post C ρ H (f ds M) (fun z _ ρ' H' => ∀ v, RV C.K H' ρ' z v → Q v H') G → r xs H Q
def SimM (C : Cfg) (f : MV → List MV → Hm → R MV) (r : V → List V → Hp → VK → Prop) : Prop := ∀ (ρ : List Addr) (H : Hp) (M : Hm) (d : MV) (ds : List MV) (x : V) (xs : List V) (Q : VK) (G : MX → Hm → List Addr → Hp → Prop), RH C ρ H M → RV C.K H ρ d x → RVs C.K H ρ ds xs →
  Post C ρ H (f d ds M) (fun z _ ρ' H' => ∀ v, RV C.K H' ρ' z v → Q v H') G → r x xs H Q

section
variable {X : Cx} {C : Cfg} {W : WX}
theorem m_var {i : Nat} {x : Str} {pos : Pos} (hN : X.N[i]? = some x := by rfl) (hv : Vis X.env.scope x := by first | exact Or.inl rfl | exact Or.inr (Or.inl rfl) | exact Or.inr (Or.inr rfl)) (hd : (x == ("__debug__" : Str)) = false := by decide)
    (hcd : (x == ("__classdict__" : Str)) = false := by decide) : PE X (.Name x pos) (tE C W (eVar i)) := by
  refine PE.imp (pe_var hN hv hd hcd) fun σ H Q h => ?_
  obtain ⟨ρ, M, env, rh, re, p⟩ := h
  unfold eVar at p
  split at p
  · rename_i d e
    obtain ⟨v, e1, r⟩ := re.at_ i d e
    exact ⟨v, e1, p.now rh v r⟩
  · exact p.elim
/-- a constant, whatever it is written by -/
theorem m_const {e : Expr} {v : V} {d : MV} (h : PE X e (tC v)) (r : ∀ H ρ, RV C.K H ρ d v) : PE X e (tE C W (eC d)) := by
  refine PE.imp h fun σ H Q h => ?_
  obtain ⟨ρ, M, env, rh, re, p⟩ := h
  exact p.now rh v (r _ _)
theorem m_int {i : Int} {j : Nat} {pos : Pos} : PE X (.Constant (.int i) j pos) (tE C W (eC (.int i))) := m_const pe_int fun _ _ => by unfold RV; rfl
theorem m_bl {b : Bool} {j : Nat} {pos : Pos} : PE X (.Constant (.bool b) j pos) (tE C W (eC (.bl b))) := m_const pe_bl fun _ _ => by unfold RV; rfl
theorem m_non {j : Nat} {pos : Pos} : PE X (.Constant .none j pos) (tE C W (eC .non)) := m_const pe_non fun _ _ => by unfold RV; rfl
theorem m_str {x : Str} {l : Tx} {j : Nat} {pos : Pos} (h : x = T l := by rfl) : PE X (.Constant (.str x) j pos) (tE C W (eC (.str l))) := m_const pe_str fun _ _ => by unfold RV; rw [h]
/-- a constant of the module -/
theorem m_glob {x : Str} {v : V} {d : MV} {u : Value} {pos : Pos} (hm : X.mg x = some u) (r : RelV v u) (rd : ∀ H ρ, RV C.K H ρ d v) (hg : Gl X x := by rfl) (hd : (x == ("__debug__" : Str)) = false := by decide) : PE X (.Name x pos) (tE C W (eC d)) :=
  m_const (pe_glob hg hm r hd) rd

theorem m_op {op : Operator} {r : R2} {f : MV → MV → Hm → R MV} {a b : Expr} {a' b' : Fe} {pos : Pos} (ho : OpR X (binaryOp op) r) (hs : Sim2 C f r) (ha : PE X a (tE C W a')) (hb : PE X b (tE C W b')) : PE X (.BinOp a op b pos) (tE C W (eOp f a' b')) := by
  refine PE.imp (pe_op ho ha hb) fun σ H Q h => ?_
  obtain ⟨ρ, M, env, rh, re, p⟩ := h
  refine ⟨ρ, M, env, rh, re, p.bind.imp (fun d M1 ρ1 H1 e1 rh1 p2 v rv => ?_) (fun _ _ _ _ _ _ q => q)⟩
  exact ⟨ρ1, M1, env, rh1, re.mono e1, p2.bind.imp (fun d2 M2 ρ2 H2 e2 rh2 p3 w rw => hs ρ2 H2 M2 d d2 v w Q _ rh2 (rv.mono e2) rw p3) (fun _ _ _ _ _ _ q => q)⟩
theorem m_cmp {op : CmpOp} {r : R2} {f : MV → MV → Hm → R MV} {a b : Expr} {a' b' : Fe} {pos : Pos} (ho : OpR X (compareOp op) r) (hs : Sim2 C f r) (ha : PE X a (tE C W a')) (hb : PE X b (tE C W b')) (hm : behindInMarks op b = false := by first | exact nomark _ | rfl) :
    PE X (.Compare a [op] [b] pos) (tE C W (eOp f a' b')) := by
  refine PE.imp (pe_cmpR ho ha hb hm) fun σ H Q h => ?_
  obtain ⟨ρ, M, env, rh, re, p⟩ := h
  refine ⟨ρ, M, env, rh, re, p.bind.imp (fun d M1 ρ1 H1 e1 rh1 p2 v rv => ?_) (fun _ _ _ _ _ _ q => q)⟩
  exact ⟨ρ1, M1, env, rh1, re.mono e1, p2.bind.imp (fun d2 M2 ρ2 H2 e2 rh2 p3 w rw => hs ρ2 H2 M2 d d2 v w Q _ rh2 (rv.mono e2) rw p3) (fun _ _ _ _ _ _ q => q)⟩
/-- a comparison as a test -/
theorem mt_cmp {op : CmpOp} {r : R2} {f : MV → MV → Hm → R MV} {a b : Expr} {a' b' : Fe} {pos : Pos} (ho : OpR X (compareOp op) r) (hs : Sim2 C f r) (ha : PE X a (tE C W a')) (hb : PE X b (tE C W b')) (hm : behindInMarks op b = false := by first | exact nomark _ | rfl) :
    PT X (.Compare a [op] [b] pos) (tT C W (cB (eOp f a' b'))) := by
  refine PT.imp (pt_cmpR ho ha hb hm) fun σ H Q h => ?_
  obtain ⟨ρ, M, env, rh, re, p⟩ := h
  have p := p.bind
  refine ⟨ρ, M, env, rh, re, p.bind.imp (fun d M1 ρ1 H1 e1 rh1 p2 v rv => ?_) (fun _ _ _ _ _ _ q => q)⟩
  refine ⟨ρ1, M1, env, rh1, re.mono e1, p2.bind.imp (fun d2 M2 ρ2 H2 e2 rh2 p3 w rw => hs ρ2 H2 M2 d d2 v w _ _ rh2 (rv.mono e2) rw (p3.imp (fun z M3 ρ3 H3 e3 rh3 p4 u ru => ?_) (fun _ _ _ _ _ _ q => q))) (fun _ _ _ _ _ _ q => q)⟩
  cases z with
  | bl k =>
    unfold RV at ru
    exact ⟨k, ru, p4.now rh3 k rfl⟩
  | _ => exact p4.elim
theorem m_un {op : UnaryOp} {r : V → Hp → VK → Prop} {f : MV → Hm → R MV} {a : Expr} {a' : Fe} {pos : Pos} (ho : UnR X (unaryOp op) r) (hs : Sim1 C f r) (ha : PE X a (tE C W a')) : PE X (.UnaryOp op a pos) (tE C W (eUn f a')) := by
  refine PE.imp (pe_un ho ha) fun σ H Q h => ?_
  obtain ⟨ρ, M, env, rh, re, p⟩ := h
  exact ⟨ρ, M, env, rh, re, p.bind.imp (fun d M1 ρ1 H1 e1 rh1 p2 v rv => hs ρ1 H1 M1 d v Q _ rh1 rv p2) (fun _ _ _ _ _ _ q => q)⟩

/-! ### tests -/
/-- an expression of any kind as a test -/
theorem mt_val {a : Expr} {a' : Fe} (ha : PE X a (tE C W a')) (hC : C.K = X.K) (he : ∀ whole, isTrue a X.env whole = (do let v ← whole; standAt a.pos; holding [v] (truthy v)) := by intro _; rfl) : PT X a (tT C W (cV a')) := by
  refine PT.imp (pt_truth ha he) fun σ H Q h => ?_
  obtain ⟨ρ, M, env, rh, re, p⟩ := h
  refine ⟨ρ, M, env, rh, re, p.bind.imp (fun d M1 ρ1 H1 e1 rh1 p2 v rv => ?_) (fun _ _ _ _ _ _ q => q)⟩
  have key : ∀ {b : Bool}, TruV X.K v H1 b → truth M1 d = some b → ∃ k, TruV X.K v H1 k ∧ Q k H1 := fun {b} t q => by
    refine ⟨b, t, ?_⟩
    rw [q] at p2
    exact p2.now rh1 b rfl
  have bad : truth M1 d = none → ∃ k, TruV X.K v H1 k ∧ Q k H1 := fun q => by
    rw [q] at p2
    exact p2.elim
  have emp : ∀ {ds : List MV} {xs : List V}, RVs C.K H1 ρ1 ds xs → (!ds.isEmpty) = !xs.isEmpty := fun {ds xs} r => by
    have := r.len
    cases ds <;> cases xs <;> simp_all
  cases d with
  | non => unfold RV at rv; subst rv; exact key (b := false) (by show false = false; rfl) rfl
  | bl b => unfold RV at rv; subst rv; exact key (b := b) (by show b = b; rfl) rfl
  | int i => unfold RV at rv; subst rv; exact key (b := (i != 0)) (by show (i != 0) = (i != 0); rfl) rfl
  | str s =>
    unfold RV at rv; subst rv
    by_cases hl : s.length ≤ SL
    · refine key (b := !s.isEmpty) ⟨by rw [T_len, sizeLine_eq]; exact hl, ?_⟩ (by simp only [truth, if_pos hl])
      rw [T_len]
      cases s <;> simp <;> omega
    · exact bad (by simp only [truth, if_neg hl])
  | tup l =>
    unfold RV at rv
    obtain ⟨a, xs, rfl, h2, h3⟩ := rv
    exact key (b := !l.isEmpty) (.inr (.inl ⟨xs, by rw [← hC]; exact h2, emp h3⟩)) rfl
  | rol l =>
    unfold RV at rv
    obtain ⟨a, xs, rfl, h2, h3⟩ := rv
    exact key (b := !l.isEmpty) (.inl ⟨xs, by rw [← hC]; exact h2.sq, emp h3⟩) rfl
  | ref i =>
    unfold RV at rv
    obtain ⟨a, h1, rfl⟩ := rv
    cases hm : M1[i]? with
    | none => exact bad (by simp only [truth, hm])
    | some o =>
      have ro := rh1.at hm h1
      cases o with
      | lst l =>
        obtain ⟨xs, q1, q2⟩ := ro
        exact key (b := !l.isEmpty) (.inl ⟨xs, SqL.of q1, emp q2⟩) (by simp only [truth, hm])
      | dic l =>
        obtain ⟨ks, q1, q2⟩ := ro
        refine key (b := !l.isEmpty) (.inr (.inr ⟨ks, q1, ?_⟩)) (by simp only [truth, hm])
        cases l with
        | nil => cases (show ks = [] from q2); rfl
        | cons p r =>
          obtain ⟨k, d⟩ := p
          obtain ⟨k', v, t, rfl, _⟩ := q2
          rfl
      | ins c fs => exact bad (by simp only [truth, hm])
theorem mt_not {a : Expr} {a' : Ft} {pos : Pos} (ha : PT X a (tT C W a')) : PT X (.UnaryOp .Not a pos) (tT C W (cNot a')) := by
  refine PT.imp (pt_not ha) fun σ H Q h => ?_
  obtain ⟨ρ, M, env, rh, re, p⟩ := h
  exact ⟨ρ, M, env, rh, re, p.bind.imp (fun d M1 ρ1 H1 e1 rh1 p2 v rv => by subst rv; exact p2.now rh1 _ rfl) (fun _ _ _ _ _ _ q => q)⟩
theorem mw_and1 {a : Expr} {a' : Ft} {pos : Pos} (ha : PT X a (tT C W a')) : PW X (.BoolOp .And [a] pos) (tT C W a') := pw_and1 ha
theorem mw_or1 {a : Expr} {a' : Ft} {pos : Pos} (ha : PT X a (tT C W a')) : PW X (.BoolOp .Or [a] pos) (tT C W a') := pw_or1 ha
theorem mw_and {a b : Expr} {rest : List Expr} {a' b' : Ft} {pos : Pos} (ha : PT X a (tT C W a')) (hb : PW X (.BoolOp .And (b :: rest) pos) (tT C W b')) : PW X (.BoolOp .And (a :: b :: rest) pos) (tT C W (cAnd a' b')) := by
  refine PW.imp (pw_and ha hb) fun σ H Q h => ?_
  obtain ⟨ρ, M, env, rh, re, p⟩ := h
  refine ⟨ρ, M, env, rh, re, p.bind.imp (fun d M1 ρ1 H1 e1 rh1 p2 v rv => ?_) (fun _ _ _ _ _ _ q => q)⟩
  subst rv
  cases v with
  | true => exact ⟨ρ1, M1, env, rh1, re.mono e1, p2⟩
  | false => exact p2.now rh1 _ rfl
theorem mw_or {a b : Expr} {rest : List Expr} {a' b' : Ft} {pos : Pos} (ha : PT X a (tT C W a')) (hb : PW X (.BoolOp .Or (b :: rest) pos) (tT C W b')) : PW X (.BoolOp .Or (a :: b :: rest) pos) (tT C W (cOr a' b')) := by
  refine PW.imp (pw_or ha hb) fun σ H Q h => ?_
  obtain ⟨ρ, M, env, rh, re, p⟩ := h
  refine ⟨ρ, M, env, rh, re, p.bind.imp (fun d M1 ρ1 H1 e1 rh1 p2 v rv => ?_) (fun _ _ _ _ _ _ q => q)⟩
  subst rv
  cases v with
  | false => exact ⟨ρ1, M1, env, rh1, re.mono e1, p2⟩
  | true => exact p2.now rh1 _ rfl
theorem m_one {op : BoolOp} {a : Expr} {a' : Fe} {pos : Pos} (ha : PE X a (tE C W a')) : PE X (.BoolOp op [a] pos) (tE C W a') := pe_one ha
theorem m_and {a b : Expr} {rest : List Expr} {a' b' : Fe} {pos : Pos} (ha : PE X a (tE C W a')) (hb : PE X (.BoolOp .And (b :: rest) pos) (tE C W b')) : PE X (.BoolOp .And (a :: b :: rest) pos) (tE C W (eAnd a' b')) := by
  refine PE.imp (pe_and ha hb) fun σ H Q h => ?_
  obtain ⟨ρ, M, env, rh, re, p⟩ := h
  refine ⟨ρ, M, env, rh, re, p.bind.imp (fun d M1 ρ1 H1 e1 rh1 p2 v rv => ?_) (fun _ _ _ _ _ _ q => q)⟩
  cases d with
  | bl k =>
    unfold RV at rv
    refine ⟨k, rv, ?_⟩
    cases k with
    | true => exact ⟨ρ1, M1, env, rh1, re.mono e1, p2⟩
    | false => exact p2.now rh1 _ (by unfold RV; rfl)
  | _ => exact p2.elim
theorem m_or {a b : Expr} {rest : List Expr} {a' b' : Fe} {pos : Pos} (ha : PE X a (tE C W a')) (hb : PE X (.BoolOp .Or (b :: rest) pos) (tE C W b')) : PE X (.BoolOp .Or (a :: b :: rest) pos) (tE C W (eOr a' b')) := by
  refine PE.imp (pe_or ha hb) fun σ H Q h => ?_
  obtain ⟨ρ, M, env, rh, re, p⟩ := h
  refine ⟨ρ, M, env, rh, re, p.bind.imp (fun d M1 ρ1 H1 e1 rh1 p2 v rv => ?_) (fun _ _ _ _ _ _ q => q)⟩
  cases d with
  | bl k =>
    unfold RV at rv
    refine ⟨k, rv, ?_⟩
    cases k with
    | false => exact ⟨ρ1, M1, env, rh1, re.mono e1, p2⟩
    | true => exact p2.now rh1 _ (by unfold RV; rfl)
  | _ => exact p2.elim
/-- not a as a value, a any test (through a bool) -/
theorem m_not {a : Expr} {a' : Fe} {pos : Pos} (ha : PE X a (tE C W a')) : PE X (.UnaryOp .Not a pos) (tE C W (eT (cNot (cB a')))) := by
  refine PE.imp (pe_not ha) fun σ H Q h => ?_
  obtain ⟨ρ, M, env, rh, re, p⟩ := h
  have p := p.bind.bind.bind
  refine ⟨ρ, M, env, rh, re, p.imp (fun d M1 ρ1 H1 e1 rh1 p2 v rv => ?_) (fun _ _ _ _ _ _ q => q)⟩
  cases d with
  | bl k =>
    unfold RV at rv
    exact ⟨k, rv, ((p2.now rh1).now rh1).now rh1 _ (by unfold RV; rfl)⟩
  | _ => exact p2.elim
theorem m_ifExp {c a b : Expr} {c' : Ft} {a' b' : Fe} {pos : Pos} (hc : PT X c (tT C W c')) (ha : PE X a (tE C W a')) (hb : PE X b (tE C W b')) : PE X (.IfExp c a b pos) (tE C W (eIf c' a' b')) := by
  refine PE.imp (pe_ifExp hc ha hb) fun σ H Q h => ?_
  obtain ⟨ρ, M, env, rh, re, p⟩ := h
  refine ⟨ρ, M, env, rh, re, p.bind.imp (fun d M1 ρ1 H1 e1 rh1 p2 v rv => ?_) (fun _ _ _ _ _ _ q => q)⟩
  subst rv
  cases v with
  | true => exact ⟨ρ1, M1, env, rh1, re.mono e1, p2⟩
  | false => exact ⟨ρ1, M1, env, rh1, re.mono e1, p2⟩

/-! ### displays, arguments -/
theorem ma_nil : PA X [] (tA C W aNil) := PA.imp pa_nil fun σ H Q h => by
  obtain ⟨ρ, M, env, rh, re, p⟩ := h
  exact p.now rh [] RVs.nil
theorem ma_cons {e : Expr} {es : List Expr} {a' : Fe} {r' : Fa} (ha : PE X e (tE C W a')) (hr : PA X es (tA C W r')) (hs : starEach (e :: es) X.env = (false, eval e X.env) :: starEach es X.env := by rfl) : PA X (e :: es) (tA C W (aCons a' r')) := by
  refine PA.imp (pa_cons ha hr hs) fun σ H Q h => ?_
  obtain ⟨ρ, M, env, rh, re, p⟩ := h
  refine ⟨ρ, M, env, rh, re, p.bind.imp (fun d M1 ρ1 H1 e1 rh1 p2 v rv => ?_) (fun _ _ _ _ _ _ q => q)⟩
  exact ⟨ρ1, M1, env, rh1, re.mono e1, p2.bind.imp (fun ds M2 ρ2 H2 e2 rh2 p3 vs rvs => p3.now rh2 _ (RVs.cons (rv.mono e2) rvs)) (fun _ _ _ _ _ _ q => q)⟩
theorem m_tup {es : List Expr} {t' : Fa} {k : Nat} {pos : Pos} (ht : PA X es (tA C W t')) : PE X (.Tuple es k pos) (tE C W (eTup t')) := by
  refine PE.imp (pe_tup ht) fun σ H Q h => ?_
  obtain ⟨ρ, M, env, rh, re, p⟩ := h
  refine ⟨ρ, M, env, rh, re, p.bind.imp (fun ds M1 ρ1 H1 e1 rh1 p2 vs rvs => ?_) (fun _ _ _ _ _ _ q => q)⟩
  by_cases hl : ds.length ≤ SL
  · rw [if_pos hl] at p2
    refine ⟨by rw [rvs.len, sizeLine_eq]; exact hl, fun a ha => ?_⟩
    have e2 : Ext C.K ρ1 ρ1 H1 (upd H1 a (.tup vs)) := Ext.new (C := C) ha
    refine p2 ρ1 _ e2 (rh1.beside ha) (.ref a) ?_
    unfold RV
    exact ⟨a, vs, rfl, SqT.of upd_same, rvs.mono e2⟩
  · rw [if_neg hl] at p2
    exact p2.elim
theorem m_lst {es : List Expr} {t' : Fa} {pos : Pos} (ht : PA X es (tA C W t')) : PE X (.List es pos) (tE C W (eLst t')) := by
  refine PE.imp (pe_lst ht) fun σ H Q h => ?_
  obtain ⟨ρ, M, env, rh, re, p⟩ := h
  refine ⟨ρ, M, env, rh, re, p.bind.imp (fun ds M1 ρ1 H1 e1 rh1 p2 vs rvs => ?_) (fun _ _ _ _ _ _ q => q)⟩
  by_cases hl : ds.length ≤ SL
  · rw [if_pos hl] at p2
    refine ⟨by rw [rvs.len, sizeLine_eq]; exact hl, fun a ha => ?_⟩
    have e2 : Ext C.K ρ1 (ρ1 ++ [a]) H1 (upd H1 a (.lst vs)) := Ext.new1 (C := C) ha
    refine p2 _ _ e2 (rh1.push ha ⟨vs, upd_same, rvs.mono e2⟩) (.ref a) ?_
    unfold RV
    refine ⟨a, ?_, rfl⟩
    rw [← rh1.len, List.getElem?_append_right (Nat.le_refl _), Nat.sub_self]
    rfl
  · rw [if_neg hl] at p2
    exact p2.elim
end
end Mi
set_option maxRecDepth 100000
/-! What nobody can come to any more may be left out. -/
namespace Mi
open PySem PySem.Spec PyProof.Rows L2
mutual
theorem beqV_eq : ∀ {a b : MV}, beqV a b = true → a = b
  | .non, b, h => by cases b <;> first | rfl | (unfold beqV at h; cases h)
  | .bl a, b, h => by cases b <;> first | (unfold beqV at h; rw [beq_iff_eq] at h; rw [h]; done) | (unfold beqV at h; cases h)
  | .int a, b, h => by cases b <;> first | (unfold beqV at h; rw [decide_eq_true_eq] at h; rw [h]; done) | (unfold beqV at h; cases h)
  | .str a, b, h => by cases b <;> first | (unfold beqV at h; rw [decide_eq_true_eq] at h; rw [h]; done) | (unfold beqV at h; cases h)
  | .tup a, b, h => by cases b <;> first | (unfold beqV at h; rw [beqVs_eq h]; done) | (unfold beqV at h; cases h)
  | .ref a, b, h => by cases b <;> first | (unfold beqV at h; rw [decide_eq_true_eq] at h; rw [h]; done) | (unfold beqV at h; cases h)
  | .rol a, b, h => by cases b <;> first | (unfold beqV at h; rw [beqVs_eq h]; done) | (unfold beqV at h; cases h)
theorem beqVs_eq : ∀ {a b : List MV}, beqVs a b = true → a = b
  | [], b, h => by cases b <;> first | rfl | (unfold beqVs at h; cases h)
  | x :: l, b, h => by
    cases b with
    | nil => unfold beqVs at h; cases h
    | cons y m =>
      unfold beqVs at h
      rw [Bool.and_eq_true] at h
      rw [beqV_eq h.1, beqVs_eq h.2]
end
mutual
theorem beqV_rfl : ∀ a : MV, beqV a a = true
  | .non => by unfold beqV; rfl
  | .bl a => by unfold beqV; simp
  | .int a => by unfold beqV; simp
  | .str a => by unfold beqV; simp
  | .tup a => by unfold beqV; exact beqVs_rfl a
  | .ref a => by unfold beqV; simp
  | .rol a => by unfold beqV; exact beqVs_rfl a
theorem beqVs_rfl : ∀ a : List MV, beqVs a a = true
  | [] => by unfold beqVs; rfl
  | x :: l => by unfold beqVs; rw [beqV_rfl x, beqVs_rfl l]; rfl
end
theorem beqP_eq : ∀ {a b : List (MV × MV)}, beqP a b = true → a = b
  | [], [], _ => rfl
  | [], (_, _) :: _, h => by unfold beqP at h; cases h
  | (_, _) :: _, [], h => by unfold beqP at h; cases h
  | (x, x') :: l, (y, y') :: m, h => by
    unfold beqP at h
    rw [Bool.and_eq_true, Bool.and_eq_true] at h
    rw [beqV_eq h.1.1, beqV_eq h.1.2, beqP_eq h.2]
theorem beqP_rfl : ∀ a : List (MV × MV), beqP a a = true
  | [] => rfl
  | (x, y) :: l => by unfold beqP; rw [beqV_rfl x, beqV_rfl y, beqP_rfl l]; rfl
theorem beqF_eq : ∀ {a b : List (Tx × MV)}, beqF a b = true → a = b
  | [], [], _ => rfl
  | [], (_, _) :: _, h => by unfold beqF at h; cases h
  | (_, _) :: _, [], h => by unfold beqF at h; cases h
  | (x, x') :: l, (y, y') :: m, h => by
    unfold beqF at h
    rw [Bool.and_eq_true, Bool.and_eq_true, decide_eq_true_eq] at h
    rw [h.1.1, beqV_eq h.1.2, beqF_eq h.2]
theorem beqF_rfl : ∀ a : List (Tx × MV), beqF a a = true
  | [] => rfl
  | (x, y) :: l => by unfold beqF; rw [decide_eq_true (rfl : x = x), beqV_rfl y, beqF_rfl l]; rfl
theorem beqO_eq : ∀ {a b : MO}, beqO a b = true → a = b
  | .lst l, b, h => by cases b <;> first | (unfold beqO at h; rw [beqVs_eq h]; done) | (unfold beqO at h; cases h)
  | .dic l, b, h => by cases b <;> first | (unfold beqO at h; rw [beqP_eq h]; done) | (unfold beqO at h; cases h)
  | .ins c l, b, h => by
    cases b with
    | ins d m =>
      unfold beqO at h
      rw [Bool.and_eq_true, decide_eq_true_eq] at h
      rw [h.1, beqF_eq h.2]
    | _ => unfold beqO at h; cases h
theorem beqO_rfl : ∀ a : MO, beqO a a = true
  | .lst l => by unfold beqO; exact beqVs_rfl l
  | .dic l => by unfold beqO; exact beqP_rfl l
  | .ins c l => by
    show (decide (c = c) && beqF l l) = true
    rw [decide_eq_true (rfl : c = c), beqF_rfl l]
    rfl
section
variable {K : PySem.W.Frag} {H : Hp} {ρ ρ' : List Addr}
mutual
theorem RV.rf : ∀ {d : MV} {v : V}, RV K H ρ d v → rfs ρ.length d = true
  | .non, _, _ => by unfold rfs; rfl
  | .bl _, _, _ => by unfold rfs; rfl
  | .int _, _, _ => by unfold rfs; rfl
  | .str _, _, _ => by unfold rfs; rfl
  | .tup l, v, h => by
    unfold RV at h
    obtain ⟨a, xs, _, _, h3⟩ := h
    unfold rfs
    exact RVs.rf h3
  | .ref i, v, h => by
    unfold RV at h
    obtain ⟨a, h1, _⟩ := h
    unfold rfs
    exact decide_eq_true (List.getElem?_eq_some_iff.mp h1).1
  | .rol l, v, h => by
    unfold RV at h
    obtain ⟨a, xs, _, _, h3⟩ := h
    unfold rfs
    exact RVs.rf h3
theorem RVs.rf : ∀ {ds : List MV} {vs : List V}, RVs K H ρ ds vs → rfsL ρ.length ds = true
  | [], _, _ => by unfold rfsL; rfl
  | d :: ds, xs, h => by
    unfold RVs at h
    obtain ⟨v, vs, _, h2, h3⟩ := h
    unfold rfsL
    rw [RV.rf h2, RVs.rf h3]
    rfl
end
mutual
theorem RV.cut (hp : ρ <+: ρ') : ∀ {d : MV} {v : V}, RV K H ρ' d v → rfs ρ.length d = true → RV K H ρ d v
  | .non, _, h, _ => by unfold RV at h ⊢; exact h
  | .bl _, _, h, _ => by unfold RV at h ⊢; exact h
  | .int _, _, h, _ => by unfold RV at h ⊢; exact h
  | .str _, _, h, _ => by unfold RV at h ⊢; exact h
  | .tup l, v, h, r => by
    unfold RV at h ⊢
    unfold rfs at r
    obtain ⟨a, xs, h1, h2, h3⟩ := h
    exact ⟨a, xs, h1, h2, RVs.cut hp h3 r⟩
  | .ref i, v, h, r => by
    unfold RV at h ⊢
    unfold rfs at r
    obtain ⟨a, h1, h2⟩ := h
    obtain ⟨t, rfl⟩ := hp
    rw [List.getElem?_append_left (of_decide_eq_true r)] at h1
    exact ⟨a, h1, h2⟩
  | .rol l, v, h, r => by
    unfold RV at h ⊢
    unfold rfs at r
    obtain ⟨a, xs, h1, h2, h3⟩ := h
    exact ⟨a, xs, h1, h2, RVs.cut hp h3 r⟩
theorem RVs.cut (hp : ρ <+: ρ') : ∀ {ds : List MV} {vs : List V}, RVs K H ρ' ds vs → rfsL ρ.length ds = true → RVs K H ρ ds vs
  | [], _, h, _ => by unfold RVs at h ⊢; exact h
  | d :: ds, xs, h, r => by
    unfold RVs at h ⊢
    unfold rfsL at r
    rw [Bool.and_eq_true] at r
    obtain ⟨v, vs, h1, h2, h3⟩ := h
    exact ⟨v, vs, h1, RV.cut hp h2 r.1, RVs.cut hp h3 r.2⟩
end
theorem RK.rf : ∀ {l : List (MV × MV)} {ks : List (Key × V)}, RK K H ρ l ks → rfsP ρ.length l = true
  | [], _, _ => rfl
  | (k, d) :: r, ks, h => by
    obtain ⟨k', v, t, h1, h2, h3, h4⟩ := h
    unfold rfsP
    rw [h3.rf, RK.rf h4]
    rfl
theorem RK.cut (hp : ρ <+: ρ') : ∀ {l : List (MV × MV)} {ks : List (Key × V)}, RK K H ρ' l ks → rfsP ρ.length l = true → RK K H ρ l ks
  | [], _, h, _ => h
  | (k, d) :: r, ks, h, q => by
    obtain ⟨k', v, t, h1, h2, h3, h4⟩ := h
    unfold rfsP at q
    rw [Bool.and_eq_true] at q
    exact ⟨k', v, t, h1, h2, h3.cut hp q.1, RK.cut hp h4 q.2⟩
theorem RF.rf : ∀ {l : List (Tx × MV)} {ks : List (Str × V)}, RF K H ρ l ks → rfsF ρ.length l = true
  | [], _, _ => rfl
  | (k, d) :: r, ks, h => by
    obtain ⟨v, t, h1, h3, h4⟩ := h
    unfold rfsF
    rw [h3.rf, RF.rf h4]
    rfl
theorem RF.cut (hp : ρ <+: ρ') : ∀ {l : List (Tx × MV)} {ks : List (Str × V)}, RF K H ρ' l ks → rfsF ρ.length l = true → RF K H ρ l ks
  | [], _, h, _ => h
  | (k, d) :: r, ks, h, q => by
    obtain ⟨v, t, h1, h3, h4⟩ := h
    unfold rfsF at q
    rw [Bool.and_eq_true] at q
    exact ⟨v, t, h1, h3.cut hp q.1, RF.cut hp h4 q.2⟩
end
section
variable {C : Cfg} {ρ ρ' : List Addr} {H H' : Hp} {M M' : Hm}
theorem RO.rf {o : MO} {a : Addr} (h : RO C H ρ o a) : rfsO ρ.length o = true := by
  cases o with
  | lst l => obtain ⟨xs, _, h2⟩ := h; exact h2.rf
  | dic l => obtain ⟨xs, _, h2⟩ := h; exact h2.rf
  | ins c fs => obtain ⟨dx, gs, _, h2⟩ := h; exact h2.rf
theorem RO.cut (hp : ρ <+: ρ') {o : MO} {a : Addr} (h : RO C H ρ' o a) (r : rfsO ρ.length o = true) : RO C H ρ o a := by
  cases o with
  | lst l => obtain ⟨xs, h1, h2⟩ := h; exact ⟨xs, h1, h2.cut hp r⟩
  | dic l => obtain ⟨xs, h1, h2⟩ := h; exact ⟨xs, h1, h2.cut hp r⟩
  | ins c fs => obtain ⟨dx, gs, h1, h2⟩ := h; exact ⟨dx, gs, h1, h2.cut hp r⟩
theorem okH_at {k : Nat} : ∀ {M M' : Hm}, okH k M M' = true → ∀ (i : Nat) (o : MO), M'[i]? = some o → i < M.length → M[i]? = some o ∨ rfsO k o = true
  | [], _, _, i, o, _, hl => absurd hl (Nat.not_lt_zero _)
  | a :: M, [], h, _, _, _, _ => by unfold okH at h; cases h
  | a :: M, b :: M', h, i, o, hi, hl => by
    unfold okH at h
    rw [Bool.and_eq_true, Bool.or_eq_true] at h
    cases i with
    | zero =>
      have hi : some b = some o := hi
      cases hi
      rcases h.1 with q | q
      · left
        show some a = some b
        rw [beqO_eq q]
      · exact .inr q
    | succ i =>
      have := okH_at h.2 i o hi (by simpa using hl)
      exact this
theorem Ext.cut (e : Ext C.K ρ ρ' H H') : Ext C.K ρ ρ H H' := ⟨⟨List.prefix_refl _, e.tup, e.fz⟩, e.fr, fun _ h => .inl h⟩
theorem pre_len (hp : ρ <+: ρ') : ρ.length ≤ ρ'.length := by
  obtain ⟨t, rfl⟩ := hp
  rw [List.length_append]
  omega
theorem pre_ix (hp : ρ <+: ρ') {i : Nat} (hi : i < ρ.length) : ρ'[i]? = ρ[i]? := by
  obtain ⟨t, rfl⟩ := hp
  rw [List.getElem?_append_left hi]
theorem RH.cut (rh : RH C ρ H M) (e : Ext C.K ρ ρ' H H') (rh' : RH C ρ' H' M') (h : okH M.length M M' = true) : RH C ρ H' (M'.take M.length) := by
  have hl := pre_len e.pre
  refine ⟨?_, rh.nd, fun i o hi => ?_⟩
  · rw [List.length_take, rh.len, ← rh'.len]
    have := rh.len
    omega
  · rw [List.getElem?_take] at hi
    split at hi
    · rename_i hik
      obtain ⟨a, ha, ro⟩ := rh'.ob i o hi
      rw [pre_ix e.pre (by rw [rh.len]; exact hik)] at ha
      refine ⟨a, ha, ro.cut e.pre ?_⟩
      rcases okH_at h i o hi hik with q | q
      · obtain ⟨b, _, r⟩ := rh.ob i o q
        exact r.rf
      · rw [rh.len]; exact q
    · cases hi
theorem gc_post {r : R MV} {Q : V → Hp → Prop} {E : MX → List Addr → Hp → Prop} (hE : ∀ x ρ1 ρ2 H2, (∀ cls dd, RX C H2 ρ2 x cls dd → RX C H2 ρ1 x cls dd) → E x ρ1 H2 → E x ρ2 H2) (rh : RH C ρ H M)
    (p : Post C ρ H (gcR M r) (fun z _ ρ' H' => ∀ v, RV C.K H' ρ' z v → Q v H') (fun x _ ρ' H' => E x ρ' H')) :
    Post C ρ H r (fun z _ ρ' H' => ∀ v, RV C.K H' ρ' z v → Q v H') (fun x _ ρ' H' => E x ρ' H') := by
  cases r with
  | bad => exact p
  | ok d M' =>
    intro ρ' H' e rh' v rv
    have p : ∀ ρ' H', Ext C.K ρ ρ' H H' → RH C ρ' H' (gcV M M' d).2 → ∀ v, RV C.K H' ρ' (gcV M M' d).1 v → Q v H' := p
    unfold gcV at p
    split at p
    · rename_i hok
      have rc := rh.cut e rh' hok
      split at p
      · rename_i hd
        rw [← rh.len] at hd
        exact p ρ H' e.cut rc v (rv.cut e.pre hd)
      · cases d with
        | ref j =>
          simp only at p
          cases hj : M'[j]? with
          | none => rw [hj] at p; exact p ρ' H' e rh' v rv
          | some o =>
            rw [hj] at p
            simp only at p
            split at p
            · rename_i hc
              rw [Bool.and_eq_true, decide_eq_true_eq] at hc
              obtain ⟨a, ha, ro⟩ := rh'.ob j o hj
              have hna : a ∉ ρ := fun hm => by
                obtain ⟨i, hi⟩ := List.mem_iff_getElem?.mp hm
                have hil := (List.getElem?_eq_some_iff.mp hi).1
                have hi' : ρ'[i]? = some a := by rw [pre_ix e.pre hil]; exact hi
                have := RH.set.nodup_ixA rh'.nd hi' ha
                have := rh.len
                omega
              have e2 : Ext C.K ρ (ρ ++ [a]) H H' := by
                refine ⟨⟨List.prefix_append _ _, e.tup, e.fz⟩, e.fr, fun b hb => ?_⟩
                rcases List.mem_append.mp hb with q | q
                · exact .inl q
                · have : b = a := by simpa using q
                  subst this
                  exact e.nw b (List.mem_of_getElem? ha)
              have hpre : ρ <+: ρ ++ [a] := List.prefix_append _ _
              have mo : Mo C.K ρ (ρ ++ [a]) H' H' := ⟨hpre, fun _ _ q => q, fun _ _ q => q⟩
              have rh2 : RH C (ρ ++ [a]) H' (M'.take M.length ++ [o]) := by
                refine ⟨by rw [List.length_append, List.length_append, rc.len]; rfl, ?_, fun i ob hi => ?_⟩
                · rw [List.nodup_append]
                  refine ⟨rh.nd, by simp, fun x hx y hy q => ?_⟩
                  have : y = a := by simpa using hy
                  subst this
                  subst q
                  exact hna hx
                · by_cases hl : i < (M'.take M.length).length
                  · rw [List.getElem?_append_left hl] at hi
                    obtain ⟨b, hb, r⟩ := rc.ob i ob hi
                    exact ⟨b, by rw [List.getElem?_append_left (List.getElem?_eq_some_iff.mp hb).1]; exact hb, r.mo mo rfl⟩
                  · have hl2 := Nat.le_of_not_lt hl
                    rw [List.getElem?_append_right hl2] at hi
                    have h0 : i - (M'.take M.length).length = 0 := by
                      have := (List.getElem?_eq_some_iff.mp hi).1
                      simp only [List.length_cons, List.length_nil] at this
                      omega
                    rw [h0] at hi
                    cases hi
                    refine ⟨a, ?_, ?_⟩
                    · rw [List.getElem?_append_right (by rw [rc.len]; exact hl2), rc.len, h0]
                      rfl
                    · exact (ro.cut e.pre (by rw [rh.len]; exact hc.2)).mo mo rfl
              refine p (ρ ++ [a]) H' e2 rh2 v ?_
              unfold RV at rv ⊢
              obtain ⟨b, hb, rfl⟩ := rv
              rw [ha] at hb
              cases hb
              refine ⟨a, ?_, rfl⟩
              rw [← rh.len, List.getElem?_append_right (Nat.le_refl _), Nat.sub_self]
              rfl
            · exact p ρ' H' e rh' v rv
        | _ => exact p ρ' H' e rh' v rv
    · exact p ρ' H' e rh' v rv
  | exc x M' =>
    intro ρ' H' e rh'
    have p : ∀ ρ' H', Ext C.K ρ ρ' H H' → RH C ρ' H' (gcX M M' x) → E x ρ' H' := p
    unfold gcX at p
    split at p
    · rename_i hok
      have rc := rh.cut e rh' hok
      split at p
      · rename_i hx
        refine hE x ρ ρ' H' (fun cls dd q => ?_) (p ρ H' e.cut rc)
        unfold RX at q ⊢
        rw [hx] at q ⊢
        refine ⟨q.1, ?_⟩
        have q2 := q.2
        cases dd with
        | none => exact q2
        | some a => exact q2
      · rename_i fs hx
        split at p
        · rename_i hf
          rw [← rh.len] at hf
          refine hE x ρ ρ' H' (fun cls dd q => ?_) (p ρ H' e.cut rc)
          unfold RX at q ⊢
          rw [hx] at q ⊢
          refine ⟨q.1, ?_⟩
          have q2 := q.2
          cases dd with
          | none => exact q2
          | some a =>
            obtain ⟨gs, q3, q4⟩ := q2
            exact ⟨gs, q3, q4.cut e.pre hf⟩
        · exact p ρ' H' e rh'
    · exact p ρ' H' e rh'
theorem gc_postW {r : R MV} {Q : V → Hp → Prop} {W : Value → Option Addr → Hp → Prop} (rh : RH C ρ H M)
    (p : Post C ρ H (gcR M r) (fun z _ ρ' H' => ∀ v, RV C.K H' ρ' z v → Q v H') (fun x _ ρ' H' => ∀ cls dd, RX C H' ρ' x cls dd → W cls dd H')) :
    Post C ρ H r (fun z _ ρ' H' => ∀ v, RV C.K H' ρ' z v → Q v H') (fun x _ ρ' H' => ∀ cls dd, RX C H' ρ' x cls dd → W cls dd H') :=
  gc_post (E := fun x ρ' H' => ∀ cls dd, RX C H' ρ' x cls dd → W cls dd H') (fun x ρ1 ρ2 H2 h q cls dd r => q cls dd (h cls dd r)) rh p
theorem m_gc {X : Cx} {W : WX} {e : Expr} {e' : Fe} (h : PE X e (tE C W e')) : PE X e (tE C W (eGc e')) := by
  refine PE.imp h fun σ H Q h => ?_
  obtain ⟨ρ, M, env, rh, re, p⟩ := h
  exact ⟨ρ, M, env, rh, re, gc_postW (W := fun cls dd H' => W cls dd σ H') rh p⟩
end
end Mi
set_option maxRecDepth 100000
/-! Statements, loops, defs. -/
namespace Mi
open PySem PySem.Spec PyProof.Rows L2
def PostS (C : Cfg) (ρ : List Addr) (H : Hp) (r : RS) (D : Ends) (W : WX) : Prop := match r with
  | .ok .nx env M' => ∀ ρ' H' σ', Ext C.K ρ ρ' H H' → RH C ρ' H' M' → RE C.K H' ρ' env σ' → D.nx σ' H'
  | .ok .brk env M' => ∀ ρ' H' σ', Ext C.K ρ ρ' H H' → RH C ρ' H' M' → RE C.K H' ρ' env σ' → D.bk σ' H'
  | .ok .cnt env M' => ∀ ρ' H' σ', Ext C.K ρ ρ' H H' → RH C ρ' H' M' → RE C.K H' ρ' env σ' → D.ct σ' H'
  | .ok (.ret d) _ M' => ∀ ρ' H' v, Ext C.K ρ ρ' H H' → RH C ρ' H' M' → RV C.K H' ρ' d v → D.rt v H'
  | .exc x env M' => ∀ ρ' H' σ' cls dd, Ext C.K ρ ρ' H H' → RH C ρ' H' M' → RE C.K H' ρ' env σ' → RX C H' ρ' x cls dd → W cls dd σ' H'
  | .bad => False
def tS (C : Cfg) (W : WX) (f : Fs) : TS := fun D σ H => ∃ ρ M env, RH C ρ H M ∧ RE C.K H ρ env σ ∧ PostS C ρ H (f env M) D W
section
variable {C : Cfg} {W : WX} {ρ ρ' : List Addr} {H H' : Hp} {r : RS} {D D' : Ends} {env : Env} {σ : L2.St} {M : Hm}
theorem PostS.ext (p : PostS C ρ H r D W) (e : Ext C.K ρ ρ' H H') : PostS C ρ' H' r D W := by
  cases r with
  | ok o env M =>
    cases o with
    | nx => exact fun a b c e2 => p a b c (e.trans e2)
    | brk => exact fun a b c e2 => p a b c (e.trans e2)
    | cnt => exact fun a b c e2 => p a b c (e.trans e2)
    | ret d => exact fun a b c e2 => p a b c (e.trans e2)
  | exc x env M => exact fun a b c d1 d2 e2 => p a b c d1 d2 (e.trans e2)
  | bad => exact p
theorem PostS.st {α : Type} {r : R α} {f : α → Hm → RS} (p : PostS C ρ H (r.st env f) D W) (re : RE C.K H ρ env σ) :
    Post C ρ H r (fun a M' ρ' H' => PostS C ρ' H' (f a M') D W) (fun x _ ρ' H' => ∀ cls dd, RX C H' ρ' x cls dd → W cls dd σ H') := by
  cases r with
  | ok a M =>
    have p' : PostS C ρ H (f a M) D W := p
    exact fun ρ2 H2 e2 _ => p'.ext e2
  | exc x M =>
    have p' : ∀ ρ' H' σ' cls dd, Ext C.K ρ ρ' H H' → RH C ρ' H' M → RE C.K H' ρ' env σ' → RX C H' ρ' x cls dd → W cls dd σ' H' := p
    exact fun ρ2 H2 e2 h2 cls dd => p' ρ2 H2 σ cls dd e2 h2 (re.mono e2)
  | bad => exact p
theorem PostS.nx (p : PostS C ρ H (.ok .nx env M) D W) (h : RH C ρ H M) (re : RE C.K H ρ env σ) : D.nx σ H := p ρ H σ Ext.refl h re
theorem PostS.brk (p : PostS C ρ H (.ok .brk env M) D W) (h : RH C ρ H M) (re : RE C.K H ρ env σ) : D.bk σ H := p ρ H σ Ext.refl h re
theorem PostS.cnt (p : PostS C ρ H (.ok .cnt env M) D W) (h : RH C ρ H M) (re : RE C.K H ρ env σ) : D.ct σ H := p ρ H σ Ext.refl h re
theorem PostS.ret {d : MV} {v : V} (p : PostS C ρ H (.ok (.ret d) env M) D W) (h : RH C ρ H M) (r : RV C.K H ρ d v) : D.rt v H := p ρ H v Ext.refl h r
end

/-! ### targets -/
def tGt (C : Cfg) (vs : List Nat) (f : Ftg) : TG := fun v σ H Q => ∃ ρ M env d G, RH C ρ H M ∧ RE C.K H ρ env σ ∧ RV C.K H ρ d v ∧
  Post C ρ H (f d env M) (fun env' _ ρ' H' => ∀ σ', RE C.K H' ρ' env' σ' → wipe σ' vs = wipe σ vs → Q σ' H') G
def tGs (C : Cfg) (vs : List Nat) (f : Ftgs) : TGs := fun xs σ H Q => ∃ ρ M env ds G, RH C ρ H M ∧ RE C.K H ρ env σ ∧ RVs C.K H ρ ds xs ∧
  Post C ρ H (f ds env M) (fun env' _ ρ' H' => ∀ σ', RE C.K H' ρ' env' σ' → wipe σ' vs = wipe σ vs → Q σ' H') G
theorem wipe_set {σ : L2.St} {i : Nat} {x : Option V} : ∀ {vs : List Nat}, i ∈ vs → wipe (σ.set i x) vs = wipe σ vs
  | v :: vs, h => by
    unfold wipe
    by_cases hm : i ∈ vs
    · rw [wipe_set hm]
    · have e : i = v := by
        rcases List.mem_cons.mp h with e | e
        · exact e
        · exact absurd e hm
      subst e
      have key : ∀ (us : List Nat) (τ : L2.St), i ∉ us → wipe (τ.set i x) us = (wipe τ us).set i x := by
        intro us
        induction us with
        | nil => intro τ _; rfl
        | cons u us ih =>
          intro τ hn
          unfold wipe
          rw [ih τ (fun z => hn (List.mem_cons_of_mem _ z))]
          exact List.set_comm _ _ (fun z => hn (by rw [z]; exact List.mem_cons_self))
      rw [key vs σ hm, List.set_set]
section
variable {X : Cx} {C : Cfg} {W : WX}
theorem mg_name {i : Nat} {x : Str} {vs : List Nat} {pos : Pos} (hN : X.N.Nodup) (hm : i ∈ vs := by first | decide | simp) (hi : X.N[i]? = some x := by rfl) (hx : Loc X.env.scope x := by first | exact Or.inl rfl | exact Or.inr rfl)
    (hf : X.fn x = true ∨ X.env.scope.names.lookup x = some .local := by first | exact .inl rfl | exact .inr rfl | assumption) : PG X (.Name x pos) (tGt C vs (gN i)) := by
  refine PG.imp (pg_name hN hi hx hf) fun v σ H Q h => ?_
  obtain ⟨ρ, M, env, d, G, rh, re, rv, p⟩ := h
  exact p.now rh _ (re.set i rv) (wipe_set hm)
theorem mgs_nil {vs : List Nat} : PGs X [] (tGs C vs gsNil) := by
  refine PGs.imp pgs_nil fun xs σ H Q h => ?_
  obtain ⟨ρ, M, env, ds, G, rh, re, rvs, p⟩ := h
  cases ds with
  | nil =>
    unfold RVs at rvs
    exact ⟨rvs, p.now rh _ re rfl⟩
  | cons d ds => exact p.elim
theorem mgs_cons {vs : List Nat} {e : Expr} {es : List Expr} {g : Ftg} {r : Ftgs} (h1 : PG X e (tGt C vs g)) (h2 : PGs X es (tGs C vs r))
    (hs : (assignEach (e :: es) X.env).map (·.2) = assign e X.env :: (assignEach es X.env).map (·.2) := by rfl) : PGs X (e :: es) (tGs C vs (gsCons g r)) := by
  refine PGs.imp (pgs_cons h1 h2 hs) fun xs σ H Q h => ?_
  obtain ⟨ρ, M, env, ds, G, rh, re, rvs, p⟩ := h
  cases ds with
  | nil => exact p.elim
  | cons d ds =>
    unfold RVs at rvs
    obtain ⟨v, ws, rfl, r1, r2⟩ := rvs
    refine ⟨v, ws, rfl, ρ, M, env, d, G, rh, re, r1, p.bind.imp (fun env1 M1 ρ1 H1 e1 rh1 p2 σ1 re1 hw => ?_) (fun _ _ _ _ _ _ q => q)⟩
    exact ⟨ρ1, M1, env1, ds, G, rh1, re1, r2.mono e1, p2.imp (fun env2 M2 ρ2 H2 e2 rh2 p3 σ2 re2 hw2 => p3 σ2 re2 (hw2.trans hw)) (fun _ _ _ _ _ _ q => q)⟩
theorem mg_tup {vs : List Nat} {es : List Expr} {k : Nat} {r : Ftgs} {n : Nat} {pos : Pos} (hc : X.calm = true) (hC : C.K = X.K) (h : PGs X es (tGs C vs r))
    (hn : (assignEach es X.env).length = n := by rfl) (hst : (assignEach es X.env).findIdx? (·.1) = none := by rfl) : PG X (.Tuple es k pos) (tGt C vs (gT n r)) := by
  refine PG.imp (pg_tup hc h hn hst) fun v σ H Q h => ?_
  obtain ⟨ρ, M, env, d, G, rh, re, rv, p⟩ := h
  cases d with
  | tup l =>
    unfold RV at rv
    obtain ⟨a, xs, rfl, h2, h3⟩ := rv
    by_cases hl : l.length = n
    · simp only [gT, if_pos hl] at p
      exact ⟨a, xs, rfl, by rw [← hC]; exact h2, by rw [h3.len]; exact hl, ρ, M, env, l, G, rh, re, h3, p⟩
    · simp only [gT, if_neg hl] at p
      exact p.elim
  | _ => exact p.elim

/-! ### plain statements -/
theorem ms_nil : PSs X [] (tS C W sNx) := PSs.imp pss_nil fun D σ H h => by
  obtain ⟨ρ, M, env, rh, re, p⟩ := h
  exact p.nx rh re
theorem ms_cons {st : Stmt} {rest : List Stmt} {a b : Fs} (h1 : PS X st (tS C W a)) (h2 : PSs X rest (tS C W b)) : PSs X (st :: rest) (tS C W (sSeq a b)) := by
  refine PSs.imp (pss_cons h1 h2) fun D σ H h => ?_
  obtain ⟨ρ, M, env, rh, re, p⟩ := h
  refine ⟨ρ, M, env, rh, re, ?_⟩
  unfold sSeq at p
  cases e : a env M with
  | bad => rw [e] at p; exact p
  | exc x env1 M1 => rw [e] at p; exact p
  | ok o env1 M1 =>
    rw [e] at p
    cases o with
    | nx =>
      have p' : PostS C ρ H (b env1 M1) D W := p
      exact fun ρ' H' σ' e1 rh1 re1 => ⟨ρ', M1, env1, rh1, re1, p'.ext e1⟩
    | brk => exact p
    | cnt => exact p
    | ret d => exact p
theorem ms_one {st : Stmt} {a : Fs} (h1 : PS X st (tS C W a)) : PSs X [st] (tS C W a) := pss_one h1
theorem m_set {i : Nat} {x : Str} {e : Expr} {e' : Fe} {pos pos' : Pos} (hN : X.N.Nodup) (he : PE X e (tE C W e')) (hi : X.N[i]? = some x := by rfl) (hx : Loc X.env.scope x := by first | exact Or.inl rfl | exact Or.inr rfl)
    (hs : swapsWith e (some (.Name x pos')) pos.line X.env = pure false := by rfl) (hf : X.fn x = true ∨ X.env.scope.names.lookup x = some .local := by first | exact .inl rfl | exact .inr rfl | assumption) : PS X (.Assign [.Name x pos'] e pos) (tS C W (sSet i e')) := by
  refine PS.imp (ps_set hN hi hx he hs hf) fun D σ H h => ?_
  obtain ⟨ρ, M, env, rh, re, p⟩ := h
  exact ⟨ρ, M, env, rh, re, (p.st re).imp (fun d M1 ρ1 H1 e1 rh1 p2 v rv => p2.nx rh1 ((re.mono e1).set i rv)) (fun _ _ _ _ _ _ q => q)⟩
theorem m_asg {tg e : Expr} {e' : Fe} {g : Ftg} {vs : List Nat} {pos : Pos} (he : PE X e (tE C W e')) (hg : PG X tg (tGt C vs g)) (hs : swapsWithSole [tg] e pos.line X.env = pure false := by rfl) (hw : swappedStores [tg] e X.env = pure none := by rfl)
    (h1 : (assignEach [tg] X.env).map (·.2) = [assign tg X.env] := by rfl) : PS X (.Assign [tg] e pos) (tS C W (sAsg g e')) := by
  refine PS.imp (ps_asg he hg hs hw h1) fun D σ H h => ?_
  obtain ⟨ρ, M, env, rh, re, p⟩ := h
  refine ⟨ρ, M, env, rh, re, (p.st re).imp (fun d M1 ρ1 H1 e1 rh1 p2 v rv => ?_) (fun _ _ _ _ _ _ q => q)⟩
  exact ⟨ρ1, M1, env, d, _, rh1, re.mono e1, rv, (p2.st (re.mono e1)).imp (fun env2 M2 ρ2 H2 e2 rh2 p3 σ' re' _ => p3.nx rh2 re') (fun _ _ _ _ _ _ q => q)⟩
theorem m_ex {e : Expr} {e' : Fe} {pos : Pos} (he : PE X e (tE C W e')) (hs : swapsWith e none pos.line X.env = pure false := by rfl) : PS X (.Expr e pos) (tS C W (sEx e')) := by
  refine PS.imp (ps_expr he hs) fun D σ H h => ?_
  obtain ⟨ρ, M, env, rh, re, p⟩ := h
  exact ⟨ρ, M, env, rh, re, (p.st re).imp (fun d M1 ρ1 H1 e1 rh1 p2 v rv => p2.nx rh1 (re.mono e1)) (fun _ _ _ _ _ _ q => q)⟩
theorem m_ret {e : Expr} {e' : Fe} {pos : Pos} (he : PE X e (tE C W e')) : PS X (.Return (some e) pos) (tS C W (sRet e')) := by
  refine PS.imp (ps_ret he) fun D σ H h => ?_
  obtain ⟨ρ, M, env, rh, re, p⟩ := h
  exact ⟨ρ, M, env, rh, re, (p.st re).imp (fun d M1 ρ1 H1 e1 rh1 p2 v rv => p2.ret rh1 rv) (fun _ _ _ _ _ _ q => q)⟩
theorem m_retN {pos : Pos} : PS X (.Return none pos) (tS C W sRetN) := PS.imp ps_retN fun D σ H h => by
  obtain ⟨ρ, M, env, rh, re, p⟩ := h
  exact p.ret rh (by unfold RV; rfl)
theorem m_pass {pos : Pos} : PS X (.Pass pos) (tS C W sNx) := PS.imp ps_pass fun D σ H h => by
  obtain ⟨ρ, M, env, rh, re, p⟩ := h
  exact p.nx rh re
theorem m_break {pos : Pos} : PS X (.Break pos) (tS C W sBrk) := PS.imp ps_break fun D σ H h => by
  obtain ⟨ρ, M, env, rh, re, p⟩ := h
  exact p.brk rh re
theorem m_continue {pos : Pos} : PS X (.Continue pos) (tS C W sCnt) := PS.imp ps_continue fun D σ H h => by
  obtain ⟨ρ, M, env, rh, re, p⟩ := h
  exact p.cnt rh re
theorem m_if {c : Expr} {a b : List Stmt} {c' : Ft} {a' b' : Fs} {pos : Pos} (hc : PT X c (tT C W c')) (ha : PSs X a (tS C W a')) (hb : PSs X b (tS C W b')) : PS X (.If c a b pos) (tS C W (sIf c' a' b')) := by
  refine PS.imp (ps_if hc ha hb) fun D σ H h => ?_
  obtain ⟨ρ, M, env, rh, re, p⟩ := h
  refine ⟨ρ, M, env, rh, re, (p.st re).imp (fun k M1 ρ1 H1 e1 rh1 p2 v rv => ?_) (fun _ _ _ _ _ _ q => q)⟩
  subst rv
  cases v with
  | true => exact ⟨ρ1, M1, env, rh1, re.mono e1, p2⟩
  | false => exact ⟨ρ1, M1, env, rh1, re.mono e1, p2⟩
theorem m_aug {op : Operator} {r : R2} {f : MV → MV → Hm → R MV} {i : Nat} {x : Str} {e : Expr} {e' : Fe} {pos pos' : Pos} (hN : X.N.Nodup) (ho : OpR X (inplaceOp op) r) (hs : Sim2 C f r) (he : PE X e (tE C W e')) (hi : X.N[i]? = some x := by rfl)
    (hx : Loc X.env.scope x := by first | exact Or.inl rfl | exact Or.inr rfl) (hf : X.fn x = true ∨ X.env.scope.names.lookup x = some .local := by first | exact .inl rfl | exact .inr rfl | assumption) : PS X (.AugAssign (.Name x pos') op e pos) (tS C W (sAug f i e')) := by
  have hp : PIp X op r := fun pins s σ H x y v u Q I rx ry h => ho pins s σ H x y v u Q I rx ry h
  refine PS.imp (ps_aug hN hi hx he hp hf) fun D σ H h => ?_
  obtain ⟨ρ, M, env, rh, re, p⟩ := h
  unfold sAug at p
  split at p
  · rename_i d e0
    obtain ⟨v, e1, rd⟩ := re.at_ i d e0
    refine ⟨v, e1, ρ, M, env, rh, re, (p.st re).imp (fun d2 M1 ρ1 H1 e1 rh1 p2 w rw => ?_) (fun _ _ _ _ _ _ q => q)⟩
    exact hs ρ1 H1 M1 d d2 v w _ _ rh1 (rd.mono e1) rw ((p2.st (re.mono e1)).imp (fun z M2 ρ2 H2 e2 rh2 p3 u ru => p3.nx rh2 (((re.mono e1).mono e2).set i ru)) (fun _ _ _ _ _ _ q => q))
  · exact p.elim

/-! ### while -/
theorem m_while {c : Expr} {body : List Stmt} {c' : Ft} {b' : Fs} {pos : Pos} (hp : PassesOwn (model X.prog X.w) X.A X.env X.xe) (hc : PT X c (tT C W c')) (hb : PSs X body (tS C W b')) : PS X (.While c body [] pos) (tS C W (sWhl c' b')) := by
  refine PS.imp (ps_while hp hc hb) fun D σ H h => ?_
  obtain ⟨ρ, M, env, rh, re, p⟩ := h
  refine ⟨fun m σ H => ∃ ρ M env, RH C ρ H M ∧ RE C.K H ρ env σ ∧ PostS C ρ H (whlGo c' b' m env M) D W, ⟨WL, ρ, M, env, rh, re, p⟩, fun m σ H h => ?_⟩
  obtain ⟨ρ, M, env, rh, re, p⟩ := h
  cases m with
  | zero => exact p.elim
  | succ n =>
    refine ⟨ρ, M, env, rh, re, (p.st re).imp (fun k M1 ρ1 H1 e1 rh1 p2 v rv => ?_) (fun _ _ _ _ _ _ q => q)⟩
    subst rv
    cases v with
    | false => exact p2.nx rh1 (re.mono e1)
    | true =>
      have p2 : PostS C ρ1 H1 (match b' env M1 with
        | .ok .nx env2 M2 => whlGo c' b' n env2 M2
        | .ok .cnt env2 M2 => whlGo c' b' n env2 M2
        | .ok .brk env2 M2 => .ok .nx env2 M2
        | r => r) D W := p2
      refine ⟨fun σ H => ∃ ρ M env, RH C ρ H M ∧ RE C.K H ρ env σ ∧ PostS C ρ H (whlGo c' b' n env M) D W, fun σ' H' h => ⟨n, Nat.lt_succ_self n, h⟩, ρ1, M1, env, rh1, re.mono e1, ?_⟩
      cases e : b' env M1 with
      | bad => rw [e] at p2; exact p2
      | exc x env2 M2 => rw [e] at p2; exact p2
      | ok o env2 M2 =>
        rw [e] at p2
        cases o with
        | nx =>
          have p' : PostS C ρ1 H1 (whlGo c' b' n env2 M2) D W := p2
          exact fun ρ' H' σ' e1 rh1 re1 => ⟨ρ', M2, env2, rh1, re1, p'.ext e1⟩
        | cnt =>
          have p' : PostS C ρ1 H1 (whlGo c' b' n env2 M2) D W := p2
          exact fun ρ' H' σ' e1 rh1 re1 => ⟨ρ', M2, env2, rh1, re1, p'.ext e1⟩
        | brk => exact p2
        | ret d => exact p2

/-! ### for -/
/-- an iterator of the layer, and what comes by the small language -/
structure ItOk (C : Cfg) (H0 : Hp) (ρ0 : List Addr) (ni : Ni) (J : It) : Prop where
  stop : ∀ ρ H M k, Mo C.K ρ0 ρ H0 H → RH C ρ H M → ni M k = some none → J.stop k H
  go : ∀ ρ H M k x, Mo C.K ρ0 ρ H0 H → RH C ρ H M → ni M k = some (some x) → J.go k H
  yld : ∀ ρ H M k x v H', Mo C.K ρ0 ρ H0 H → RH C ρ H M → ni M k = some (some x) → J.yld k H v H' → Ext C.K ρ ρ H H' ∧ RH C ρ H' M ∧ RV C.K H' ρ x v
abbrev tIt (C : Cfg) (W : WX) (f : Fi) : TI := tG C W (fun H ρ p J => ItOk C H ρ p.1 J) f
theorem m_for {tg iter : Expr} {body : List Stmt} {it : Fi} {g : Ftg} {vs : List Nat} {b' : Fs} {pos : Pos} (hp : PassesOwn (model X.prog X.w) X.A X.env X.xe) (hc : X.calm = true) (hi : PI X tg iter (tIt C W it)) (hg : PG X tg (tGt C vs g)) (hb : PSs X body (tS C W b'))
    (hs : ∀ x, foldedSetIterable iter X.env x = pure x := by intro _; rfl) : PS X (.For tg iter body [] pos) (tS C W (sFor it g b')) := by
  refine PS.imp (ps_for hp hc hi hg hb hs) fun D σ H h => ?_
  obtain ⟨ρ, M, env, rh, re, p⟩ := h
  refine ⟨ρ, M, env, rh, re, (p.st re).imp (fun ni M1 ρ1 H1 e1 rh1 p2 J ok => ?_) (fun _ _ _ _ _ _ q => q)⟩
  obtain ⟨ni, n0⟩ := ni
  refine ⟨fun i m σ H => ∃ ρ M env, Ext C.K ρ1 ρ H1 H ∧ RH C ρ H M ∧ RE C.K H ρ env σ ∧ PostS C ρ H (forGo ni g b' m i env M) D W, ⟨n0, ρ1, M1, env, Ext.refl, rh1, re.mono e1, p2⟩, fun i m σ H h => ?_⟩
  obtain ⟨ρ, M, env, ex, rh, re, p⟩ := h
  cases m with
  | zero => exact p.elim
  | succ n =>
    unfold forGo at p
    cases hn : ni M i with
    | none => rw [hn] at p; exact p.elim
    | some o =>
      cases o with
      | none =>
        rw [hn] at p
        exact .inl ⟨ok.stop ρ H M i ex.toMo rh hn, p.nx rh re⟩
      | some x =>
        rw [hn] at p
        have p : PostS C ρ H ((g x env M).st env fun env1 M1 => match b' env1 M1 with
          | .ok .nx env2 M2 => forGo ni g b' n (i + 1) env2 M2
          | .ok .cnt env2 M2 => forGo ni g b' n (i + 1) env2 M2
          | .ok .brk env2 M2 => .ok .nx env2 M2
          | r => r) D W := p
        refine .inr ⟨ok.go ρ H M i x ex.toMo rh hn, fun σ H => ∃ ρ M env, Ext C.K ρ1 ρ H1 H ∧ RH C ρ H M ∧ RE C.K H ρ env σ ∧ PostS C ρ H (forGo ni g b' n (i + 1) env M) D W, fun σ' H' h => ⟨n, Nat.lt_succ_self n, h⟩, fun v H' hy => ?_⟩
        obtain ⟨e2, rh2, rv⟩ := ok.yld ρ H M i x v H' ex.toMo rh hn hy
        have re2 := re.mono e2
        refine ⟨ρ, M, env, x, _, rh2, re2, rv, ((p.ext e2).st re2).imp (fun env1 M2 ρ2 H2 e3 rh3 p3 σ1 re3 _ => ?_) (fun _ _ _ _ _ _ q => q)⟩
        have ex2 := (ex.trans e2).trans e3
        refine ⟨ρ2, M2, env1, rh3, re3, ?_⟩
        cases e : b' env1 M2 with
        | bad => rw [e] at p3; exact p3
        | exc x env2 M3 => rw [e] at p3; exact p3
        | ok o env2 M3 =>
          rw [e] at p3
          cases o with
          | nx =>
            have p' : PostS C ρ2 H2 (forGo ni g b' n (i + 1) env2 M3) D W := p3
            exact fun ρ' H' σ' e1 rh1 re1 => ⟨ρ', M3, env2, ex2.trans e1, rh1, re1, p'.ext e1⟩
          | cnt =>
            have p' : PostS C ρ2 H2 (forGo ni g b' n (i + 1) env2 M3) D W := p3
            exact fun ρ' H' σ' e1 rh1 re1 => ⟨ρ', M3, env2, ex2.trans e1, rh1, re1, p'.ext e1⟩
          | brk => exact p3
          | ret d => exact p3

/-! ### what is walked -/
theorem itok_list {i : Nat} {a : Addr} {ρ : List Addr} {H : Hp} (ha : ρ[i]? = some a) : ItOk C H ρ (nL i) (Itl C.K a) := by
  have at_ : ∀ {ρ2 : List Addr} {H2 : Hp} {M : Hm} {k : Nat} {o : Option MV}, Mo C.K ρ ρ2 H H2 → RH C ρ2 H2 M → nL i M k = some o → ∃ l xs, M[i]? = some (.lst l) ∧ o = l[k]? ∧ H2 a = some (.lst xs) ∧ RVs C.K H2 ρ2 l xs := fun {ρ2 H2 M k o} e rh q => by
    unfold nL at q
    split at q
    · rename_i l hm
      obtain ⟨xs, h1, h2⟩ := rh.at hm (e.ix ha)
      exact ⟨l, xs, hm, (Option.some.inj q).symm, h1, h2⟩
    · cases q
  refine ⟨fun ρ2 H2 M k e rh q => ?_, fun ρ2 H2 M k x e rh q => ?_, fun ρ2 H2 M k x v H' e rh q y => ?_⟩
  · obtain ⟨l, xs, hm, hk, h1, h2⟩ := at_ e rh q
    refine ⟨xs, SqL.of h1, ?_⟩
    have := List.getElem?_eq_none_iff.mp hk.symm
    rw [h2.len]
    exact this
  · obtain ⟨l, xs, hm, hk, h1, h2⟩ := at_ e rh q
    obtain ⟨v, e1, _⟩ := h2.get hk.symm
    exact ⟨xs, v, SqL.of h1, e1⟩
  · obtain ⟨l, xs, hm, hk, h1, h2⟩ := at_ e rh q
    obtain ⟨w, e1, r⟩ := h2.get hk.symm
    obtain ⟨rfl, y2⟩ := y
    have e2 := y2 xs (SqL.of h1)
    rw [e1] at e2
    cases e2
    exact ⟨Ext.refl, rh, r⟩
theorem itok_rol {l : List MV} {xs : List V} {a : Addr} {ρ : List Addr} {H : Hp} (hs : FzL C.K H a xs) (hr : RVs C.K H ρ l xs) : ItOk C H ρ (nT l) (Itl C.K a) := by
  refine ⟨fun ρ2 H2 M k e rh q => ?_, fun ρ2 H2 M k x e rh q => ?_, fun ρ2 H2 M k x v H' e rh q y => ?_⟩
  · refine ⟨xs, (e.fz _ _ hs).sq, ?_⟩
    have := List.getElem?_eq_none_iff.mp (Option.some.inj q)
    rw [hr.len]
    exact this
  · obtain ⟨v, e1, _⟩ := hr.get (Option.some.inj q)
    exact ⟨xs, v, (e.fz _ _ hs).sq, e1⟩
  · obtain ⟨w, e1, r⟩ := hr.get (Option.some.inj q)
    obtain ⟨rfl, y2⟩ := y
    have e2 := y2 xs (e.fz _ _ hs).sq
    rw [e1] at e2
    cases e2
    exact ⟨Ext.refl, rh, r.mo e⟩
theorem itok_tup {l : List MV} {xs : List V} {a : Addr} {ρ : List Addr} {H : Hp} (hs : SqT C.K H a xs) (hr : RVs C.K H ρ l xs) : ItOk C H ρ (nT l) (Itt C.K a) := by
  refine ⟨fun ρ2 H2 M k e rh q => ?_, fun ρ2 H2 M k x e rh q => ?_, fun ρ2 H2 M k x v H' e rh q y => ?_⟩
  · refine ⟨xs, e.tup _ _ hs, ?_⟩
    have := List.getElem?_eq_none_iff.mp (Option.some.inj q)
    rw [hr.len]
    exact this
  · obtain ⟨v, e1, _⟩ := hr.get (Option.some.inj q)
    exact ⟨xs, v, e.tup _ _ hs, e1⟩
  · obtain ⟨w, e1, r⟩ := hr.get (Option.some.inj q)
    obtain ⟨rfl, y2⟩ := y
    have e2 := y2 xs (e.tup _ _ hs)
    rw [e1] at e2
    cases e2
    exact ⟨Ext.refl, rh, r.mo e⟩
theorem mi_list {tg l : Expr} {l' : Fe} (hC : C.K = X.K) (hl : PE X l (tE C W l')) : PI X tg l (tIt C W (iL l')) := by
  refine PI.imp (pi_list hl) fun σ H Q h => ?_
  obtain ⟨ρ, M, env, rh, re, p⟩ := h
  refine ⟨ρ, M, env, rh, re, p.bind.imp (fun d M1 ρ1 H1 e1 rh1 p2 v rv => ?_) (fun _ _ _ _ _ _ q => q)⟩
  cases d with
  | ref i =>
    unfold RV at rv
    obtain ⟨a, h1, rfl⟩ := rv
    cases hm : M1[i]? with
    | none => simp only [hm] at p2; exact p2.elim
    | some o =>
      cases o with
      | lst l =>
        simp only [hm] at p2
        obtain ⟨xs, q1, q2⟩ := rh1.at hm h1
        exact ⟨a, rfl, ⟨xs, SqL.of q1⟩, p2.now rh1 _ (by rw [← hC]; exact itok_list h1)⟩
      | dic l => simp only [hm] at p2; exact p2.elim
      | ins c fs => simp only [hm] at p2; exact p2.elim
  | rol l =>
    unfold RV at rv
    obtain ⟨a, xs, rfl, h2, h3⟩ := rv
    exact ⟨a, rfl, ⟨xs, by rw [← hC]; exact h2.sq⟩, p2.now rh1 _ (by rw [← hC]; exact itok_rol h2 h3)⟩
  | _ => exact p2.elim
theorem mi_tup {tg l : Expr} {l' : Fe} (hC : C.K = X.K) (hl : PE X l (tE C W l')) : PI X tg l (tIt C W (iT l')) := by
  refine PI.imp (pi_tup hl) fun σ H Q h => ?_
  obtain ⟨ρ, M, env, rh, re, p⟩ := h
  refine ⟨ρ, M, env, rh, re, p.bind.imp (fun d M1 ρ1 H1 e1 rh1 p2 v rv => ?_) (fun _ _ _ _ _ _ q => q)⟩
  cases d with
  | tup l =>
    unfold RV at rv
    obtain ⟨a, xs, rfl, h2, h3⟩ := rv
    exact ⟨a, rfl, ⟨xs, by rw [← hC]; exact h2⟩, p2.now rh1 _ (by rw [← hC]; exact itok_tup h2 h3)⟩
  | _ => exact p2.elim

/-! ### list comprehensions -/
theorem mts_nil : PTs X [] (tT C W cYes) := ⟨fun pins s σ H Q I h => by
  obtain ⟨ρ, M, env, rh, re, p⟩ := h
  exact wpAny_tests_nil ⟨H, I, p.now rh true rfl⟩⟩
theorem mts_one {c : Expr} {c' : Ft} (h : PT X c (tT C W c')) : PTs X [c] (tT C W c') := pts_one h
abbrev W0 : WX := fun _ _ _ _ => False
/-- without what stands at D -/
def er (H : Hp) (D : Addr) : Hp := fun b => if b = D then none else H b
theorem er_self {H : Hp} {D : Addr} : er H D D = none := if_pos rfl
theorem er_ne {H : Hp} {D b : Addr} (h : b ≠ D) : er H D b = H b := if_neg h
theorem er_back {H : Hp} {D : Addr} {u : HO} (h : H D = some u) : upd (er H D) D u = H := by
  funext b
  by_cases e : b = D
  · subst e; rw [upd_same, h]
  · rw [upd_ne e, er_ne e]
theorem er_upd {H : Hp} {D : Addr} {u : HO} : er (upd H D u) D = er H D := by
  funext b
  by_cases e : b = D
  · subst e; rw [er_self, er_self]
  · rw [er_ne e, er_ne e, upd_ne e]
theorem er_free {H : Hp} {D : Addr} (h : H D = none) : er H D = H := by
  funext b
  by_cases e : b = D
  · subst e; rw [er_self, h]
  · rw [er_ne e]
section
variable {ρ ρ' : List Addr} {H H' : Hp} {M : Hm} {D : Addr} {u : HO}
theorem SqT.of_er {K : PySem.W.Frag} {a : Addr} {xs : List V} (h : SqT K (er H D) a xs) : SqT K H a xs := by
  have rd : ∀ w, er H D a = some w → H a = some w := fun w q => by
    by_cases e : a = D
    · rw [e, er_self] at q; cases q
    · rw [er_ne e] at q; exact q
  rcases h with (h | ⟨o, h⟩) | h
  · exact .inl (.inl (rd _ h))
  · exact .inl (.inr ⟨o, rd _ h⟩)
  · exact .inr h
theorem SqT.er {K : PySem.W.Frag} {a : Addr} {xs : List V} (hm : Mut (some u)) (hD : H D = some u) (h : SqT K H a xs) : SqT K (er H D) a xs := by
  have rd : ∀ w, ¬ Mut (some w) → H a = some w → Mi.er H D a = some w := fun w nm q => by
    rw [er_ne (fun e => by rw [e, hD] at q; cases q; exact nm hm)]
    exact q
  rcases h with (h | ⟨o, h⟩) | h
  · exact .inl (.inl (rd _ (fun z => z) h))
  · exact .inl (.inr ⟨o, rd _ (fun z => z) h⟩)
  · exact .inr h
theorem FzL.of_er {K : PySem.W.Frag} {a : Addr} {xs : List V} (h : FzL K (er H D) a xs) : FzL K H a xs := by
  rcases h with ⟨o, h⟩ | h
  · refine .inl ⟨o, ?_⟩
    by_cases e : a = D
    · rw [e, er_self] at h; cases h
    · rw [er_ne e] at h; exact h
  · exact .inr h
theorem FzL.er {K : PySem.W.Frag} {a : Addr} {xs : List V} (hm : Mut (some u)) (hD : H D = some u) (h : FzL K H a xs) : FzL K (er H D) a xs := by
  rcases h with ⟨o, h⟩ | h
  · refine .inl ⟨o, ?_⟩
    rw [er_ne (fun e => by rw [e, hD] at h; cases h; exact hm)]
    exact h
  · exact .inr h
theorem Ext.er {K : PySem.W.Frag} (e : Ext K ρ ρ' H H') (hm : Mut (some u)) (hD : H D = some u) (nD : D ∉ ρ) : Ext K ρ ρ' (er H D) (er H' D) ∧ H' D = some u ∧ D ∉ ρ' := by
  have hD' := e.fr D u hD nD
  have nD' : D ∉ ρ' := fun q => by
    rcases e.nw D q with q | q
    · exact nD q
    · rw [hD] at q; cases q
  refine ⟨⟨⟨e.pre, fun a xs q => SqT.er hm hD' (e.tup a xs (SqT.of_er q)), fun a xs q => FzL.er hm hD' (e.fz a xs (FzL.of_er q))⟩, fun a o q hn => ?_, fun a q => ?_⟩, hD', nD'⟩
  · by_cases z : a = D
    · rw [z, er_self] at q; cases q
    · rw [er_ne z] at q ⊢
      exact e.fr a o q hn
  · rcases e.nw a q with q | q
    · exact .inl q
    · refine .inr ?_
      by_cases z : a = D
      · rw [z, er_self]
      · rw [er_ne z]; exact q
theorem RE.er {env : Env} {σ : L2.St} {K : PySem.W.Frag} (hm : Mut (some u)) (hD : H D = some u) (e : Ext K ρ ρ (er H D) H) (h : RE K (er H D) ρ env σ) : RE K H ρ env σ := h.mono e
theorem Ext.ofEr {K : PySem.W.Frag} (hD : H D = some u) : Ext K ρ ρ (Mi.er H D) H := by
  have q := Ext.new (C := ⟨K, fun _ => 0⟩) (ρ := ρ) (H := Mi.er H D) (a := D) (o := u) er_self
  rw [er_back hD] at q
  exact q
theorem RH.er (h : RH C ρ H M) (nD : D ∉ ρ) (hm : Mut (some u)) (hD : H D = some u) : RH C ρ (Mi.er H D) M := by
  have m : Mo C.K ρ ρ H (Mi.er H D) := ⟨List.prefix_refl _, fun a xs q => SqT.er hm hD q, fun a xs q => FzL.er hm hD q⟩
  refine ⟨h.len, h.nd, fun i o hi => ?_⟩
  obtain ⟨a, ha, r⟩ := h.ob i o hi
  have ne : a ≠ D := fun e => nD (by rw [← e]; exact List.mem_of_getElem? ha)
  exact ⟨a, ha, r.mo m (er_ne ne)⟩
theorem Post.er {α : Type} {r : R α} {F : α → Hm → List Addr → Hp → Prop} {G : MX → Hm → List Addr → Hp → Prop} (hm : Mut (some u)) (hD : H D = some u) (nD : D ∉ ρ) (p : Post C ρ (Mi.er H D) r F G) :
    Post C ρ H r (fun a M' ρ' H' => H' D = some u ∧ D ∉ ρ' ∧ F a M' ρ' (Mi.er H' D)) (fun x M' ρ' H' => G x M' ρ' (Mi.er H' D)) := by
  cases r with
  | ok a M' =>
    intro ρ' H' e rh
    obtain ⟨e', h1, h2⟩ := e.er hm hD nD
    exact ⟨h1, h2, p ρ' _ e' (rh.er h2 hm h1)⟩
  | exc x M' =>
    intro ρ' H' e rh
    obtain ⟨e', h1, h2⟩ := e.er hm hD nD
    exact p ρ' _ e' (rh.er h2 hm h1)
  | bad => exact p
end
theorem wipe_wipe (σ : L2.St) : ∀ vs : List Nat, wipe (wipe σ vs) vs = wipe σ vs := by
  have key : ∀ (us vs : List Nat), (∀ i ∈ us, i ∈ vs) → ∀ τ : L2.St, wipe (wipe τ us) vs = wipe τ vs := by
    intro us
    induction us with
    | nil => intro vs _ τ; rfl
    | cons u us ih =>
      intro vs h τ
      show wipe ((wipe τ us).set u none) vs = wipe τ vs
      rw [wipe_set (h u List.mem_cons_self)]
      exact ih vs (fun i hi => h i (List.mem_cons_of_mem _ hi)) τ
  exact fun vs => key vs vs (fun _ h => h) σ
theorem upd_er {H : Hp} {D : Addr} {u : HO} : upd (er H D) D u = upd H D u := by
  funext b
  by_cases e : b = D
  · subst e; rw [upd_same, upd_same]
  · rw [upd_ne e, upd_ne e, er_ne e]
theorem lc_read {Q : VK} {σ : L2.St} {H : Hp} {it : Fi} {g : Ftg} {c' : Ft} {e' : Fe} {vs : List Nat} (h : tE C W (eLc it g c' e' vs) σ H Q) : tLc (tIt C W it) (tGt C vs g) (tT C W0 c') (tE C W0 e') vs σ H Q := by
  obtain ⟨ρ, M, env, rh, re, p⟩ := h
  refine ⟨ρ, M, env, rh, re, p.bind.imp (fun pn M1 ρ1 H1 e1 rh1 p2 J ok => ?_) (fun _ _ _ _ _ _ q => q)⟩
  obtain ⟨ni, n0⟩ := pn
  intro D hD
  have re1 : RE C.K H1 ρ1 (wipeE env vs) (wipe σ vs) := (re.mono e1).wipe vs
  refine ⟨fun i m H => ∃ ρ M acc ys, Ext C.K ρ1 ρ H1 (er H D) ∧ RH C ρ H M ∧ D ∉ ρ ∧ H D = some (.lst ys) ∧ RVs C.K H ρ acc ys ∧
      Post C ρ (er H D) ((lcGo ni g c' e' (wipeE env vs) m i acc M).bind fun l M2 => .ok (.ref M2.length) (M2 ++ [.lst l])) (fun d _ ρ' H' => ∀ v, RV C.K H' ρ' d v → Q v H') (fun x _ ρ' H' => ∀ cls dd, RX C H' ρ' x cls dd → W cls dd σ H'),
    ⟨n0, ρ1, M1, [], [], ?_, rh1.beside hD, rh1.fresh hD, upd_same, RVs.nil, ?_⟩, fun i m H h => ?_⟩
  · rw [er_upd, er_free hD]; exact Ext.refl
  · rw [er_upd, er_free hD]; exact p2
  obtain ⟨ρ, M, acc, ys, ex, rh, nD, hD2, ra, p⟩ := h
  have rhE := rh.er nD (show Mut (some (.lst ys)) from trivial) hD2
  have exH : Ext C.K ρ1 ρ H1 H := ex.trans (Ext.ofEr hD2)
  cases m with
  | zero => exact p.elim
  | succ n =>
    unfold lcGo at p
    cases hn : ni M i with
    | none => rw [hn] at p; exact p.elim
    | some o =>
      cases o with
      | none =>
        rw [hn] at p
        have p : Post C ρ (er H D) (.ok (.ref M.length) (M ++ [.lst acc])) (fun d _ ρ' H' => ∀ v, RV C.K H' ρ' d v → Q v H') (fun x _ ρ' H' => ∀ cls dd, RX C H' ρ' x cls dd → W cls dd σ H') := p
        refine .inl ⟨ok.stop ρ H M i exH.toMo rh hn, ?_⟩
        have e2 : Ext C.K ρ (ρ ++ [D]) (er H D) (upd (er H D) D (.lst ys)) := Ext.new1 (C := C) er_self
        have rh2 : RH C (ρ ++ [D]) (upd (er H D) D (.lst ys)) (M ++ [.lst acc]) := rhE.push er_self ⟨ys, upd_same, by rw [er_back hD2]; exact ra.mo ⟨List.prefix_append _ _, fun _ _ q => q, fun _ _ q => q⟩⟩
        rw [er_back hD2] at e2 rh2
        refine p _ _ e2 rh2 (.ref D) ?_
        unfold RV
        refine ⟨D, ?_, rfl⟩
        rw [← rh.len, List.getElem?_append_right (Nat.le_refl _), Nat.sub_self]
        rfl
      | some x =>
        rw [hn] at p
        have p : Post C ρ (er H D) (((g x (wipeE env vs) M).bindN fun env1 M1 => (c' env1 M1).bindN fun b M2 => if b then (e' env1 M2).bindN fun y M3 => if acc.length < SL then lcGo ni g c' e' (wipeE env vs) n (i + 1) (acc ++ [y]) M3 else .bad else lcGo ni g c' e' (wipeE env vs) n (i + 1) acc M2).bind fun l M2 => .ok (.ref M2.length) (M2 ++ [.lst l])) (fun d _ ρ' H' => ∀ v, RV C.K H' ρ' d v → Q v H') (fun x _ ρ' H' => ∀ cls dd, RX C H' ρ' x cls dd → W cls dd σ H') := p
        rw [R.bindN_bind] at p
        have mu : ∀ {zs : List V}, Mut (some (.lst zs)) := fun {_} => trivial
        refine .inr ⟨ok.go ρ H M i x exH.toMo rh hn, fun H => ∃ ρ M acc ys, Ext C.K ρ1 ρ H1 (er H D) ∧ RH C ρ H M ∧ D ∉ ρ ∧ H D = some (.lst ys) ∧ RVs C.K H ρ acc ys ∧
          Post C ρ (er H D) ((lcGo ni g c' e' (wipeE env vs) n (i + 1) acc M).bind fun l M2 => .ok (.ref M2.length) (M2 ++ [.lst l])) (fun d _ ρ' H' => ∀ v, RV C.K H' ρ' d v → Q v H') (fun x _ ρ' H' => ∀ cls dd, RX C H' ρ' x cls dd → W cls dd σ H'), fun H' h => ⟨n, Nat.lt_succ_self n, h⟩, fun v H' hy => ?_⟩
        obtain ⟨e2, rh2, rv⟩ := ok.yld ρ H M i x v H' exH.toMo rh hn hy
        obtain ⟨e2E, hD3, _⟩ := e2.er mu hD2 nD
        have ra2 := ra.mono e2
        refine ⟨ρ, M, wipeE env vs, x, _, rh2, re1.mono (exH.trans e2), rv, (Post.er mu hD3 nD (p.ext e2E).bindN).imp (fun env1 M2 ρ2 H2 e3 rh3 ⟨hD4, nD4, p3⟩ σ2 re3 hw => ?_) (fun _ _ _ _ _ _ q => q)⟩
        refine ⟨hw.trans (wipe_wipe σ vs), ?_⟩
        have ra3 := ra2.mono e3
        have ex3 := (ex.trans e2E).trans (e3.er mu hD3 nD).1
        rw [R.bindN_bind] at p3
        refine ⟨ρ2, M2, env1, rh3, re3, (Post.er mu hD4 nD4 p3.bindN).imp (fun b M3 ρ3 H3 e4 rh4 ⟨hD5, nD5, p4⟩ b' hb => ?_) (fun _ _ _ _ _ _ q => q.elim)⟩
        subst hb
        have ra4 := ra3.mono e4
        have ex4 := ex3.trans (e4.er mu hD4 nD4).1
        cases b' with
        | false =>
          exact ⟨ρ3, M3, acc, ys, ex4, rh4, nD5, hD5, ra4, p4⟩
        | true =>
          have p4 : Post C ρ3 (er H3 D) (((e' env1 M3).bindN fun y M3 => if acc.length < SL then lcGo ni g c' e' (wipeE env vs) n (i + 1) (acc ++ [y]) M3 else .bad).bind fun l M2 => .ok (.ref M2.length) (M2 ++ [.lst l])) (fun d _ ρ' H' => ∀ v, RV C.K H' ρ' d v → Q v H') (fun x _ ρ' H' => ∀ cls dd, RX C H' ρ' x cls dd → W cls dd σ H') := p4
          rw [R.bindN_bind] at p4
          refine ⟨ρ3, M3, env1, rh4, re3.mono e4, (Post.er mu hD5 nD5 p4.bindN).imp (fun y M4 ρ4 H4 e5 rh5 ⟨hD6, nD6, p5⟩ w rw_ => ?_) (fun _ _ _ _ _ _ q => q.elim)⟩
          have ra5 := ra4.mono e5
          have ex5 := ex4.trans (e5.er mu hD5 nD5).1
          by_cases hl : acc.length < SL
          · rw [if_pos hl] at p5
            refine ⟨ys, hD6, by rw [ra5.len, sizeLine_eq]; exact hl, ρ4, M4, acc ++ [y], ys ++ [w], ?_, ?_, nD6, upd_same, ?_, ?_⟩
            · rw [er_upd]; exact ex5
            · have q := (rh5.er nD6 mu hD6).beside (o := .lst (ys ++ [w])) (er_self (H := H4) (D := D))
              rw [upd_er] at q
              exact q
            · have m : Mo C.K ρ4 ρ4 H4 (upd H4 D (.lst (ys ++ [w]))) := by
                have q1 : Mo C.K ρ4 ρ4 H4 (er H4 D) := ⟨List.prefix_refl _, fun a xs q => SqT.er mu hD6 q, fun a xs q => FzL.er mu hD6 q⟩
                have q2 := (Ext.new (C := C) (ρ := ρ4) (o := .lst (ys ++ [w])) (er_self (H := H4) (D := D))).toMo
                rw [upd_er] at q2
                exact ⟨List.prefix_refl _, fun a xs q => q2.tup a xs (q1.tup a xs q), fun a xs q => q2.fz a xs (q1.fz a xs q)⟩
              exact (ra5.snoc rw_).mo m
            · rw [er_upd]; exact p5
          · rw [if_neg hl] at p5
            exact p5.elim
theorem m_lc {elt tg iter : Expr} {ifs : List Expr} {scope : Scope} {own : List (Str × Nat)} {pos : Pos} {it : Fi} {g : Ftg} {c' : Ft} {e' : Fe} (hc : X.calm = true) (hN : X.N.Nodup) (hi : PI X tg iter (tIt C W it)) (ok : BlkOk X.N X.env.scope scope own)
    (hg : ∀ (s : Shared) (H : Hp) (C' : Addr) (cl : List (Str × Addr)) (fp : List Addr), PG (X.blk s H scope (compEnvC scope cl C' X.env) fp) tg (tGt C (own.map (·.2)) g)) (ht : ∀ (s : Shared) (H : Hp) (C' : Addr) (cl : List (Str × Addr)) (fp : List Addr), PTs (X.blk s H scope (compEnvC scope cl C' X.env) fp) ifs (tT C W0 c'))
    (he : ∀ (s : Shared) (H : Hp) (C' : Addr) (cl : List (Str × Addr)) (fp : List Addr), PE (X.blk s H scope (compEnvC scope cl C' X.env) fp) elt (tE C W0 e')) (hs : ∀ x, foldedSetIterable iter X.env x = pure x := by intro _; rfl) :
    PE X (.ListComp elt [⟨tg, iter, ifs, 0⟩] scope pos) (tE C W (eLc it g c' e' (own.map (·.2)))) :=
  PE.imp (pe_lc hc hN hi ok hg ht he hs) fun σ H Q h => lc_read h
theorem m_setLc {i : Nat} {y : Str} {py : Pos} {elt tg iter : Expr} {ifs : List Expr} {scope : Scope} {own : List (Str × Nat)} {pos spos : Pos} {it : Fi} {g : Ftg} {c' : Ft} {e' : Fe} (hc : X.calm = true) (hN : X.N.Nodup) (hyl : X.env.scope.names.lookup y = some .local)
    (hsw : swapsWith (.ListComp elt [⟨tg, iter, ifs, 0⟩] scope pos) (some (.Name y py)) spos.line X.env = pure true) (hi : PI X tg iter (tIt C W it)) (ok : BlkOk X.N X.env.scope scope own)
    (hg : ∀ (s : Shared) (H : Hp) (C' : Addr) (cl : List (Str × Addr)) (fp : List Addr), PG (X.blk s H scope (compEnvC scope cl C' X.env) fp) tg (tGt C (own.map (·.2)) g)) (ht : ∀ (s : Shared) (H : Hp) (C' : Addr) (cl : List (Str × Addr)) (fp : List Addr), PTs (X.blk s H scope (compEnvC scope cl C' X.env) fp) ifs (tT C W0 c'))
    (he : ∀ (s : Shared) (H : Hp) (C' : Addr) (cl : List (Str × Addr)) (fp : List Addr), PE (X.blk s H scope (compEnvC scope cl C' X.env) fp) elt (tE C W0 e')) (hs : ∀ x, foldedSetIterable iter X.env x = pure x := by intro _; rfl) (hy : X.N[i]? = some y := by rfl) :
    PS X (.Assign [.Name y py] (.ListComp elt [⟨tg, iter, ifs, 0⟩] scope pos) spos) (tS C W (sSet i (eLc it g c' e' (own.map (·.2))))) := by
  refine PS.imp (ps_setLc hc hN hy hyl hsw hi ok hg ht he hs) fun D σ H h => ?_
  obtain ⟨ρ, M, env, rh, re, p⟩ := h
  have p := (p.st re).imp (F' := fun d _ ρ' H' => ∀ v, RV C.K H' ρ' d v → D.nx (σ.set i (some v)) H') (fun d M1 ρ1 H1 e1 rh1 p2 v rv => p2.nx rh1 ((re.mono e1).set i rv)) (fun _ _ _ _ _ _ q => q)
  exact lc_read ⟨ρ, M, env, rh, re, p⟩
end
end Mi
set_option maxRecDepth 100000
/-! Defs, calls, raise, try. -/
namespace Mi
open PySem PySem.Spec PyProof.Rows L2
/-- a def's promise: it does what G says of it -/
def spF (C : Cfg) (G : Ga) (np f : Nat) : Sp := fun vs H Q E => vs.length = np ∧ ∃ ρ M ds, RH C ρ H M ∧ RVs C.K H ρ ds vs ∧
  Post C ρ H (G f ds M) (fun d _ ρ' H' => ∀ v, RV C.K H' ρ' d v → Q v H') (fun x _ ρ' H' => ∀ cls dd, RX C H' ρ' x cls dd → E cls dd H')
/-- what a caller has of the def f at fa -/
structure Call1 (C : Cfg) (P : Program) (w : World) (K : PySem.W.Frag) (mg : Str → Option Value) (base : Heap) (A : Around) (G : Ga) (f : Nat) (fa : Addr) : Prop where
  np : ∃ np, (∀ ds M, ds.length ≠ np → G f ds M = .bad) ∧ ∃ k fd ps, FnOk P w K mg base (L2.CX P w) k fa fd ps (spF C G np f) ∧ Room k A ∧ Binds K fd ps []
  kp : PySem.W.keepIn K (.ref fa) = true
section
variable {X : Cx} {C : Cfg} {W : WX}
theorem call_sp {G : Ga} {np f : Nat} {t' : Fa} (hl : ∀ ds M, ds.length ≠ np → G f ds M = .bad) {σ : L2.St} {H : Hp} {Q : VK} (h : tE C W (eCall G f t') σ H Q) : tCallS (spF C G np f) (WE W) (tA C W t') σ H Q := by
  obtain ⟨ρ, M, env, rh, re, p⟩ := h
  refine ⟨ρ, M, env, rh, re, p.bind.imp (fun ds M1 ρ1 H1 e1 rh1 p2 vs rvs => ?_) (fun _ _ _ _ _ _ q => q)⟩
  have hlen : ds.length = np := by
    by_cases h : ds.length = np
    · exact h
    · rw [hl ds M1 h] at p2
      exact p2.elim
  exact ⟨by rw [rvs.len]; exact hlen, ρ1, M1, ds, rh1, rvs, p2⟩
theorem m_call {G : Ga} {f : Nat} {fa : Addr} {x : Str} {p pos : Pos} {e : Expr} {es : List Expr} {t' : Fa} (c : Call1 C X.prog X.w X.K X.mg X.base X.A G f fa) (hm : X.mg x = some (.ref fa)) (tk : Takes X W) (ha : PA X (e :: es) (tA C W t')) (hg : Gl X x := by rfl)
    (hdb : (x == ("__debug__" : Str)) = false := by decide) (he : starEach (e :: es) X.env = (false, eval e X.env) :: starEach es X.env := by rfl) (hpl : (backTo pos (starEach es X.env)).any (·.1) = false := by rfl) :
    PE X (.Call (.Name x p) (e :: es) [] pos) (tE C W (eCall G f t')) := by
  obtain ⟨np, hl, k, fd, ps, F, hr, hb⟩ := c.np
  exact PE.imp (pe_callS F hr hg hm c.kp hb (fun σ => passAt tk σ) ha hdb he hpl) fun σ H Q h => call_sp hl h
theorem m_call0 {G : Ga} {f : Nat} {fa : Addr} {x : Str} {p pos : Pos} (c : Call1 C X.prog X.w X.K X.mg X.base X.A G f fa) (hm : X.mg x = some (.ref fa)) (tk : Takes X W) (hg : Gl X x := by rfl) (hdb : (x == ("__debug__" : Str)) = false := by decide) :
    PE X (.Call (.Name x p) [] [] pos) (tE C W (eCall G f aNil)) := by
  obtain ⟨np, hl, k, fd, ps, F, hr, hb⟩ := c.np
  refine ⟨fun pins s σ H Q I h => ?_⟩
  have h2 := call_sp hl h
  obtain ⟨ρ, M, env, rh, re, pp⟩ := h
  have h3 : spF C G np f [] H Q (WE W σ) := by
    have h4 : eCall G f aNil env M = G f [] M := rfl
    rw [h4] at pp
    have hlen : ([] : List MV).length = np := by
      by_cases h : ([] : List MV).length = np
      · exact h
      · rw [hl [] M h] at pp
        exact pp.elim
    exact ⟨hlen, ρ, M, [], rh, RVs.nil, pp⟩
  refine wpAny_Call_Name_kw (ld_glob I hg hm ?_ hdb)
  exact PySem.W.callWith_K0 I.kIn c.kp (run_fnS (us := []) (E := WE W) F hr hb (passAt tk σ) I .nil h3)
end

/-- the wish of a def's body -/
abbrev WB (E : XK) : WX := fun cls d _ H => E cls d H
abbrev Bx (P : Program) (w : World) (K : PySem.W.Frag) (mg : Str → Option Value) (base : Heap) (N : List Str) (qual : Str) (sc : Scope) (f : Addr) (cdv : Value) (A : Around) (outer : List PySem.Env) (s : Shared) (H : Hp) (E : XK) : Cx :=
  cxOf (L2.CX P w) P w K mg base N qual sc f cdv A outer s H E
section
variable {P : Program} {w : World} {K : PySem.W.Frag} {mg : Str → Option Value} {base : Heap} {C : Cfg}
theorem start_re {ρ : List Addr} {H : Hp} {ds : List MV} {vs : List V} {N : List Str} (r : RVs C.K H ρ ds vs) (hl : ds.length ≤ N.length) : RE C.K H ρ (ds.map some ++ List.replicate (N.length - ds.length) none) (L2.start N vs) := by
  have e := r.len
  refine ⟨?_, fun i d h => ?_⟩
  · unfold L2.start
    simp only [List.length_append, List.length_map, List.length_replicate]
    omega
  · by_cases hi : i < ds.length
    · rw [List.getElem?_append_left (by simpa using hi), List.getElem?_map] at h
      cases q : ds[i]? with
      | none => rw [q] at h; cases h
      | some d' =>
        rw [q] at h
        cases h
        obtain ⟨v, hv, rv⟩ := r.get q
        refine ⟨v, ?_, rv⟩
        unfold L2.start
        rw [List.getElem?_append_left (by simpa [e] using hi), List.getElem?_map, hv]
        rfl
    · rw [List.getElem?_append_right (by simpa using Nat.le_of_not_lt hi), List.getElem?_replicate] at h
      split at h <;> cases h
theorem res_post {Q : VK} {E : XK} {ρ : List Addr} {H : Hp} {r : RS} (p : Post C ρ H r.res (fun d _ ρ' H' => ∀ v, RV C.K H' ρ' d v → Q v H') (fun x _ ρ' H' => ∀ cls dd, RX C H' ρ' x cls dd → E cls dd H')) :
    PostS C ρ H r { nx := fun _ H' => Q .non H', rt := Q } (WB E) := by
  cases r with
  | ok o env M =>
    cases o with
    | nx =>
      have p' : Post C ρ H (.ok .non M) (fun d _ ρ' H' => ∀ v, RV C.K H' ρ' d v → Q v H') (fun x _ ρ' H' => ∀ cls dd, RX C H' ρ' x cls dd → E cls dd H') := p
      exact fun ρ' H' σ' e rh _ => p' ρ' H' e rh .non (by unfold RV; rfl)
    | ret d =>
      have p' : Post C ρ H (.ok d M) (fun d _ ρ' H' => ∀ v, RV C.K H' ρ' d v → Q v H') (fun x _ ρ' H' => ∀ cls dd, RX C H' ρ' x cls dd → E cls dd H') := p
      exact fun ρ' H' v e rh rv => p' ρ' H' e rh v rv
    | brk => exact p.elim
    | cnt => exact p.elim
  | exc x env M =>
    have p' : Post C ρ H (.exc x M) (fun d _ ρ' H' => ∀ v, RV C.K H' ρ' d v → Q v H') (fun x _ ρ' H' => ∀ cls dd, RX C H' ρ' x cls dd → E cls dd H') := p
    exact fun ρ' H' σ' cls dd e rh _ rx => p' ρ' H' e rh cls dd rx
  | bad => exact p.elim
/-- a def of the text by its body, a call deeper -/
theorem fn_mi {x qual : Str} {st : Stmt} {fa : Addr} {fd : FuncData} {N ps : List Str} {k f : Nat} {G G' : Ga} {d : Df} (F : Fun K x qual st fa fd) (S : FnScope N ps (defScope st)) (hd : d.np = ps.length ∧ d.ns = N.length)
    (hG : ∀ ds M, G' f ds M = callD d G ds M)
    (hbody : ∀ (cdv : Value) (A : Around) (outer : List PySem.Env) (s : Shared) (H : Hp) (E : XK), Room k (A.deeper (envOfC qual (defScope st) s.heap.objs.size fa cdv)) →
      PSs (Bx P w K mg base N qual (defScope st) fa cdv A outer s H E) (defBody st) (tS C (WB E) (d.bd G))) : FnOk P w K mg base (L2.CX P w) (k + 1) fa fd ps (spF C G' ps.length f) := by
  refine F.okX S (fun vs H Q E h => h.1) (fun cdv A outer s H vs Q E hr h => ⟨tS C (WB E) (d.bd G), hbody cdv A outer s H E hr, ?_⟩)
  obtain ⟨hl, ρ, M, ds, rh, rvs, p⟩ := h
  have hN : ps.length ≤ N.length := by have := congrArg List.length S.pre; rw [List.length_take] at this; omega
  have hds : ds.length = ps.length := by rw [← rvs.len]; exact hl
  rw [hG] at p
  unfold callD at p
  rw [if_pos (by rw [hds]; exact hd.1.symm), hd.1, hd.2] at p
  refine ⟨ρ, M, _, rh, ?_, res_post (gc_postW rh p)⟩
  have q := start_re (N := N) rvs (by rw [hds]; exact hN)
  rw [hds] at q
  exact q
end

/-! ### raise C('..') -/
def sRaiseC (c : Nat) : Fs := fun env M => .exc ⟨c, none⟩ env M
/-- what an own exception class without own __init__ must have -/
structure ExC (K : PySem.W.Frag) (cA : Addr) : Prop where
  ex : PySem.W.excIn K cA [.type "ValueError", .type "Exception", .type "BaseException", .type "object"] "ValueError.__new__" = true
  kp : PySem.W.keepIn K (.ref cA) = true
  sb : PySem.W.subIn K (.ref cA) (.type "BaseException") = some true
  ty : PySem.W.typeIn K (.ref cA) = some (.type "type")
section
variable {X : Cx} {C : Cfg} {W : WX}
theorem m_raise {c : Nat} {x m : Str} {j : Nat} {p p2 pos pos2 : Pos} (hc : X.calm = true) (tk : Takes X W) (E : ExC X.K (C.cA c)) (hm : X.mg x = some (.ref (C.cA c))) (hg : Gl X x := by rfl) (hdb : (x == ("__debug__" : Str)) = false := by decide) :
    PS X (.Raise (some (.Call (.Name x p) [.Constant (.str m) j p2] [] pos)) none pos2) (tS C W (sRaiseC c)) := by
  refine PS.imp (ps_raise hc tk (pmk_own PySem.F.excBase_ValueError E.ex hm E.kp (raises_own E.sb E.ty) hg hdb)) fun D σ H h => ?_
  obtain ⟨ρ, M, env, rh, re, p⟩ := h
  exact p ρ H σ _ none Ext.refl rh re ⟨rfl, trivial⟩

/-! ### try .. except C as n: suite -/
/-- sub: which classes the clause names -/
def sTryAs (b : Fs) (sub : Nat → Option Bool) (i : Nat) (su : MX → Fs) : Fs := fun env M => match b env M with
  | .exc x env1 M1 => (match sub x.cls with
    | some true => if i < env1.length then (match su x (env1.set i none) M1 with
      | .ok o env2 M2 => .ok o (env2.set i none) M2
      | _ => .bad) else .bad
    | some false => .exc x env1 M1
    | none => .bad)
  | r => r
/-- what a suite does, the exception in slot i -/
def tSu (C : Cfg) (i : Nat) (su : MX → Fs) (a : Addr) (cls : Value) (d : Option Addr) : TS := fun D σ H => ∃ x ρ M env, RX C H ρ x cls d ∧ H a = none ∧ RH C ρ H M ∧ RE C.K H ρ env σ ∧ σ[i]? = some (some (.ref a)) ∧
  PostS C ρ H (su x env M) D W0
theorem PostS.setNone {ρ : List Addr} {H : Hp} {i : Nat} {r : RS} {D : Ends} (p : PostS C ρ H (match r with
      | .ok o env2 M2 => .ok o (env2.set i none) M2
      | _ => .bad) D W) : PostS C ρ H r { nx := fun σ' H' => D.nx (σ'.set i none) H', rt := D.rt, bk := fun σ' H' => D.bk (σ'.set i none) H', ct := fun σ' H' => D.ct (σ'.set i none) H' } W0 := by
  cases r with
  | ok o env M =>
    cases o with
    | nx => exact fun ρ' H' σ' e rh re => p ρ' H' _ e rh (re.none i Option.none)
    | brk => exact fun ρ' H' σ' e rh re => p ρ' H' _ e rh (re.none i Option.none)
    | cnt => exact fun ρ' H' σ' e rh re => p ρ' H' _ e rh (re.none i Option.none)
    | ret d => exact p
  | exc x env M => exact p.elim
  | bad => exact p.elim
theorem m_try_as {i : Nat} {x n : Str} {c : Addr} {sub : Nat → Option Bool} {body suite : List Stmt} {b₀ : Stmt} {b' : Fs} {su : MX → Fs} {np pos pos' : Pos} (hK : C.K = X.K) (hN : X.N.Nodup) (tk : Takes X W) (hm : X.mg x = some (.ref c))
    (hsub : ∀ j b, sub j = some b → PySem.W.exmOne X.K (.ref (C.cA j)) (.ref c) = some b)
    (hb : ∀ (W' : WX) (pn : List (Addr × Obj)) (xe : Value → Shared → Prop), Takes (X.tr pn xe) W' → PassesOwn (model X.prog X.w) X.A X.env xe → PSs (X.tr pn xe) body (tS C W' b'))
    (hsu : ∀ (a : Addr) (oe : Obj) (cls : Value) (d : Option Addr) (pn : List (Addr × Obj)), Zc cls d oe → (∃ vs, oe.data = .fields vs) → PSs (X.suite a ((a, oe) :: pn)) (b₀ :: suite) (tSu C i su a cls d))
    (hs : X.stack = X.env :: X.outer := by rfl) (hf : X.env.frame = some X.env.locals := by rfl) (hi : X.N[i]? = some n := by rfl) (hln : X.env.kindOf n = some .local := by rfl) (hg : Gl X x := by rfl) (hdb : (x == ("__debug__" : Str)) = false := by decide) :
    PS X (.Try body [.ExceptHandler (some (.Name x np)) (some n) (b₀ :: suite) pos'] [] [] pos) (tS C W (sTryAs b' sub i su)) := by
  refine PS.imp (ps_try_as (i := i) (tb := fun W' => tS C W' b') (ts := tSu C i su) (Wout := W) hs hf hN hi hln ⟨hg, hdb, .inl hm⟩ tk hb hsu) fun D σ H h => ?_
  obtain ⟨ρ, M, env, rh, re, p⟩ := h
  have hiN : i < X.N.length := (List.getElem?_eq_some_iff.mp hi).1
  refine ⟨ρ, M, env, rh, re, ?_⟩
  unfold sTryAs at p
  cases e : b' env M with
  | bad => rw [e] at p; exact p
  | ok o env1 M1 => rw [e] at p; cases o <;> exact p
  | exc x env1 M1 =>
    rw [e] at p
    have p : PostS C ρ H (match sub x.cls with
      | some true => if i < env1.length then (match su x (env1.set i none) M1 with
        | .ok o env2 M2 => .ok o (env2.set i none) M2
        | _ => .bad) else .bad
      | some false => .exc x env1 M1
      | none => .bad) D W := p
    intro ρ' H' σ' cls dd ex rh' re' rx
    cases hs2 : sub x.cls with
    | none => rw [hs2] at p; exact p.elim
    | some b =>
      rw [hs2] at p
      refine ⟨b, by rw [rx.1]; exact hsub _ _ hs2, fun hb a ha => ?_, fun hb => ?_⟩
      · subst hb
        have p : PostS C ρ H (if i < env1.length then (match su x (env1.set i none) M1 with
          | .ok o env2 M2 => .ok o (env2.set i none) M2
          | _ => .bad) else .bad) D W := p
        by_cases hl : i < env1.length
        · rw [if_pos hl] at p
          exact ⟨x, ρ', M1, env1.set i none, rx, ha, rh', re'.none i _, List.getElem?_set_self (by rw [re'.len]; exact hl), PostS.setNone (p.ext ex)⟩
        · rw [if_neg hl] at p
          exact p.elim
      · subst hb
        have p : PostS C ρ H (.exc x env1 M1) D W := p
        exact p ρ' H' σ' cls dd ex rh' re' rx
/-- return isinstance(e, Z) -/
def suIs (isI : Nat → Option Bool) : MX → Fs := fun x env M => match isI x.cls with
  | some b => if x.fs.isNone then .ok (.ret (.bl b)) env M else .bad
  | none => .bad
theorem msu_is {i : Nat} {n z : Str} {ca : Addr} {isI : Nat → Option Bool} {p0 p1 p2 p3 p4 : Pos} (hz : X.mg z = some (.ref ca)) (hmi : X.mg "isinstance" = none)
    (hI : ∀ j b, isI j = some b → ExcC X.K (C.cA j) ∧ PySem.W.kitOne X.K (.ref (C.cA j)) (.ref ca) = some b)
    {a : Addr} {oe : Obj} {cls : Value} {d : Option Addr} {pn : List (Addr × Obj)} (hzc : Zc cls d oe) (hf : ∃ vs, oe.data = .fields vs)
    (hi : X.N[i]? = some n := by rfl) (hv : Vis X.env.scope n := by first | exact Or.inl rfl | exact Or.inr (Or.inl rfl)) (hg : Gl X z := by rfl) (hgi : Gl X "isinstance" := by rfl) (hd1 : (n == ("__debug__" : Str)) = false := by decide) (hd2 : (n == ("__classdict__" : Str)) = false := by decide) (hd3 : (z == ("__debug__" : Str)) = false := by decide) :
    PSs (X.suite a ((a, oe) :: pn)) [.Return (some (.Call (.Name "isinstance" p0) [.Name n p1, .Name z p2] [] p3)) p4] (tSu C i (suIs isI) a cls d) := by
  refine ⟨fun pins s σ H D I h => ?_⟩
  obtain ⟨x, ρ, M, env, rx, ha, rh, re, hσ, p⟩ := h
  unfold suIs at p
  cases hj : isI x.cls with
  | none => simp only [hj] at p; exact p.elim
  | some b =>
    simp only [hj] at p
    obtain ⟨E1, E2⟩ := hI _ _ hj
    cases hx : x.fs with
    | some fs => rw [hx] at p; exact p.elim
    | none =>
      rw [hx] at p
      have p : PostS C ρ H (.ok (.ret (.bl b)) env M) D W0 := p
      obtain ⟨rc, rd⟩ := rx
      have hd : d = none := by
        cases d with
        | none => rfl
        | some a' => rw [hx] at rd; exact rd.elim
      subst hd
      subst rc
      have pe : PSs (X.suite a ((a, oe) :: pn)) [.Return (some (.Call (.Name "isinstance" p0) [.Name n p1, .Name z p2] [] p3)) p4] _ :=
        pss_one (ps_ret (pe_callB (X := X.suite a ((a, oe) :: pn)) (call_isE (X := X) (a := a) E1 hzc hf) hgi hmi (by decide +kernel) (pa_cons (pe_var (i := i) hi hv hd1 hd2) (pa_cons (pe_glob (v := .ref ca) hg hz rfl hd3) pa_nil))))
      refine pe.run pins s σ H D I ?_
      exact ⟨.ref a, hσ, .ref ca, .ref ca, b, rfl, fun u hu => hu, E2, p.ret rh (by unfold RV; rfl)⟩
end
end Mi
set_option maxRecDepth 100000
/-! Operations on values. -/
namespace Mi
open PySem PySem.Spec PyProof.Rows L2
section
variable {K : PySem.W.Frag} {H : Hp} {ρ : List Addr} {v : V}
theorem rv_non : RV K H ρ .non v ↔ v = .non := by unfold RV; exact Iff.rfl
theorem rv_bl {b : Bool} : RV K H ρ (.bl b) v ↔ v = .bl b := by unfold RV; exact Iff.rfl
theorem rv_int {i : Int} : RV K H ρ (.int i) v ↔ v = .int i := by unfold RV; exact Iff.rfl
theorem rv_str {s : Tx} : RV K H ρ (.str s) v ↔ v = .str (T s) := by unfold RV; exact Iff.rfl
theorem rv_tup {l : List MV} : RV K H ρ (.tup l) v ↔ ∃ a xs, v = .ref a ∧ SqT K H a xs ∧ RVs K H ρ l xs := by
  constructor
  · intro h; unfold RV at h; exact h
  · intro h; unfold RV; exact h
theorem rv_ref {i : Nat} : RV K H ρ (.ref i) v ↔ ∃ a, ρ[i]? = some a ∧ v = .ref a := by unfold RV; exact Iff.rfl
theorem rv_rol {l : List MV} : RV K H ρ (.rol l) v ↔ ∃ a xs, v = .ref a ∧ FzL K H a xs ∧ RVs K H ρ l xs := by
  constructor
  · intro h; unfold RV at h; exact h
  · intro h; unfold RV; exact h
theorem rvs_nil {vs : List V} : RVs K H ρ [] vs ↔ vs = [] := by unfold RVs; exact Iff.rfl
theorem rvs_cons {d : MV} {ds : List MV} {vs : List V} : RVs K H ρ (d :: ds) vs ↔ ∃ v r, vs = v :: r ∧ RV K H ρ d v ∧ RVs K H ρ ds r := by
  constructor
  · intro h; unfold RVs at h; exact h
  · intro h; unfold RVs; exact h
end
section
variable {C : Cfg} {ρ : List Addr} {H : Hp} {M : Hm} {Q : VK} {G : MX → Hm → List Addr → Hp → Prop}
/-- what follows a value: F of Post -/
abbrev Fv (C : Cfg) (Q : VK) : MV → Hm → List Addr → Hp → Prop := fun z _ ρ' H' => ∀ v, RV C.K H' ρ' z v → Q v H'
theorem Post.val {d : MV} {v : V} (p : Post C ρ H (.ok d M) (Fv C Q) G) (h : RH C ρ H M) (r : RV C.K H ρ d v) : Q v H := p.now h v r
theorem Post.newL {l : List MV} {xs : List V} (p : Post C ρ H (.ok (.ref M.length) (M ++ [.lst l])) (Fv C Q) G) (h : RH C ρ H M) (r : RVs C.K H ρ l xs) {a : Addr} (ha : H a = none) : Q (.ref a) (upd H a (.lst xs)) := by
  have e : Ext C.K ρ (ρ ++ [a]) H (upd H a (.lst xs)) := Ext.new1 (C := C) ha
  refine p _ _ e (h.push ha ⟨xs, upd_same, r.mono e⟩) (.ref a) (rv_ref.mpr ⟨a, ?_, rfl⟩)
  rw [← h.len, List.getElem?_append_right (Nat.le_refl _), Nat.sub_self]
  rfl
theorem Post.newT {l : List MV} {xs : List V} (p : Post C ρ H (.ok (.tup l) M) (Fv C Q) G) (h : RH C ρ H M) (r : RVs C.K H ρ l xs) {a : Addr} (ha : H a = none) : Q (.ref a) (upd H a (.tup xs)) := by
  have e : Ext C.K ρ ρ H (upd H a (.tup xs)) := Ext.new (C := C) ha
  exact p _ _ e (h.beside ha) (.ref a) (rv_tup.mpr ⟨a, xs, rfl, SqT.of upd_same, r.mono e⟩)
theorem Post.setL {d : MV} {v : V} {i : Nat} {a : Addr} {l : List MV} {xs : List V} (p : Post C ρ H (.ok d (M.set i (.lst l))) (Fv C Q) G) (h : RH C ρ H M) (ha : ρ[i]? = some a) (r : RVs C.K H ρ l xs) (rd : RV C.K H ρ d v) : Q v (upd H a (.lst xs)) := by
  obtain ⟨o, hm, ro⟩ := h.there ha
  obtain ⟨u, hu, mu⟩ := ro.mut
  have e : Ext C.K ρ ρ H (upd H a (.lst xs)) := Ext.wr (C := C) hu mu (List.mem_of_getElem? ha)
  exact p _ _ e (h.set ha ⟨xs, upd_same, r.mono e⟩) v (rd.mono e)
end

/-! ### + - * // % ** -/
def fAdd : MV → MV → Hm → R MV
  | .int i, .int j, M => .ok (.int (i + j)) M
  | .str s, .str t, M => if s.length + t.length ≤ SL then .ok (.str (s ++ t)) M else .bad
  | .tup s, .tup t, M => if s.length + t.length ≤ SL then .ok (.tup (s ++ t)) M else .bad
  | .ref i, .ref j, M => match M[i]?, M[j]? with
    | some (.lst s), some (.lst t) => if s.length + t.length ≤ SL then .ok (.ref M.length) (M ++ [.lst (s ++ t)]) else .bad
    | _, _ => .bad
  | _, _, _ => .bad
def rAddM (K : PySem.W.Frag) : R2 := fun x y H Q => (∃ i j, x = .int i ∧ y = .int j ∧ Q (.int (i + j)) H) ∨ (∃ i j, x = .str i ∧ y = .str j ∧ i.length + j.length ≤ sizeLine ∧ Q (.str (i ++ j)) H) ∨ rCatA K x y H Q ∨ rCat x y H Q
theorem op_addM {X : Cx} : OpR X (binaryOp .Add) (rAddM X.K) := op_add.or (op_add_str.or (op_catA.or op_cat))
theorem sim_add {C : Cfg} : Sim2 C fAdd (rAddM C.K) := by
  intro ρ H M d e x y Q G rh rx ry p
  unfold fAdd at p
  split at p
  · rw [rv_int] at rx ry; subst rx; subst ry
    exact .inl ⟨_, _, rfl, rfl, p.val rh (rv_int.mpr rfl)⟩
  · rw [rv_str] at rx ry; subst rx; subst ry
    split at p
    · rename_i s t hl
      refine .inr (.inl ⟨_, _, rfl, rfl, by rw [T_len, T_len, sizeLine_eq]; exact hl, ?_⟩)
      rw [T_app]
      exact p.val rh (rv_str.mpr rfl)
    · exact p.elim
  · rename_i s t
    rw [rv_tup] at rx ry
    obtain ⟨a, xs, rfl, h1, h2⟩ := rx
    obtain ⟨b, ys, rfl, h3, h4⟩ := ry
    split at p
    · rename_i hl
      refine .inr (.inr (.inl ⟨a, b, xs, ys, rfl, rfl, h1, h3, by rw [h2.len, h4.len, sizeLine_eq]; exact hl, fun e => ?_, fun e1 e2 => ?_, fun e1 e2 q hq => ?_⟩))
      · subst e
        have : s = [] := by cases s with | nil => rfl | cons _ _ => have := h2.len; simp at this
        subst this
        exact p.val rh (rv_tup.mpr ⟨b, ys, rfl, h3, h4⟩)
      · subst e2
        have : t = [] := by cases t with | nil => rfl | cons _ _ => have := h4.len; simp at this
        subst this
        rw [List.append_nil] at p
        exact p.val rh (rv_tup.mpr ⟨a, xs, rfl, h1, h2⟩)
      · exact p.newT rh (h2.app h4) hq
    · exact p.elim
  · rename_i i j
    rw [rv_ref] at rx ry
    obtain ⟨a, ha, rfl⟩ := rx
    obtain ⟨b, hb, rfl⟩ := ry
    split at p
    · rename_i s t h1 h2
      obtain ⟨xs, q1, q2⟩ := rh.at h1 ha
      obtain ⟨ys, q3, q4⟩ := rh.at h2 hb
      split at p
      · rename_i hl
        exact .inr (.inr (.inr ⟨a, b, xs, ys, rfl, rfl, q1, q3, by rw [q2.len, q4.len, sizeLine_eq]; exact hl, fun q hq => p.newL rh (q2.app q4) hq⟩))
      · exact p.elim
    · exact p.elim
  · exact p.elim
def fInt2 (g : Int → Int → Int) : MV → MV → Hm → R MV
  | .int i, .int j, M => .ok (.int (g i j)) M
  | _, _, _ => .bad
def fInt2C (c : Int → Int → Bool) (g : Int → Int → Int) : MV → MV → Hm → R MV
  | .int i, .int j, M => if c i j then .ok (.int (g i j)) M else .bad
  | _, _, _ => .bad
theorem sim_int2 {C : Cfg} {g : Int → Int → Int} : Sim2 C (fInt2 g) (rI0 fun i j => .int (g i j)) := by
  intro ρ H M d e x y Q G rh rx ry p
  unfold fInt2 at p
  split at p
  · rw [rv_int] at rx ry; subst rx; subst ry
    exact ⟨_, _, rfl, rfl, p.val rh (rv_int.mpr rfl)⟩
  · exact p.elim
theorem sim_int2C {C : Cfg} {c : Int → Int → Bool} {Cc : Int → Int → Prop} {g : Int → Int → Int} (hc : ∀ i j, c i j = true → Cc i j) : Sim2 C (fInt2C c g) (rI Cc fun i j => .int (g i j)) := by
  intro ρ H M d e x y Q G rh rx ry p
  unfold fInt2C at p
  split at p
  · rw [rv_int] at rx ry; subst rx; subst ry
    split at p
    · rename_i i j h
      exact ⟨_, _, rfl, rfl, hc _ _ h, p.val rh (rv_int.mpr rfl)⟩
    · exact p.elim
  · exact p.elim
abbrev fSub := fInt2 fun i j => i - j
/-- factors of together less than a million bits, or one of them below 2^64 -/
def cMul (i j : Int) : Bool := decide (i.natAbs.log2 + j.natAbs.log2 < 1000000) || decide (i.natAbs < 18446744073709551616) || decide (j.natAbs < 18446744073709551616)
def fMul : MV → MV → Hm → R MV := fInt2C cMul fun i j => i * j
def rMulM : R2 := fun x y H Q => rI CMulW (fun i j => .int (i * j)) x y H Q ∨ rI CMul (fun i j => .int (i * j)) x y H Q
theorem op_mulM {X : Cx} : OpR X (binaryOp .Mult) rMulM := fun pins s σ H x y v u Q I rx ry h => by
  rcases h with h | h
  · exact op_mulW pins s σ H x y v u Q I rx ry h
  · exact op_mul pins s σ H x y v u Q I rx ry h
theorem sim_mul {C : Cfg} : Sim2 C fMul rMulM := fun ρ H M d e x y Q G rh rx ry p => by
  by_cases hw : ∃ i j : Int, d = .int i ∧ e = .int j ∧ i.natAbs.log2 + j.natAbs.log2 < 1000000
  · obtain ⟨i, j, rfl, rfl, hw⟩ := hw
    rw [rv_int] at rx ry; subst rx; subst ry
    have : cMul i j = true := by
      unfold cMul
      rw [decide_eq_true hw]
      rfl
    unfold fMul fInt2C at p
    simp only [this, if_true] at p
    exact .inl ⟨_, _, rfl, rfl, hw, p.val rh (rv_int.mpr rfl)⟩
  · unfold fMul fInt2C at p
    split at p
    · rw [rv_int] at rx ry; subst rx; subst ry
      split at p
      · rename_i i j h
        unfold cMul at h
        simp only [Bool.or_eq_true, decide_eq_true_eq] at h
        refine .inr ⟨_, _, rfl, rfl, ?_, p.val rh (rv_int.mpr rfl)⟩
        rcases h with (h | h) | h
        · exact absurd ⟨i, j, rfl, rfl, h⟩ hw
        · exact .inl ⟨by omega, by omega⟩
        · exact .inr ⟨by omega, by omega⟩
      · exact p.elim
    · exact p.elim
def cDiv (_ j : Int) : Bool := decide (0 < j) && decide (j.natAbs.log2 < 9000)
def fDiv : MV → MV → Hm → R MV := fInt2C cDiv fun i j => i / j
theorem sim_div {C : Cfg} : Sim2 C fDiv (rI CDivW fun i j => .int (i / j)) := sim_int2C fun i j h => by
  unfold cDiv at h
  rw [Bool.and_eq_true, decide_eq_true_eq, decide_eq_true_eq] at h
  exact h
def cMod (_ j : Int) : Bool := decide (0 < j)
def fMod : MV → MV → Hm → R MV := fInt2C cMod fun i j => i % j
theorem sim_mod {C : Cfg} : Sim2 C fMod (rI (fun _ j => 0 < j) fun i j => .int (i % j)) := sim_int2C fun i j h => of_decide_eq_true h
def cPow (i j : Int) : Bool := decide (0 ≤ j) && decide (j ≤ 1000) && decide (i.natAbs < 1000)
def fPow : MV → MV → Hm → R MV := fInt2C cPow fun i j => i ^ j.toNat
theorem sim_pow {C : Cfg} : Sim2 C fPow (rI CPow fun i j => .int (i ^ j.toNat)) := sim_int2C fun i j h => by
  unfold cPow at h
  simp only [Bool.and_eq_true, decide_eq_true_eq] at h
  exact ⟨h.1.1, by omega, by omega⟩
def fNeg : MV → Hm → R MV
  | .int i, M => .ok (.int (-i)) M
  | _, _ => .bad
theorem sim_neg {C : Cfg} : Sim1 C fNeg (rU fun i => .int (-i)) := by
  intro ρ H M d x Q G rh rx p
  unfold fNeg at p
  split at p
  · rw [rv_int] at rx; subst rx
    exact ⟨_, rfl, p.val rh (rv_int.mpr rfl)⟩
  · exact p.elim

/-! ### comparisons -/
def txLt (a b : Tx) : Bool := decide (a < b)
def fCmp (g : Int → Int → Bool) (h : Tx → Tx → Bool) : MV → MV → Hm → R MV
  | .int i, .int j, M => .ok (.bl (g i j)) M
  | .str s, .str t, M => .ok (.bl (h s t)) M
  | _, _, _ => .bad
def rCmp (g : Int → Int → Bool) (h : Str → Str → Bool) : R2 := fun x y H Q => (∃ i j, x = .int i ∧ y = .int j ∧ Q (.bl (g i j)) H) ∨ ∃ i j, x = .str i ∧ y = .str j ∧ Q (.bl (h i j)) H
theorem sim_cmp {C : Cfg} {g : Int → Int → Bool} {h : Tx → Tx → Bool} {h' : Str → Str → Bool} (hh : ∀ a b, h' (T a) (T b) = h a b) : Sim2 C (fCmp g h) (rCmp g h') := by
  intro ρ H M d e x y Q G rh rx ry p
  unfold fCmp at p
  split at p
  · rw [rv_int] at rx ry; subst rx; subst ry
    exact .inl ⟨_, _, rfl, rfl, p.val rh (rv_bl.mpr rfl)⟩
  · rw [rv_str] at rx ry; subst rx; subst ry
    refine .inr ⟨_, _, rfl, rfl, ?_⟩
    rw [hh]
    exact p.val rh (rv_bl.mpr rfl)
  · exact p.elim
def fLt := fCmp (fun i j => decide (i < j)) fun a b => decide (a < b)
def fLe := fCmp (fun i j => decide (i ≤ j)) fun a b => !decide (b < a)
def fGt := fCmp (fun i j => decide (j < i)) fun a b => decide (b < a)
def fGe := fCmp (fun i j => decide (j ≤ i)) fun a b => !decide (a < b)
section
variable {X : Cx} {C : Cfg}
theorem op_ltM : OpR X (compareOp .Lt) (rCmp (fun i j => decide (i < j)) fun a b => decide (a.cps.toList < b.cps.toList)) := op_lt.or op_lt_str
theorem op_leM : OpR X (compareOp .LtE) (rCmp (fun i j => decide (i ≤ j)) fun a b => !decide (b.cps.toList < a.cps.toList)) := op_le.or op_le_str
theorem op_gtM : OpR X (compareOp .Gt) (rCmp (fun i j => decide (j < i)) fun a b => decide (b.cps.toList < a.cps.toList)) := op_gt.or op_gt_str
theorem op_geM : OpR X (compareOp .GtE) (rCmp (fun i j => decide (j ≤ i)) fun a b => !decide (a.cps.toList < b.cps.toList)) := op_ge.or op_ge_str
theorem sim_lt : Sim2 C fLt (rCmp (fun i j => decide (i < j)) fun a b => decide (a.cps.toList < b.cps.toList)) := sim_cmp fun a b => by rw [T_list, T_list]
theorem sim_le : Sim2 C fLe (rCmp (fun i j => decide (i ≤ j)) fun a b => !decide (b.cps.toList < a.cps.toList)) := sim_cmp fun a b => by rw [T_list, T_list]
theorem sim_gt : Sim2 C fGt (rCmp (fun i j => decide (j < i)) fun a b => decide (b.cps.toList < a.cps.toList)) := sim_cmp fun a b => by rw [T_list, T_list]
theorem sim_ge : Sim2 C fGe (rCmp (fun i j => decide (j ≤ i)) fun a b => !decide (a.cps.toList < b.cps.toList)) := sim_cmp fun a b => by rw [T_list, T_list]
end
/-- a value as data -/
def pyD : Nat → Hm → MV → Option PyData
  | 0, _, _ => none
  | n + 1, M, d => match d with
    | .non => some .none
    | .bl b => some (.bool b)
    | .int i => some (.int i)
    | .str s => some (.str (T s))
    | .tup l => (l.mapM (pyD n M)).map .tuple
    | .rol l => (l.mapM (pyD n M)).map .list
    | .ref i => match M[i]? with
      | some (.lst l) => (l.mapM (pyD n M)).map .list
      | _ => none
theorem dp_of {C : Cfg} {ρ : List Addr} {H : Hp} {M : Hm} (rh : RH C ρ H M) : ∀ (n : Nat) (d : MV) (v : V) (x : PyData), RV C.K H ρ d v → pyD n M d = some x → Dp C.K H v x := by
  intro n
  induction n with
  | zero => intro d v x _ e; cases e
  | succ n ih =>
    have all : ∀ (l : List MV) (vs : List V) (xs : List PyData), RVs C.K H ρ l vs → l.mapM (pyD n M) = some xs → DpAll C.K H vs xs := by
      intro l
      induction l with
      | nil =>
        intro vs xs r e
        rw [rvs_nil] at r
        subst r
        rw [List.mapM_nil] at e
        cases e
        exact .nil
      | cons d l ihl =>
        intro vs xs r e
        rw [rvs_cons] at r
        obtain ⟨v, r', rfl, r1, r2⟩ := r
        rw [List.mapM_cons] at e
        cases h1 : pyD n M d with
        | none => rw [h1] at e; cases e
        | some x =>
          cases h2 : l.mapM (pyD n M) with
          | none => rw [h1, h2] at e; cases e
          | some xs' =>
            rw [h1, h2] at e
            cases e
            exact .cons (ih d v x r1 h1) (ihl r' xs' r2 h2)
    intro d v x r e
    cases d with
    | non => rw [rv_non] at r; subst r; cases e; exact .non
    | bl b => rw [rv_bl] at r; subst r; cases e; exact .bl b
    | int i => rw [rv_int] at r; subst r; cases e; exact .int i
    | str s => rw [rv_str] at r; subst r; cases e; exact .str _
    | tup l =>
      rw [rv_tup] at r
      obtain ⟨a, xs, rfl, h1, h2⟩ := r
      have e : (l.mapM (pyD n M)).map PyData.tuple = some x := e
      cases h : l.mapM (pyD n M) with
      | none => rw [h] at e; cases e
      | some ys => rw [h] at e; cases e; exact .tup h1 (all l xs ys h2 h)
    | rol l =>
      rw [rv_rol] at r
      obtain ⟨a, xs, rfl, h1, h2⟩ := r
      have e : (l.mapM (pyD n M)).map PyData.list = some x := e
      cases h : l.mapM (pyD n M) with
      | none => rw [h] at e; cases e
      | some ys => rw [h] at e; cases e; exact .lst h1.sq (all l xs ys h2 h)
    | ref i =>
      rw [rv_ref] at r
      obtain ⟨a, ha, rfl⟩ := r
      cases hm : M[i]? with
      | none => simp only [pyD, hm] at e; cases e
      | some o =>
        cases o with
        | lst l =>
          simp only [pyD, hm] at e
          obtain ⟨xs, q1, q2⟩ := rh.at hm ha
          cases h : l.mapM (pyD n M) with
          | none => rw [h] at e; cases e
          | some ys => rw [h] at e; cases e; exact .lst (SqL.of q1) (all l xs ys q2 h)
        | dic l => simp only [pyD, hm] at e; cases e
        | ins c fs => simp only [pyD, hm] at e; cases e
def eqD (M : Hm) (d e : MV) : Option Bool := match pyD 60 M d, pyD 60 M e with
  | some x, some y => if SeqAt.shaped x && SeqAt.shaped y then some (PyData.eqv x y) else none
  | _, _ => none
/-- == of values -/
def eqM (M : Hm) : MV → MV → Option Bool
  | .int i, .int j => some (decide (i = j))
  | .str s, .str t => some (decide (s = t))
  | .bl s, .bl t => some (decide (s = t))
  | .int _, .str _ => some false
  | .str _, .int _ => some false
  | .non, .non => some true
  | d, e => eqD M d e
def fEqG (g : Bool → Bool) : MV → MV → Hm → R MV := fun d e M => match eqM M d e with
  | some b => .ok (.bl (g b)) M
  | none => .bad
abbrev fEq := fEqG id
abbrev fNe := fEqG not
theorem eq_dp {C : Cfg} {ρ : List Addr} {H : Hp} {M : Hm} (rh : RH C ρ H M) {d e : MV} {x y : V} {b : Bool} (rx : RV C.K H ρ d x) (ry : RV C.K H ρ e y) (h : eqM M d e = some b) :
    (scal x y = true ∧ b = decide (x = y)) ∨ ∃ p q, Dp C.K H x p ∧ Dp C.K H y q ∧ SeqAt.shaped p = true ∧ SeqAt.shaped q = true ∧ b = PyData.eqv p q := by
  unfold eqM at h
  split at h
  · rw [rv_int] at rx ry; subst rx; subst ry
    cases h
    exact .inl ⟨rfl, by rw [dec_int, Bool.beq_eq_decide_eq]⟩
  · rw [rv_str] at rx ry; subst rx; subst ry
    cases h
    refine .inl ⟨rfl, ?_⟩
    rw [dec_str, Bool.beq_eq_decide_eq]
    exact decide_eq_decide.mpr ⟨fun e => by rw [e], fun e => T_inj e⟩
  · rw [rv_bl] at rx ry; subst rx; subst ry
    cases h
    exact .inl ⟨rfl, by rw [dec_bl, Bool.beq_eq_decide_eq]⟩
  · rw [rv_int] at rx; rw [rv_str] at ry; subst rx; subst ry
    cases h
    exact .inl ⟨rfl, by simp⟩
  · rw [rv_str] at rx; rw [rv_int] at ry; subst rx; subst ry
    cases h
    exact .inl ⟨rfl, by simp⟩
  · rw [rv_non] at rx ry; subst rx; subst ry
    cases h
    exact .inl ⟨rfl, by simp⟩
  · unfold eqD at h
    split at h
    · rename_i p q h1 h2
      split at h
      · rename_i hs
        rw [Bool.and_eq_true] at hs
        cases h
        exact .inr ⟨p, q, dp_of rh _ _ _ _ rx h1, dp_of rh _ _ _ _ ry h2, hs.1, hs.2, rfl⟩
      · cases h
    · cases h
section
variable {X : Cx} {C : Cfg}
theorem op_eqM (hu : X.A.units + 64 < cLine) : OpR X (compareOp .Eq) (fun x y H Q => rEq x y H Q ∨ rEqD X.K x y H Q) := op_eq.or (op_eqD hu)
theorem op_neM (hu : X.A.units + 64 < cLine) : OpR X (compareOp .NotEq) (fun x y H Q => rNe x y H Q ∨ rNeD X.K x y H Q) := op_ne.or (op_neD hu)
theorem sim_eq : Sim2 C fEq (fun x y H Q => rEq x y H Q ∨ rEqD C.K x y H Q) := by
  intro ρ H M d e x y Q G rh rx ry p
  unfold fEq fEqG at p
  split at p
  · rename_i b h
    rcases eq_dp rh rx ry h with ⟨h1, h2⟩ | ⟨q, r, h1, h2, h3, h4, h5⟩
    · exact .inl ⟨h1, by rw [← h2]; exact p.val rh (rv_bl.mpr rfl)⟩
    · exact .inr ⟨q, r, h1, h2, h3, h4, by rw [← h5]; exact p.val rh (rv_bl.mpr rfl)⟩
  · exact p.elim
theorem sim_ne : Sim2 C fNe (fun x y H Q => rNe x y H Q ∨ rNeD C.K x y H Q) := by
  intro ρ H M d e x y Q G rh rx ry p
  unfold fNe fEqG at p
  split at p
  · rename_i b h
    rcases eq_dp rh rx ry h with ⟨h1, h2⟩ | ⟨q, r, h1, h2, h3, h4, h5⟩
    · exact .inl ⟨h1, by rw [← h2]; exact p.val rh (rv_bl.mpr rfl)⟩
    · exact .inr ⟨q, r, h1, h2, h3, h4, by rw [← h5]; exact p.val rh (rv_bl.mpr rfl)⟩
  · exact p.elim
end
end Mi
set_option maxRecDepth 100000
/-! Further operations: in, items, slices, built-ins, methods, what is walked. -/
namespace Mi
open PySem PySem.Spec PyProof.Rows L2
theorem T_one (c : Nat) : T [c] = ⟨#[c]⟩ := rfl
/-! ### in -/
def flatM : MV → Bool
  | .non => true | .bl _ => true | .int _ => true | .str _ => true
  | _ => false
/-- == of flat values -/
def eqF : MV → MV → Bool
  | .non, .non => true
  | .bl a, .bl b => a == b
  | .int a, .int b => a == b
  | .bl a, .int b => (if a then 1 else 0) == b
  | .int a, .bl b => a == (if b then 1 else 0)
  | .str a, .str b => decide (a = b)
  | _, _ => false
def inM (M : Hm) (x : MV) : MV → Option Bool
  | .str t => match x with
    | .str [c] => some (decide (c ∈ t))
    | _ => none
  | .tup l => if flatM x && l.all flatM then some (l.any fun y => eqF y x) else none
  | .ref i => match M[i]? with
    | some (.lst l) => if flatM x && l.all flatM then some (l.any fun y => eqF y x) else none
    | _ => none
  | .rol l => if flatM x && l.all flatM then some (l.any fun y => eqF y x) else none
  | _ => none
def fInG (g : Bool → Bool) : MV → MV → Hm → R MV := fun x y M => match inM M x y with
  | some b => .ok (.bl (g b)) M
  | none => .bad
abbrev fIn := fInG id
abbrev fNotIn := fInG not
theorem flat_of {K : PySem.W.Frag} {H : Hp} {ρ : List Addr} {d : MV} {v : V} (r : RV K H ρ d v) (h : flatM d = true) : flatV v = true := by
  cases d with
  | non => rw [rv_non] at r; subst r; rfl
  | bl b => rw [rv_bl] at r; subst r; rfl
  | int i => rw [rv_int] at r; subst r; rfl
  | str s => rw [rv_str] at r; subst r; rfl
  | _ => cases h
theorem eqF_of {K : PySem.W.Frag} {H : Hp} {ρ : List Addr} {d e : MV} {v w : V} (r : RV K H ρ d v) (r' : RV K H ρ e w) (h : flatM d = true) (h' : flatM e = true) : eqV v w = eqF d e := by
  cases d with
  | non =>
    rw [rv_non] at r; subst r
    cases e with
    | non => rw [rv_non] at r'; subst r'; rfl
    | bl b => rw [rv_bl] at r'; subst r'; rfl
    | int i => rw [rv_int] at r'; subst r'; rfl
    | str s => rw [rv_str] at r'; subst r'; rfl
    | _ => cases h'
  | bl b =>
    rw [rv_bl] at r; subst r
    cases e with
    | non => rw [rv_non] at r'; subst r'; rfl
    | bl b => rw [rv_bl] at r'; subst r'; rfl
    | int i => rw [rv_int] at r'; subst r'; rfl
    | str s => rw [rv_str] at r'; subst r'; rfl
    | _ => cases h'
  | int i =>
    rw [rv_int] at r; subst r
    cases e with
    | non => rw [rv_non] at r'; subst r'; rfl
    | bl b => rw [rv_bl] at r'; subst r'; rfl
    | int i => rw [rv_int] at r'; subst r'; rfl
    | str s => rw [rv_str] at r'; subst r'; rfl
    | _ => cases h'
  | str s =>
    rw [rv_str] at r; subst r
    cases e with
    | non => rw [rv_non] at r'; subst r'; rfl
    | bl b => rw [rv_bl] at r'; subst r'; rfl
    | int i => rw [rv_int] at r'; subst r'; rfl
    | str t =>
      rw [rv_str] at r'; subst r'
      show (T s == T t) = decide (s = t)
      rw [Bool.beq_eq_decide_eq]
      exact decide_eq_decide.mpr ⟨fun e => T_inj e, fun e => by rw [e]⟩
    | _ => cases h'
  | _ => cases h
theorem flats_of {K : PySem.W.Frag} {H : Hp} {ρ : List Addr} : ∀ {ds : List MV} {vs : List V}, RVs K H ρ ds vs → ds.all flatM = true → vs.all flatV = true
  | [], _, r, _ => by rw [rvs_nil] at r; subst r; rfl
  | d :: ds, _, r, h => by
    rw [rvs_cons] at r
    obtain ⟨v, t, rfl, r1, r2⟩ := r
    rw [List.all_cons, Bool.and_eq_true] at h
    rw [List.all_cons, flat_of r1 h.1, flats_of r2 h.2]
    rfl
theorem inV_of {K : PySem.W.Frag} {H : Hp} {ρ : List Addr} {x : MV} {v : V} (rx : RV K H ρ x v) (hx : flatM x = true) : ∀ {ds : List MV} {vs : List V}, RVs K H ρ ds vs → ds.all flatM = true → inV v vs = ds.any fun y => eqF y x
  | [], _, r, _ => by rw [rvs_nil] at r; subst r; rfl
  | d :: ds, _, r, h => by
    rw [rvs_cons] at r
    obtain ⟨w, t, rfl, r1, r2⟩ := r
    rw [List.all_cons, Bool.and_eq_true] at h
    show ((w :: t).any fun y => eqV y v) = _
    rw [List.any_cons, List.any_cons, eqF_of r1 rx h.1 hx]
    have := inV_of rx hx r2 h.2
    unfold inV at this
    rw [this]
def rInM (K : PySem.W.Frag) (neg : Bool) : R2 := fun x y H Q => (∃ (c : Nat) (z : Str), x = .str ⟨#[c]⟩ ∧ y = .str z ∧ Q (.bl (if neg then !decide (c ∈ z.cps.toList) else decide (c ∈ z.cps.toList))) H) ∨ rIn K neg x y H Q
theorem op_inM {X : Cx} : OpR X (compareOp .In) (rInM X.K false) := (show OpR X (compareOp .In) (fun x y H Q => ∃ (c : Nat) (z : Str), x = .str ⟨#[c]⟩ ∧ y = .str z ∧ Q (.bl (decide (c ∈ z.cps.toList))) H) from op_in_sign).or op_in_seq
theorem op_notInM {X : Cx} : OpR X (compareOp .NotIn) (rInM X.K true) := (show OpR X (compareOp .NotIn) (fun x y H Q => ∃ (c : Nat) (z : Str), x = .str ⟨#[c]⟩ ∧ y = .str z ∧ Q (.bl (!decide (c ∈ z.cps.toList))) H) from op_notIn_sign).or op_notIn_seq
theorem sim_inG {C : Cfg} (neg : Bool) : Sim2 C (fInG (if neg then not else id)) (rInM C.K neg) := by
  intro ρ H M d e x y Q G rh rx ry p
  unfold fInG at p
  split at p
  · rename_i b hb
    have fin : ∀ {l : List MV} {xs : List V} {a : Addr}, y = .ref a → (SqL C.K H a xs ∨ SqT C.K H a xs) → RVs C.K H ρ l xs → (if flatM d && l.all flatM then some (l.any fun y => eqF y d) else none) = some b → rIn C.K neg x y H Q := fun {l xs a} hy hs hr h => by
      split at h
      · rename_i hf
        rw [Bool.and_eq_true] at hf
        cases h
        refine ⟨a, xs, hy, hs, flat_of rx hf.1, flats_of hr hf.2, ?_⟩
        rw [inV_of rx hf.1 hr hf.2]
        have q := p.val rh (rv_bl.mpr rfl)
        cases neg <;> exact q
      · cases h
    cases e with
    | str t =>
      rw [rv_str] at ry; subst ry
      unfold inM at hb
      cases d with
      | str s =>
        rw [rv_str] at rx; subst rx
        cases s with
        | nil => cases hb
        | cons c r =>
          cases r with
          | nil =>
            have hb : some (decide (c ∈ t)) = some b := hb
            cases hb
            refine .inl ⟨c, T t, rfl, rfl, ?_⟩
            rw [T_list]
            have q := p.val rh (rv_bl.mpr rfl)
            cases neg <;> exact q
          | cons _ _ => cases hb
      | _ => cases hb
    | tup l =>
      rw [rv_tup] at ry
      obtain ⟨a, xs, rfl, h1, h2⟩ := ry
      exact .inr (fin rfl (.inr h1) h2 hb)
    | rol l =>
      rw [rv_rol] at ry
      obtain ⟨a, xs, rfl, h1, h2⟩ := ry
      exact .inr (fin rfl (.inl h1.sq) h2 hb)
    | ref i =>
      rw [rv_ref] at ry
      obtain ⟨a, ha, rfl⟩ := ry
      unfold inM at hb
      cases hm : M[i]? with
      | none => simp only [hm] at hb; cases hb
      | some o =>
        cases o with
        | lst l =>
          simp only [hm] at hb
          obtain ⟨xs, q1, q2⟩ := rh.at hm ha
          exact .inr (fin rfl (.inl (SqL.of q1)) q2 hb)
        | dic l => simp only [hm] at hb; cases hb
        | ins c fs => simp only [hm] at hb; cases hb
    | _ => cases hb
  · exact p.elim
theorem sim_in {C : Cfg} : Sim2 C fIn (rInM C.K false) := sim_inG false
theorem sim_notIn {C : Cfg} : Sim2 C fNotIn (rInM C.K true) := sim_inG true

/-! ### items -/
theorem atI_rel {K : PySem.W.Frag} {H : Hp} {ρ : List Addr} {ds : List MV} {vs : List V} {i : Int} {d : MV} (r : RVs K H ρ ds vs) (h : atI ds i = some d) : ∃ v, atI vs i = some v ∧ RV K H ρ d v := by
  unfold atI at h ⊢
  rw [r.len]
  cases hj : ixN ds.length i with
  | none => rw [hj] at h; cases h
  | some j =>
    rw [hj] at h
    exact r.get h
def fIx : MV → MV → Hm → R MV
  | .tup l, .int i, M => match atI l i with
    | some d => .ok d M
    | none => .bad
  | .str s, .int i, M => if s.length ≤ SL then (match atI s i with
    | some c => .ok (.str [c]) M
    | none => .bad) else .bad
  | .ref k, .int i, M => match M[k]? with
    | some (.lst l) => (match atI l i with
      | some d => .ok d M
      | none => .bad)
    | _ => .bad
  | .rol l, .int i, M => match atI l i with
    | some d => .ok d M
    | none => .bad
  | _, _, _ => .bad
theorem sim_ix {C : Cfg} : Sim2 C fIx (rIx C.K) := by
  intro ρ H M d e x y Q G rh rx ry p
  unfold fIx at p
  split at p
  · rw [rv_tup] at rx; rw [rv_int] at ry; subst ry
    obtain ⟨a, xs, rfl, h1, h2⟩ := rx
    split at p
    · rename_i d' hd
      obtain ⟨v, e1, r⟩ := atI_rel h2 hd
      exact .inr (.inl ⟨a, xs, _, v, rfl, rfl, h1, e1, p.val rh r⟩)
    · exact p.elim
  · rw [rv_str] at rx; rw [rv_int] at ry; subst rx; subst ry
    split at p
    · rename_i hl
      split at p
      · rename_i c hc
        exact .inr (.inr ⟨_, _, c, rfl, rfl, by rw [T_len, sizeLine_eq]; exact hl, by rw [T_list]; exact hc, p.val rh (rv_str.mpr rfl)⟩)
      · exact p.elim
    · exact p.elim
  · rw [rv_ref] at rx; rw [rv_int] at ry; subst ry
    obtain ⟨a, ha, rfl⟩ := rx
    split at p
    · rename_i l hm
      obtain ⟨xs, q1, q2⟩ := rh.at hm ha
      split at p
      · rename_i d' hd
        obtain ⟨v, e1, r⟩ := atI_rel q2 hd
        exact .inl ⟨a, xs, _, v, rfl, rfl, SqL.of q1, e1, p.val rh r⟩
      · exact p.elim
    · exact p.elim
  · rw [rv_rol] at rx; rw [rv_int] at ry; subst ry
    obtain ⟨a, xs, rfl, h1, h2⟩ := rx
    split at p
    · rename_i d' hd
      obtain ⟨v, e1, r⟩ := atI_rel h2 hd
      exact .inl ⟨a, xs, _, v, rfl, rfl, h1.sq, e1, p.val rh r⟩
    · exact p.elim
  · exact p.elim
theorem m_ix {X : Cx} {C : Cfg} {W : WX} {a b : Expr} {a' b' : Fe} {pos : Pos} (hC : C.K = X.K) (ha : PE X a (tE C W a')) (hb : PE X b (tE C W b')) (hs : PlainIx b := by intro _ _; rfl) : PE X (.Subscript a b pos) (tE C W (eOp fIx a' b')) := by
  refine PE.imp (pe_ix ix_seq ha hb hs) fun σ H Q h => ?_
  obtain ⟨ρ, M, env, rh, re, p⟩ := h
  refine ⟨ρ, M, env, rh, re, p.bind.imp (fun d M1 ρ1 H1 e1 rh1 p2 v rv => ?_) (fun _ _ _ _ _ _ q => q)⟩
  exact ⟨ρ1, M1, env, rh1, re.mono e1, p2.bind.imp (fun d2 M2 ρ2 H2 e2 rh2 p3 w rw_ => by rw [← hC]; exact sim_ix ρ2 H2 M2 d d2 v w Q _ rh2 (rv.mono e2) rw_ p3) (fun _ _ _ _ _ _ q => q)⟩

/-! ### slices -/
def cut {α : Type} (xs : List α) (lo hi : Option Int) : List α := (xs.drop (HT.sIx xs.length 0 lo)).take (HT.sIx xs.length xs.length hi - HT.sIx xs.length 0 lo)
abbrev Fo := Env → Hm → R (Option Int)
def oNone : Fo := fun _ M => .ok none M
def oSome (e : Fe) : Fo := fun env M => (e env M).bind fun x M1 => match x with
  | .int i => .ok (some i) M1
  | _ => .bad
abbrev tO (C : Cfg) (W : WX) (f : Fo) : TO := tG C W (fun _ _ a b => b = a) f
def eSl (f : MV → Option Int → Option Int → Hm → R MV) (a : Fe) (lo hi : Fo) : Fe := fun env M => (a env M).bind fun x M1 => (lo env M1).bind fun l M2 => (hi env M2).bind fun u M3 => f x l u M3
def fSl : MV → Option Int → Option Int → Hm → R MV
  | .tup l, lo, hi, M => .ok (.tup (cut l lo hi)) M
  | .str s, lo, hi, M => if s.length ≤ SL then .ok (.str (cut s lo hi)) M else .bad
  | .ref k, lo, hi, M => match M[k]? with
    | some (.lst l) => .ok (.ref M.length) (M ++ [.lst (cut l lo hi)])
    | _ => .bad
  | .rol l, lo, hi, M => .ok (.ref M.length) (M ++ [.lst (cut l lo hi)])
  | _, _, _, _ => .bad
theorem cut_rel {K : PySem.W.Frag} {H : Hp} {ρ : List Addr} {ds : List MV} {vs : List V} {lo hi : Option Int} (r : RVs K H ρ ds vs) : RVs K H ρ (cut ds lo hi) (cutV vs lo hi) := by
  unfold cut cutV
  rw [r.len]
  exact (r.drop _).take _
theorem cut_str (s : Tx) (lo hi : Option Int) : cutS (T s) lo hi = T (cut s lo hi) := by
  unfold cutS cut T
  show Str.mk ((s.toArray.toList.drop (HT.sIx s.toArray.size 0 lo)).take (HT.sIx s.toArray.size s.toArray.size hi - HT.sIx s.toArray.size 0 lo)).toArray = _
  simp
section
variable {X : Cx} {C : Cfg} {W : WX}
theorem mo_none : PO X none (tO C W oNone) := ⟨fun pins s σ H Q I h => by
  obtain ⟨ρ, M, env, rh, re, p⟩ := h
  exact po_none.run pins s σ H Q I (p.now rh none rfl)⟩
theorem mo_some {e : Expr} {e' : Fe} (he : PE X e (tE C W e')) : PO X (some e) (tO C W (oSome e')) := ⟨fun pins s σ H Q I h => by
  refine (po_some he).run pins s σ H Q I ?_
  obtain ⟨ρ, M, env, rh, re, p⟩ := h
  refine ⟨ρ, M, env, rh, re, p.bind.imp (fun d M1 ρ1 H1 e1 rh1 p2 v rv => ?_) (fun _ _ _ _ _ _ q => q)⟩
  cases d with
  | int i =>
    rw [rv_int] at rv
    exact ⟨i, rv, p2.now rh1 _ rfl⟩
  | _ => exact p2.elim⟩
theorem m_slice {e : Expr} {lo hi : Option Expr} {e' : Fe} {lo' hi' : Fo} {p2 pos : Pos} (hC : C.K = X.K) (he : PE X e (tE C W e')) (hl : PO X lo (tO C W lo')) (hu : PO X hi (tO C W hi')) : PE X (.Subscript e (.Slice lo hi none p2) pos) (tE C W (eSl fSl e' lo' hi')) := by
  refine PE.imp (pe_slice ((sl_tupA (X := X)).or ((sl_str (X := X)).or (sl_list (X := X)))) he hl hu) fun σ H Q h => ?_
  obtain ⟨ρ, M, env, rh, re, p⟩ := h
  refine ⟨ρ, M, env, rh, re, p.bind.imp (fun d M1 ρ1 H1 e1 rh1 p2 x rx => ?_) (fun _ _ _ _ _ _ q => q)⟩
  refine ⟨ρ1, M1, env, rh1, re.mono e1, p2.bind.imp (fun l M2 ρ2 H2 e2 rh2 p3 l' hl' => ?_) (fun _ _ _ _ _ _ q => q)⟩
  subst hl'
  refine ⟨ρ2, M2, env, rh2, (re.mono e1).mono e2, p3.bind.imp (fun u M3 ρ3 H3 e3 rh3 p4 u' hu' => ?_) (fun _ _ _ _ _ _ q => q)⟩
  subst hu'
  have rx := (rx.mono e2).mono e3
  cases d with
  | tup ll =>
    rw [rv_tup] at rx
    obtain ⟨a, xs, rfl, h1, h2⟩ := rx
    have p4 : Post C ρ3 H3 (.ok (.tup (cut ll l' u')) M3) (Fv C Q) _ := p4
    refine .inl ⟨a, xs, rfl, by rw [← hC]; exact h1, fun hw => ?_, fun hw q hq => p4.newT rh3 (cut_rel h2) hq⟩
    have hc : cut ll l' u' = ll := by
      have e := h2.len
      unfold cut
      rw [← e, hw.1, hw.2]
      simp [e]
    rw [hc] at p4
    exact p4.val rh3 (rv_tup.mpr ⟨a, xs, rfl, h1, h2⟩)
  | str s =>
    rw [rv_str] at rx
    subst rx
    have p4 : Post C ρ3 H3 (if s.length ≤ SL then .ok (.str (cut s l' u')) M3 else .bad) (Fv C Q) _ := p4
    split at p4
    · rename_i hl
      refine .inr (.inl ⟨_, rfl, by rw [T_len, sizeLine_eq]; exact hl, ?_⟩)
      rw [cut_str]
      exact p4.val rh3 (rv_str.mpr rfl)
    · exact p4.elim
  | ref k =>
    rw [rv_ref] at rx
    obtain ⟨a, ha, rfl⟩ := rx
    have p4 : Post C ρ3 H3 (match M3[k]? with
      | some (.lst l) => .ok (.ref M3.length) (M3 ++ [.lst (cut l l' u')])
      | _ => .bad) (Fv C Q) _ := p4
    split at p4
    · rename_i l hm
      obtain ⟨xs, q1, q2⟩ := rh3.at hm ha
      exact .inr (.inr ⟨a, xs, rfl, SqL.of q1, fun q hq => p4.newL rh3 (cut_rel q2) hq⟩)
    · exact p4.elim
  | rol l =>
    rw [rv_rol] at rx
    obtain ⟨a, xs, rfl, h1, h2⟩ := rx
    have p4 : Post C ρ3 H3 (.ok (.ref M3.length) (M3 ++ [.lst (cut l l' u')])) (Fv C Q) _ := p4
    exact .inr (.inr ⟨a, xs, rfl, by rw [← hC]; exact h1.sq, fun q hq => p4.newL rh3 (cut_rel h2) hq⟩)
  | _ => exact p4.elim
/-- xs[::-1] of a list -/
def fRev : MV → Hm → R MV
  | .ref k, M => match M[k]? with
    | some (.lst l) => .ok (.ref M.length) (M ++ [.lst l.reverse])
    | _ => .bad
  | _, _ => .bad
theorem m_revL {e : Expr} {e' : Fe} {k : Nat} {p1 p2 p3 pos : Pos} (he : PE X e (tE C W e')) : PE X (.Subscript e (.Slice none none (some (.UnaryOp .USub (.Constant (.int 1) k p1) p2)) p3) pos) (tE C W (eUn fRev e')) := by
  refine PE.imp (pe_revL he) fun σ H Q h => ?_
  obtain ⟨ρ, M, env, rh, re, p⟩ := h
  refine ⟨ρ, M, env, rh, re, p.bind.imp (fun d M1 ρ1 H1 e1 rh1 p2 x rx => ?_) (fun _ _ _ _ _ _ q => q)⟩
  unfold fRev at p2
  split at p2
  · rw [rv_ref] at rx
    obtain ⟨a, ha, rfl⟩ := rx
    split at p2
    · rename_i l hm
      obtain ⟨xs, q1, q2⟩ := rh1.at hm ha
      exact ⟨a, xs, rfl, SqL.of q1, fun q hq => p2.newL rh1 q2.rev hq⟩
    · exact p2.elim
  · exact p2.elim
end
end Mi
set_option maxRecDepth 100000
/-! Built-ins and methods. -/
namespace Mi
open PySem PySem.Spec PyProof.Rows L2
section
variable {X : Cx} {C : Cfg} {W : WX}
/-- a built-in function by its name -/
theorem m_bif {x : Str} {p pos : Pos} {e : Expr} {es : List Expr} {id : String} {r : List V → Hp → VK → Prop} {f : List MV → Hm → R MV} {t' : Fa} (hc : CallR X (.builtin id) r) (hs : SimC C f r) (hm : X.mg x = none) (ha : PA X (e :: es) (tA C W t'))
    (hg : Gl X x := by rfl) (hv : bootBuiltins x = some (.builtin id) := by decide +kernel) (hn : x ≠ "__name__" := by decide) (hdb : (x == ("__debug__" : Str)) = false := by decide)
    (he : starEach (e :: es) X.env = (false, eval e X.env) :: starEach es X.env := by rfl) (hpl : (backTo pos (starEach es X.env)).any (·.1) = false := by rfl) : PE X (.Call (.Name x p) (e :: es) [] pos) (tE C W (eFn f t')) := by
  refine PE.imp (pe_callB hc hg hm hv ha hn hdb he hpl) fun σ H Q h => ?_
  obtain ⟨ρ, M, env, rh, re, p⟩ := h
  exact ⟨ρ, M, env, rh, re, p.bind.imp (fun ds M1 ρ1 H1 e1 rh1 p2 vs rvs => hs ρ1 H1 M1 ds vs Q _ rh1 rvs p2) (fun _ _ _ _ _ _ q => q)⟩
/-- a built-in type, called -/
theorem m_bty {x : Str} {p pos : Pos} {e : Expr} {es : List Expr} {id : String} {r : List V → Hp → VK → Prop} {f : List MV → Hm → R MV} {t' : Fa} (hc : CallR X (.type id) r) (hs : SimC C f r) (hm : X.mg x = none) (ha : PA X (e :: es) (tA C W t'))
    (hg : Gl X x := by rfl) (hv : bootBuiltins x = some (.type id) := by decide +kernel) (hn : x ≠ "__name__" := by decide) (hdb : (x == ("__debug__" : Str)) = false := by decide)
    (he : starEach (e :: es) X.env = (false, eval e X.env) :: starEach es X.env := by rfl) (hpl : (backTo pos (starEach es X.env)).any (·.1) = false := by rfl) : PE X (.Call (.Name x p) (e :: es) [] pos) (tE C W (eFn f t')) := by
  refine PE.imp (pe_callTy hc hg hm hv ha hn hdb he hpl) fun σ H Q h => ?_
  obtain ⟨ρ, M, env, rh, re, p⟩ := h
  exact ⟨ρ, M, env, rh, re, p.bind.imp (fun ds M1 ρ1 H1 e1 rh1 p2 vs rvs => hs ρ1 H1 M1 ds vs Q _ rh1 rvs p2) (fun _ _ _ _ _ _ q => q)⟩
/-- what a method's receiver is -/
inductive Ty where | str | list | dict | int
  deriving DecidableEq
def Ty.nm : Ty → String
  | .str => "str" | .list => "list" | .dict => "dict" | .int => "int"
def isTy (M : Hm) : Ty → MV → Bool
  | .str, .str _ => true
  | .int, .int _ => true
  | .list, .rol _ => true
  | .list, .ref i => (match M[i]? with | some (.lst _) => true | _ => false)
  | .dict, .ref i => (match M[i]? with | some (.dic _) => true | _ => false)
  | _, _ => false
theorem isTy_tyV {ρ : List Addr} {H : Hp} {M : Hm} {t : Ty} {d : MV} {v : V} (rh : RH C ρ H M) (r : RV C.K H ρ d v) (h : isTy M t d = true) : tyV C.K t.nm v H := by
  cases d with
  | str s => rw [rv_str] at r; subst r; cases t <;> first | rfl | cases h
  | int i => rw [rv_int] at r; subst r; cases t <;> first | rfl | cases h
  | rol l =>
    rw [rv_rol] at r
    obtain ⟨a, xs, rfl, h1, h2⟩ := r
    cases t <;> first | cases h | skip
    exact .inl ⟨rfl, xs, h1.sq⟩
  | ref i =>
    rw [rv_ref] at r
    obtain ⟨a, ha, rfl⟩ := r
    cases hm : M[i]? with
    | none => cases t <;> simp [isTy, hm] at h
    | some o =>
      cases o with
      | lst l =>
        obtain ⟨xs, q1, q2⟩ := rh.at hm ha
        cases t <;> first | (simp [isTy, hm] at h; done) | exact .inl ⟨rfl, xs, SqL.of q1⟩
      | dic l =>
        obtain ⟨ks, q1, q2⟩ := rh.at hm ha
        cases t <;> first | (simp [isTy, hm] at h; done) | exact .inr (.inr (.inl ⟨rfl, .inl ⟨ks, q1⟩⟩))
      | ins c fs => cases t <;> simp [isTy, hm] at h
  | _ => cases t <;> cases h
def eMet (ty : Ty) (f : MV → List MV → Hm → R MV) (o : Fe) (t : Fa) : Fe := fun env M => (o env M).bind fun x M1 => if isTy M1 ty x then (t env M1).bind fun xs M2 => f x xs M2 else .bad
theorem m_met {ty : Ty} {o e : Expr} {es : List Expr} {name : Str} {apos cpos : Pos} {id : String} {r : V → List V → Hp → VK → Prop} {f : MV → List MV → Hm → R MV} {o' : Fe} {t' : Fa} (hC : C.K = X.K) (pa : PlainAttrs ty.nm) (slot : Slot ty.nm name id) (hty : typeOf (.builtin id) = pure (.type "method_descriptor")) (hm : MtR X id r) (hs : SimM C f r)
    (ho : PE X o (tE C W o')) (ha : PA X (e :: es) (tA C W t'))
    (hbase : attributeBase o name X.env (eval o X.env) = eval o X.env := by rfl)
    (hfew : ((backTo cpos (starEach (e :: es) X.env)).all (fun x => !x.1) && (backToKw cpos (keywordEach [] X.env)).all (fun x => x.1.isSome)
      && decide ((e :: es).length + ([] : List Keyword).length + (if ([] : List Keyword).isEmpty then 0 else 1) < 30)) = true := by rfl)
    (hline : (apos.endLine == cpos.line) = true := by rfl) (hst : starEach (e :: es) X.env = (false, eval e X.env) :: starEach es X.env := by rfl) (hplain : (backTo cpos (starEach es X.env)).any (·.1) = false := by rfl) :
    PE X (.Call (.Attribute o name apos) (e :: es) [] cpos) (tE C W (eMet ty f o' t')) := by
  refine PE.imp (pe_bm pa slot hty hm ho ha hbase hfew hline hst hplain) fun σ H Q h => ?_
  obtain ⟨ρ, M, env, rh, re, p⟩ := h
  refine ⟨ρ, M, env, rh, re, p.bind.imp (fun d M1 ρ1 H1 e1 rh1 p2 v rv => ?_) (fun _ _ _ _ _ _ q => q)⟩
  split at p2
  · rename_i ht
    refine ⟨by rw [← hC]; exact isTy_tyV rh1 rv ht, ρ1, M1, env, rh1, re.mono e1, p2.bind.imp (fun ds M2 ρ2 H2 e2 rh2 p3 vs rvs => hs ρ2 H2 M2 d ds v vs Q _ rh2 (rv.mono e2) rvs p3) (fun _ _ _ _ _ _ q => q)⟩
  · exact p2.elim
theorem m_met0 {ty : Ty} {o : Expr} {name : Str} {apos cpos : Pos} {id : String} {r : V → List V → Hp → VK → Prop} {f : MV → List MV → Hm → R MV} {o' : Fe} (hC : C.K = X.K) (pa : PlainAttrs ty.nm) (slot : Slot ty.nm name id) (hty : typeOf (.builtin id) = pure (.type "method_descriptor")) (hm : MtR X id r) (hs : SimM C f r)
    (ho : PE X o (tE C W o')) (hbase : attributeBase o name X.env (eval o X.env) = eval o X.env := by rfl) (hline : (apos.endLine == cpos.line) = true := by rfl) :
    PE X (.Call (.Attribute o name apos) [] [] cpos) (tE C W (eMet ty f o' aNil)) := by
  refine PE.imp (pe_bm0 pa slot hty hm ho hbase hline) fun σ H Q h => ?_
  obtain ⟨ρ, M, env, rh, re, p⟩ := h
  refine ⟨ρ, M, env, rh, re, p.bind.imp (fun d M1 ρ1 H1 e1 rh1 p2 v rv => ?_) (fun _ _ _ _ _ _ q => q)⟩
  split at p2
  · rename_i ht
    exact ⟨by rw [← hC]; exact isTy_tyV rh1 rv ht, hs ρ1 H1 M1 d [] v [] Q _ rh1 rv RVs.nil p2⟩
  · exact p2.elim
end

/-! ### built-ins -/
theorem one_rv {K : PySem.W.Frag} {H : Hp} {ρ : List Addr} {d : MV} {vs : List V} (r : RVs K H ρ [d] vs) : ∃ v, vs = [v] ∧ RV K H ρ d v := by
  rw [rvs_cons] at r
  obtain ⟨v, t, rfl, r1, r2⟩ := r
  rw [rvs_nil] at r2
  subst r2
  exact ⟨v, rfl, r1⟩
theorem two_rv {K : PySem.W.Frag} {H : Hp} {ρ : List Addr} {d e : MV} {vs : List V} (r : RVs K H ρ [d, e] vs) : ∃ v w, vs = [v, w] ∧ RV K H ρ d v ∧ RV K H ρ e w := by
  rw [rvs_cons] at r
  obtain ⟨v, t, rfl, r1, r2⟩ := r
  obtain ⟨w, rfl, r3⟩ := one_rv r2
  exact ⟨v, w, rfl, r1, r3⟩
def fLen : List MV → Hm → R MV
  | [.str s], M => if s.length ≤ SL then .ok (.int s.length) M else .bad
  | [.tup l], M => .ok (.int l.length) M
  | [.rol l], M => .ok (.int l.length) M
  | [.ref i], M => match M[i]? with
    | some (.lst l) => .ok (.int l.length) M
    | _ => .bad
  | _, _ => .bad
theorem sim_len {C : Cfg} : SimC C fLen (fun xs H Q => ∃ x n, xs = [x] ∧ LenV C.K x H n ∧ Q (.int n) H) := by
  intro ρ H M ds xs Q G rh rx p
  unfold fLen at p
  split at p
  · obtain ⟨v, rfl, r⟩ := one_rv rx
    rw [rv_str] at r
    subst r
    split at p
    · rename_i hl
      exact ⟨_, _, rfl, ⟨by rw [T_len, sizeLine_eq]; exact hl, rfl⟩, by rw [T_len]; exact p.val rh (rv_int.mpr rfl)⟩
    · exact p.elim
  · obtain ⟨v, rfl, r⟩ := one_rv rx
    rw [rv_tup] at r
    obtain ⟨a, ys, rfl, h1, h2⟩ := r
    exact ⟨_, ys.length, rfl, .inr ⟨ys, h1, rfl⟩, by rw [h2.len]; exact p.val rh (rv_int.mpr rfl)⟩
  · obtain ⟨v, rfl, r⟩ := one_rv rx
    rw [rv_rol] at r
    obtain ⟨a, ys, rfl, h1, h2⟩ := r
    exact ⟨_, ys.length, rfl, .inl ⟨ys, h1.sq, rfl⟩, by rw [h2.len]; exact p.val rh (rv_int.mpr rfl)⟩
  · obtain ⟨v, rfl, r⟩ := one_rv rx
    rw [rv_ref] at r
    obtain ⟨a, ha, rfl⟩ := r
    split at p
    · rename_i l hm
      obtain ⟨ys, q1, q2⟩ := rh.at hm ha
      exact ⟨_, ys.length, rfl, .inl ⟨ys, SqL.of q1, rfl⟩, by rw [q2.len]; exact p.val rh (rv_int.mpr rfl)⟩
    · exact p.elim
  · exact p.elim
/-- the signs of a number -/
def numT (i : Int) : Tx := if i < 0 then 45 :: TL.numL i.natAbs else TL.numL i.natAbs
theorem num_T (i : Int) : (toString i : Str) = T (numT i) := by
  have key : ∀ n : Nat, Str.ofString (toString ((n : Nat) : Int)) = T (TL.numL n) := fun n => by
    have h := PySem.W.KIN.signs_num n
    cases q : Str.ofString (toString ((n : Nat) : Int)) with
    | mk cps =>
      rw [q] at h
      show Str.mk cps = Str.mk _
      congr 1
      have h : cps.toList = TL.numL n := h
      rw [← h]
  cases i with
  | ofNat n =>
    have h : ¬ ((Int.ofNat n) < 0) := by simp
    unfold numT
    rw [if_neg h]
    exact key n
  | negSucc n =>
    have h : (Int.negSucc n) < 0 := Int.negSucc_lt_zero n
    unfold numT
    rw [if_pos h]
    show Str.ofString (toString (Int.negSucc n)) = _
    have e1 : (toString (Int.negSucc n)) = "-" ++ toString (((n + 1 : Nat)) : Int) := rfl
    rw [e1]
    have e2 : Str.ofString ("-" ++ toString (((n + 1 : Nat)) : Int)) = T [45] ++ Str.ofString (toString (((n + 1 : Nat)) : Int)) := by
      rw [Str.ofString_eq_toList, Str.ofString_eq_toList]
      show Str.mk _ = Str.mk ([45].toArray ++ _)
      congr 1
      simp
    rw [e2, key, T_app]
    rfl
def fStr : List MV → Hm → R MV
  | [.int i], M => if i.natAbs.log2 < 1920 then .ok (.str (numT i)) M else .bad
  | _, _ => .bad
theorem sim_str {C : Cfg} : SimC C fStr (fun xs H Q => ∃ i : Int, xs = [.int i] ∧ i.natAbs.log2 < 1920 ∧ Q (.str (toString i)) H) := by
  intro ρ H M ds xs Q G rh rx p
  unfold fStr at p
  split at p
  · obtain ⟨v, rfl, r⟩ := one_rv rx
    rw [rv_int] at r
    subst r
    split at p
    · rename_i i hl
      refine ⟨_, rfl, hl, ?_⟩
      rw [num_T]
      exact p.val rh (rv_str.mpr rfl)
    · exact p.elim
  · exact p.elim
def allDig (s : Tx) : Bool := s.all fun c => decide (48 ≤ c) && decide (c ≤ 57)
def fIntOf : List MV → Hm → R MV
  | [.int i], M => .ok (.int i) M
  | [.bl b], M => .ok (.int (if b then 1 else 0)) M
  | [.str s], M => if allDig s && !s.isEmpty && decide (s.length ≤ 640) then .ok (.int (NumText.digitsVal s : Nat)) M else .bad
  | _, _ => .bad
abbrev rIntOf : List V → Hp → VK → Prop := fun xs H Q => ((∃ i, xs = [.int i] ∧ Q (.int i) H) ∨ ∃ k, xs = [.bl k] ∧ Q (.int (if k then 1 else 0)) H) ∨ ∃ a n, xs = [.str a] ∧ PySem.intText? a = some n ∧ a.length ≤ 640 ∧ Q (.int n) H
theorem call_intOf {X : Cx} : CallR X (.type "int") rIntOf := call_int1.or call_int_str
theorem sim_intOf {C : Cfg} : SimC C fIntOf rIntOf := by
  intro ρ H M ds xs Q G rh rx p
  unfold fIntOf at p
  split at p
  · obtain ⟨v, rfl, r⟩ := one_rv rx
    rw [rv_int] at r
    subst r
    exact .inl (.inl ⟨_, rfl, p.val rh (rv_int.mpr rfl)⟩)
  · obtain ⟨v, rfl, r⟩ := one_rv rx
    rw [rv_bl] at r
    subst r
    exact .inl (.inr ⟨_, rfl, p.val rh (rv_int.mpr rfl)⟩)
  · obtain ⟨v, rfl, r⟩ := one_rv rx
    rw [rv_str] at r
    subst r
    split at p
    · rename_i s hl
      simp only [Bool.and_eq_true, decide_eq_true_eq, Bool.not_eq_true'] at hl
      obtain ⟨⟨h1, h2⟩, h3⟩ := hl
      have hd : NumText.AllDigits s := fun c hc => by
        have := List.all_eq_true.mp h1 c hc
        simpa using this
      refine .inr ⟨_, _, rfl, PySem.intText_digits (x := T s) (by rw [T_list]; exact hd) ?_ (by rw [T_len]; omega), by rw [T_len]; exact h3, ?_⟩
      · rw [T_list]; intro e; rw [e] at h2; cases h2
      · rw [T_list]; exact p.val rh (rv_int.mpr rfl)
    · exact p.elim
  · exact p.elim
def fAbs : List MV → Hm → R MV
  | [.int i], M => .ok (.int (if i < 0 then -i else i)) M
  | _, _ => .bad
theorem sim_abs {C : Cfg} : SimC C fAbs (fun xs H Q => ∃ i, xs = [.int i] ∧ Q (.int (if i < 0 then -i else i)) H) := by
  intro ρ H M ds xs Q G rh rx p
  unfold fAbs at p
  split at p
  · obtain ⟨v, rfl, r⟩ := one_rv rx
    rw [rv_int] at r
    subst r
    exact ⟨_, rfl, p.val rh (rv_int.mpr rfl)⟩
  · exact p.elim
def fOrd : List MV → Hm → R MV
  | [.str [c]], M => .ok (.int (c : Nat)) M
  | _, _ => .bad
theorem sim_ord {C : Cfg} : SimC C fOrd (fun xs H Q => ∃ x : Str, xs = [.str x] ∧ x.length = 1 ∧ Q (.int (x.cps.getD 0 0 : Nat)) H) := by
  intro ρ H M ds xs Q G rh rx p
  unfold fOrd at p
  split at p
  · obtain ⟨v, rfl, r⟩ := one_rv rx
    rw [rv_str] at r
    subst r
    exact ⟨_, rfl, rfl, p.val rh (rv_int.mpr rfl)⟩
  · exact p.elim
/-- tuple(x), list(x) -/
def fTuple : List MV → Hm → R MV
  | [.tup l], M => .ok (.tup l) M
  | [.rol l], M => .ok (.tup l) M
  | [.ref i], M => match M[i]? with
    | some (.lst l) => .ok (.tup l) M
    | _ => .bad
  | _, _ => .bad
theorem sim_tuple {C : Cfg} : SimC C fTuple (fun xs H Q => ∃ p ys, xs = [.ref p] ∧ ((SqL C.K H p ys ∧ ∀ l, H l = none → Q (.ref l) (upd H l (.tup ys))) ∨ (SqT C.K H p ys ∧ Q (.ref p) H))) := by
  intro ρ H M ds xs Q G rh rx p
  unfold fTuple at p
  split at p
  · obtain ⟨v, rfl, r⟩ := one_rv rx
    rw [rv_tup] at r
    obtain ⟨a, ys, rfl, h1, h2⟩ := r
    exact ⟨a, ys, rfl, .inr ⟨h1, p.val rh (rv_tup.mpr ⟨a, ys, rfl, h1, h2⟩)⟩⟩
  · obtain ⟨v, rfl, r⟩ := one_rv rx
    rw [rv_rol] at r
    obtain ⟨a, ys, rfl, h1, h2⟩ := r
    exact ⟨a, ys, rfl, .inl ⟨h1.sq, fun l hl => p.newT rh h2 hl⟩⟩
  · obtain ⟨v, rfl, r⟩ := one_rv rx
    rw [rv_ref] at r
    obtain ⟨a, ha, rfl⟩ := r
    split at p
    · rename_i l hm
      obtain ⟨ys, q1, q2⟩ := rh.at hm ha
      exact ⟨a, ys, rfl, .inl ⟨SqL.of q1, fun l hl => p.newT rh q2 hl⟩⟩
    · exact p.elim
  · exact p.elim
def fList : List MV → Hm → R MV
  | [.tup l], M => .ok (.ref M.length) (M ++ [.lst l])
  | [.rol l], M => .ok (.ref M.length) (M ++ [.lst l])
  | [.ref i], M => match M[i]? with
    | some (.lst l) => .ok (.ref M.length) (M ++ [.lst l])
    | _ => .bad
  | _, _ => .bad
theorem sim_list {C : Cfg} : SimC C fList (fun xs H Q => ∃ p ys, xs = [.ref p] ∧ (SqL C.K H p ys ∨ SqT C.K H p ys) ∧ ∀ l, H l = none → Q (.ref l) (upd H l (.lst ys))) := by
  intro ρ H M ds xs Q G rh rx p
  unfold fList at p
  split at p
  · obtain ⟨v, rfl, r⟩ := one_rv rx
    rw [rv_tup] at r
    obtain ⟨a, ys, rfl, h1, h2⟩ := r
    exact ⟨a, ys, rfl, .inr h1, fun l hl => p.newL rh h2 hl⟩
  · obtain ⟨v, rfl, r⟩ := one_rv rx
    rw [rv_rol] at r
    obtain ⟨a, ys, rfl, h1, h2⟩ := r
    exact ⟨a, ys, rfl, .inl h1.sq, fun l hl => p.newL rh h2 hl⟩
  · obtain ⟨v, rfl, r⟩ := one_rv rx
    rw [rv_ref] at r
    obtain ⟨a, ha, rfl⟩ := r
    split at p
    · rename_i l hm
      obtain ⟨ys, q1, q2⟩ := rh.at hm ha
      exact ⟨a, ys, rfl, .inl (SqL.of q1), fun l hl => p.newL rh q2 hl⟩
    · exact p.elim
  · exact p.elim
/-- divmod(n, k) -/
def fDivmod : List MV → Hm → R MV
  | [.int i, .int j], M => if cDiv i j then .ok (.tup [.int (i / j), .int (i % j)]) M else .bad
  | _, _ => .bad
theorem sim_divmod {C : Cfg} : SimC C fDivmod (fun xs H Q => ∃ i j, xs = [.int i, .int j] ∧ CDivP i j ∧ ∀ p, H p = none → Q (.ref p) (upd H p (.tup [.int (i / j), .int (i % j)]))) := by
  intro ρ H M ds xs Q G rh rx p
  unfold fDivmod at p
  split at p
  · obtain ⟨v, w, rfl, r1, r2⟩ := two_rv rx
    rw [rv_int] at r1 r2
    subst r1; subst r2
    split at p
    · rename_i i j h
      unfold cDiv at h
      rw [Bool.and_eq_true, decide_eq_true_eq, decide_eq_true_eq] at h
      exact ⟨_, _, rfl, ⟨h.1, PyProof.noPylong_of_log2 h.2⟩, fun l hl => p.newT rh (RVs.cons (rv_int.mpr rfl) (RVs.cons (rv_int.mpr rfl) RVs.nil)) hl⟩
    · exact p.elim
  · exact p.elim
/-- all(xs), any(xs) of bools -/
def boolsOf (l : List MV) : Option (List Bool) := l.mapM fun d => match d with
  | .bl b => some b
  | _ => none
def fAllG (g : List Bool → Bool) : List MV → Hm → R MV
  | [.ref i], M => match M[i]? with
    | some (.lst l) => (match boolsOf l with
      | some bs => .ok (.bl (g bs)) M
      | none => .bad)
    | _ => .bad
  | _, _ => .bad
theorem bools_rv {K : PySem.W.Frag} {H : Hp} {ρ : List Addr} : ∀ {l : List MV} {vs : List V} {bs : List Bool}, RVs K H ρ l vs → boolsOf l = some bs → vs = bs.map V.bl
  | [], vs, bs, r, h => by
    rw [rvs_nil] at r
    subst r
    cases h
    rfl
  | d :: l, vs, bs, r, h => by
    rw [rvs_cons] at r
    obtain ⟨v, t, rfl, r1, r2⟩ := r
    unfold boolsOf at h
    rw [List.mapM_cons] at h
    cases d with
    | bl b =>
      rw [rv_bl] at r1
      subst r1
      cases e : boolsOf l with
      | none => unfold boolsOf at e; simp only [e] at h; cases h
      | some cs =>
        have e' := e
        unfold boolsOf at e
        simp only [e] at h
        cases h
        rw [bools_rv r2 e']
        rfl
    | _ => cases h
theorem sim_allG {C : Cfg} {g : List Bool → Bool} : SimC C (fAllG g) (fun vs H Q => ∃ (a : Addr) (bs : List Bool), vs = [V.ref a] ∧ SqL C.K H a (bs.map V.bl) ∧ Q (.bl (g bs)) H) := by
  intro ρ H M ds xs Q G rh rx p
  unfold fAllG at p
  split at p
  · obtain ⟨v, rfl, r⟩ := one_rv rx
    rw [rv_ref] at r
    obtain ⟨a, ha, rfl⟩ := r
    split at p
    · rename_i l hm
      obtain ⟨ys, q1, q2⟩ := rh.at hm ha
      split at p
      · rename_i bs hb
        exact ⟨a, bs, rfl, by rw [← bools_rv q2 hb]; exact SqL.of q1, p.val rh (rv_bl.mpr rfl)⟩
      · exact p.elim
    · exact p.elim
  · exact p.elim
abbrev fAll := fAllG fun bs => bs.all id
abbrev fAny := fAllG fun bs => bs.any id

/-! ### isinstance -/
def tyN (M : Hm) : MV → Option String
  | .non => some "NoneType"
  | .bl _ => some "bool"
  | .int _ => some "int"
  | .str _ => some "str"
  | .tup _ => some "tuple"
  | .rol _ => some "list"
  | .ref i => match M[i]? with
    | some (.lst _) => some "list"
    | some (.dic _) => some "dict"
    | _ => none
def fIsi (c : String) : List MV → Hm → R MV
  | [d], M => match tyN M d with
    | some t => (match kitB t c with
      | some b => .ok (.bl b) M
      | none => .bad)
    | none => .bad
  | _, _ => .bad
theorem tyN_ok {C : Cfg} {ρ : List Addr} {H : Hp} {M : Hm} {d : MV} {v : V} {t : String} (rh : RH C ρ H M) (r : RV C.K H ρ d v) (h : tyN M d = some t) : TyX C.K H v (.type t) := by
  cases d with
  | non => rw [rv_non] at r; subst r; cases h; exact .base .non
  | bl b => rw [rv_bl] at r; subst r; cases h; exact .base (.bl b)
  | int i => rw [rv_int] at r; subst r; cases h; exact .base (.int i)
  | str s => rw [rv_str] at r; subst r; cases h; exact .base (.str _)
  | tup l =>
    rw [rv_tup] at r
    obtain ⟨a, xs, rfl, h1, h2⟩ := r
    cases h
    rcases h1 with (h1 | ⟨o, h1⟩) | ⟨o, its, n, hk, hc, _⟩
    · exact .base (.tup h1)
    · exact .fTuple h1
    · exact .kTuple hk hc
  | rol l =>
    rw [rv_rol] at r
    obtain ⟨a, xs, rfl, h1, h2⟩ := r
    cases h
    rcases h1 with ⟨o, h1⟩ | ⟨o, its, n, hk, hc, _⟩
    · exact .base (.frz h1)
    · exact .kList hk hc
  | ref i =>
    rw [rv_ref] at r
    obtain ⟨a, ha, rfl⟩ := r
    cases hm : M[i]? with
    | none => simp [tyN, hm] at h
    | some o =>
      cases o with
      | lst l =>
        obtain ⟨xs, q1, q2⟩ := rh.at hm ha
        simp [tyN, hm] at h
        subst h
        exact .base (.lst q1)
      | dic l =>
        obtain ⟨xs, q1, q2⟩ := rh.at hm ha
        simp [tyN, hm] at h
        subst h
        exact .base (.dK q1)
      | ins c fs => simp [tyN, hm] at h
section
variable {X : Cx} {C : Cfg} {W : WX}
/-- isinstance(e, T), T a built-in type -/
theorem m_isi {c : String} {cx : Str} {e : Expr} {e' : Fe} {p p2 pos : Pos} (hC : C.K = X.K) (he : PE X e (tE C W e')) (hm : X.mg "isinstance" = none) (hmc : X.mg cx = none) (hbc : bootBuiltins cx = some (.type c) := by decide +kernel)
    (hg : Gl X "isinstance" := by rfl) (hgc : Gl X cx := by rfl) (hn : cx ≠ "__name__" := by decide) (hdb : (cx == ("__debug__" : Str)) = false := by decide)
    (hst : starEach [e, .Name cx p2] X.env = (false, eval e X.env) :: starEach [.Name cx p2] X.env := by rfl) (hpl : (backTo pos (starEach [.Name cx p2] X.env)).any (·.1) = false := by rfl) :
    PE X (.Call (.Name "isinstance" p) [e, .Name cx p2] [] pos) (tE C W (eFn (fIsi c) (aCons e' aNil))) := by
  have hc : PE X (.Name cx p2) (tC (.ty c)) := pe_bltn hgc hmc hbc rfl hn hdb
  refine PE.imp (pe_callB (X := X) call_isi hg hm (by decide +kernel) (pa_cons he (pa_cons hc pa_nil) hst) (by decide) (by decide) hst hpl) fun σ H Q h => ?_
  obtain ⟨ρ, M, env, rh, re, p⟩ := h
  have p := p.bind.bind
  refine ⟨ρ, M, env, rh, re, p.imp (fun d M1 ρ1 H1 e1 rh1 p2 v rv => ?_) (fun _ _ _ _ _ _ q => q)⟩
  have p3 : Post C ρ1 H1 (match tyN M1 d with
    | some t => (match kitB t c with
      | some b => .ok (.bl b) M1
      | none => .bad)
    | none => .bad) (Fv C Q) _ := (p2.bind.now rh1).now rh1
  split at p3
  · rename_i t ht
    split at p3
    · rename_i b hb
      exact ⟨v, .ty c, _, _, b, rfl, .ty c, by rw [← hC]; exact tyN_ok rh1 rv ht, kit_ty hb, p3.val rh1 (rv_bl.mpr rfl)⟩
    · exact p3.elim
  · exact p3.elim
end

/-! ### methods -/
def fAppend : MV → List MV → Hm → R MV
  | .ref i, [d], M => match M[i]? with
    | some (.lst l) => if l.length < SL then .ok .non (M.set i (.lst (l ++ [d]))) else .bad
    | _ => .bad
  | _, _, _ => .bad
theorem sim_append {C : Cfg} : SimM C fAppend rAppend := by
  intro ρ H M d ds x xs Q G rh rx rxs p
  unfold fAppend at p
  split at p
  · obtain ⟨v, rfl, r⟩ := one_rv rxs
    rw [rv_ref] at rx
    obtain ⟨a, ha, rfl⟩ := rx
    split at p
    · rename_i l hm
      obtain ⟨ys, q1, q2⟩ := rh.at hm ha
      split at p
      · rename_i hl
        exact ⟨a, ys, v, rfl, rfl, q1, by rw [q2.len, sizeLine_eq]; exact hl, p.setL rh ha (q2.snoc r) (rv_non.mpr rfl)⟩
      · exact p.elim
    · exact p.elim
  · exact p.elim
def fPop : MV → List MV → Hm → R MV
  | .ref i, [], M => match M[i]? with
    | some (.lst l) => (match l[l.length - 1]? with
      | some d => .ok d (M.set i (.lst l.dropLast))
      | none => .bad)
    | _ => .bad
  | _, _, _ => .bad
theorem RVs.dropLast {K : PySem.W.Frag} {H : Hp} {ρ : List Addr} {l : List MV} {vs : List V} (r : RVs K H ρ l vs) : RVs K H ρ l.dropLast vs.dropLast := by
  rw [List.dropLast_eq_take, List.dropLast_eq_take, r.len]
  exact r.take _
theorem sim_pop {C : Cfg} : SimM C fPop rPop := by
  intro ρ H M d ds x xs Q G rh rx rxs p
  unfold fPop at p
  split at p
  · rw [rvs_nil] at rxs
    subst rxs
    rw [rv_ref] at rx
    obtain ⟨a, ha, rfl⟩ := rx
    split at p
    · rename_i l hm
      obtain ⟨ys, q1, q2⟩ := rh.at hm ha
      split at p
      · rename_i d hd
        obtain ⟨v, e1, r⟩ := q2.get hd
        exact ⟨a, ys, v, rfl, rfl, q1, by rw [q2.len]; exact e1, p.setL rh ha q2.dropLast r⟩
      · exact p.elim
    · exact p.elim
  · exact p.elim
/-- texts of a list -/
def textsOf (l : List MV) : Option (List Tx) := l.mapM fun d => match d with
  | .str s => some s
  | _ => none
theorem texts_rv {K : PySem.W.Frag} {H : Hp} {ρ : List Addr} : ∀ {l : List MV} {vs : List V} {ss : List Tx}, RVs K H ρ l vs → textsOf l = some ss → vs = (ss.map T).map V.str
  | [], vs, ss, r, h => by
    rw [rvs_nil] at r
    subst r
    cases h
    rfl
  | d :: l, vs, ss, r, h => by
    rw [rvs_cons] at r
    obtain ⟨v, t, rfl, r1, r2⟩ := r
    unfold textsOf at h
    rw [List.mapM_cons] at h
    cases d with
    | str b =>
      rw [rv_str] at r1
      subst r1
      cases e : textsOf l with
      | none => unfold textsOf at e; simp only [e] at h; cases h
      | some cs =>
        have e' := e
        unfold textsOf at e
        simp only [e] at h
        cases h
        rw [texts_rv r2 e']
        rfl
    | _ => cases h
/-- sep.join(texts) -/
def joinT (sep : Tx) : List Tx → Tx
  | [] => []
  | [x] => x
  | x :: y :: r => x ++ (sep ++ joinT sep (y :: r))
theorem join_T (sep : Tx) : ∀ ss : List Tx, Txt.join (T sep) (ss.map T) = T (joinT sep ss) := by
  intro ss
  rw [TL.join_eq]
  induction ss with
  | nil => rfl
  | cons x r ih =>
    cases r with
    | nil => rfl
    | cons y r =>
      show T x ++ T sep ++ Str.join (T sep) ((y :: r).map T) = T (x ++ (sep ++ joinT sep (y :: r)))
      rw [ih, T_app, T_app, List.append_assoc]
def fJoin : MV → List MV → Hm → R MV
  | .str sep, [.ref i], M => match M[i]? with
    | some (.lst l) => (match textsOf l with
      | some ss => if (ss.map (·.length)).sum + ss.length * sep.length ≤ SL then .ok (.str (joinT sep ss)) M else .bad
      | none => .bad)
    | _ => .bad
  | _, _, _ => .bad
theorem sim_join {C : Cfg} : SimM C fJoin (fun x xs H Q => ∃ a p, ∃ ys : List Str, x = .str a ∧ xs = [.ref p] ∧ (SqL C.K H p (ys.map V.str) ∨ SqT C.K H p (ys.map V.str)) ∧ (ys.map (·.length)).sum + ys.length * a.length ≤ 16777216 ∧ Q (.str (Txt.join a ys)) H) := by
  intro ρ H M d ds x xs Q G rh rx rxs p
  unfold fJoin at p
  split at p
  · obtain ⟨v, rfl, r⟩ := one_rv rxs
    rw [rv_str] at rx
    subst rx
    rw [rv_ref] at r
    obtain ⟨a, ha, rfl⟩ := r
    split at p
    · rename_i l hm
      obtain ⟨ys, q1, q2⟩ := rh.at hm ha
      split at p
      · rename_i ss hs
        split at p
        · rename_i hl
          refine ⟨_, a, ss.map T, rfl, rfl, .inl ?_, ?_, ?_⟩
          · rw [← texts_rv q2 hs]; exact SqL.of q1
          · rw [List.map_map, List.length_map, T_len]
            have : ((fun x => Str.length x) ∘ T) = fun s : Tx => s.length := by
              funext s; exact T_len s
            rw [this]
            exact hl
          · rw [join_T]
            exact p.val rh (rv_str.mpr rfl)
        · exact p.elim
      · exact p.elim
    · exact p.elim
  · exact p.elim
/-- s.find(t, i) -/
def fFind3 : MV → List MV → Hm → R MV
  | .str a, [.str b, .int i], M => .ok (.int (Txt.find3 (T a) (T b) i)) M
  | _, _, _ => .bad
theorem sim_find3 {C : Cfg} : SimM C fFind3 (fun x xs H Q => ∃ (a b : Str) (i : Int), x = .str a ∧ xs = [.str b, .int i] ∧ Q (.int (Txt.find3 a b i)) H) := by
  intro ρ H M d ds x xs Q G rh rx rxs p
  unfold fFind3 at p
  split at p
  · obtain ⟨v, w, rfl, r1, r2⟩ := two_rv rxs
    rw [rv_str] at rx r1
    rw [rv_int] at r2
    subst rx; subst r1; subst r2
    exact ⟨_, _, _, rfl, rfl, p.val rh (rv_int.mpr rfl)⟩
  · exact p.elim
/-- no sign in front -/
def noSign : Tx → Bool
  | c :: _ => !(c == 43) && !(c == 45)
  | [] => true
/-- s.zfill(n), s without a sign in front -/
def fZfill : MV → List MV → Hm → R MV
  | .str a, [.int i], M => if PadOk i && noSign a then .ok (.str (List.replicate (i.toNat - a.length) 48 ++ a)) M else .bad
  | _, _, _ => .bad
theorem zfill_T {a : Tx} {i : Int} (h : noSign a = true) : Txt.zfill (T a) i = T (List.replicate (i.toNat - a.length) 48 ++ a) := by
  have hl := T_len a
  unfold Txt.zfill
  split
  · rename_i hi
    have : i.toNat - a.length = 0 := by rw [hl] at hi; omega
    rw [this]
    rfl
  · have key : PySem.zfilled (T a) (i.toNat - (T a).length) = Builtin.Str.padded (T a) (i.toNat - (T a).length) 0 48 := by
      unfold PySem.zfilled
      have e : (T a).cps[0]? = a[0]? := by
        show a.toArray[0]? = a[0]?
        simp
      rw [e]
      cases a with
      | nil => rfl
      | cons c r =>
        simp only [noSign, Bool.and_eq_true, Bool.not_eq_true', beq_eq_false_iff_ne] at h
        show (match (some c : Option Nat) with | some 43 | some 45 => _ | _ => _) = _
        split
        · rename_i q; cases q; exact absurd rfl h.1
        · rename_i q; cases q; exact absurd rfl h.2
        · rfl
    rw [key, hl]
    show Str.mk (Array.replicate _ 48 ++ a.toArray ++ Array.replicate 0 48) = Str.mk _
    congr 1
    simp
theorem sim_zfill {C : Cfg} : SimM C fZfill (fun x xs H Q => ∃ (a : Str) (i : Int), x = .str a ∧ xs = [.int i] ∧ PadOk i = true ∧ Q (.str (Txt.zfill a i)) H) := by
  intro ρ H M d ds x xs Q G rh rx rxs p
  unfold fZfill at p
  split at p
  · obtain ⟨v, rfl, r⟩ := one_rv rxs
    rw [rv_str] at rx
    rw [rv_int] at r
    subst rx; subst r
    split at p
    · rename_i a i h
      rw [Bool.and_eq_true] at h
      refine ⟨_, _, rfl, rfl, h.1, ?_⟩
      rw [zfill_T h.2]
      exact p.val rh (rv_str.mpr rfl)
    · exact p.elim
  · exact p.elim
/-! ### what is written -/
section
variable {X : Cx} {C : Cfg} {W : WX}
theorem m_globE {x : Str} {d : MV} {pos : Pos} (h : ∃ v u, X.mg x = some u ∧ RelV v u ∧ ∀ H ρ, RV C.K H ρ d v) (hg : Gl X x := by rfl) (hd : (x == ("__debug__" : Str)) = false := by decide) : PE X (.Name x pos) (tE C W (eC d)) := by
  obtain ⟨v, u, h1, h2, h3⟩ := h
  exact m_glob h1 h2 h3 hg hd
end

/-! ### what is walked: texts, ranges -/
section
variable {X : Cx} {C : Cfg} {W : WX}
theorem itok_str {s : Tx} {ρ : List Addr} {H : Hp} : ItOk C H ρ (nT (s.map fun c => .str [c])) (Its (T s)) := by
  refine ⟨fun ρ2 H2 M k e rh q => ?_, fun ρ2 H2 M k x e rh q => ?_, fun ρ2 H2 M k x v H' e rh q y => ?_⟩
  · have := List.getElem?_eq_none_iff.mp (Option.some.inj q)
    show (T s).cps.size ≤ k
    rw [show (T s).cps.size = s.length from T_len s]
    simpa using this
  · have := (List.getElem?_eq_some_iff.mp (Option.some.inj q)).1
    show k < (T s).cps.size
    rw [show (T s).cps.size = s.length from T_len s]
    simpa using this
  · obtain ⟨rfl, c, hc, rfl⟩ := y
    have q := Option.some.inj q
    rw [List.getElem?_map] at q
    have hc' : s[k]? = some c := by
      have : (T s).cps[k]? = s[k]? := by
        show s.toArray[k]? = s[k]?
        simp
      rw [← this]; exact hc
    rw [hc'] at q
    cases q
    exact ⟨Ext.refl, rh, rv_str.mpr rfl⟩
theorem mi_str {tg l : Expr} {l' : Fe} (hl : PE X l (tE C W l')) : PI X tg l (tIt C W (iS l')) := by
  refine PI.imp (pi_str hl) fun σ H Q h => ?_
  obtain ⟨ρ, M, env, rh, re, p⟩ := h
  refine ⟨ρ, M, env, rh, re, p.bind.imp (fun d M1 ρ1 H1 e1 rh1 p2 v rv => ?_) (fun _ _ _ _ _ _ q => q)⟩
  cases d with
  | str s =>
    rw [rv_str] at rv
    subst rv
    exact ⟨_, rfl, p2.now rh1 _ itok_str⟩
  | _ => exact p2.elim
theorem itok_rng {lo : Int} {n : Nat} {ρ : List Addr} {H : Hp} : ItOk C H ρ (nR lo 1 n) (Itr lo n) := by
  refine ⟨fun ρ2 H2 M k e rh q => ?_, fun ρ2 H2 M k x e rh q => ?_, fun ρ2 H2 M k x v H' e rh q y => ?_⟩
  · have q := Option.some.inj q
    by_cases h : k < n
    · rw [if_pos h] at q; cases q
    · exact Nat.le_of_not_lt h
  · have q := Option.some.inj q
    by_cases h : k < n
    · exact h
    · rw [if_neg h] at q; cases q
  · obtain ⟨rfl, rfl⟩ := y
    have q := Option.some.inj q
    by_cases h : k < n
    · rw [if_pos h] at q
      cases q
      exact ⟨Ext.refl, rh, rv_int.mpr (by rw [Int.mul_one])⟩
    · rw [if_neg h] at q; cases q
theorem itok_rngC {lo c : Int} {n : Nat} {ρ : List Addr} {H : Hp} : ItOk C H ρ (nR lo c n) (Itc lo c n) := by
  refine ⟨fun ρ2 H2 M k e rh q => ?_, fun ρ2 H2 M k x e rh q => ?_, fun ρ2 H2 M k x v H' e rh q y => ?_⟩
  · have q := Option.some.inj q
    by_cases h : k < n
    · rw [if_pos h] at q; cases q
    · exact Nat.le_of_not_lt h
  · have q := Option.some.inj q
    by_cases h : k < n
    · exact h
    · rw [if_neg h] at q; cases q
  · obtain ⟨rfl, rfl⟩ := y
    have q := Option.some.inj q
    by_cases h : k < n
    · rw [if_pos h] at q
      cases q
      exact ⟨Ext.refl, rh, rv_int.mpr rfl⟩
    · rw [if_neg h] at q; cases q
/-- within 2 ^ 62 -/
def in62 (i : Int) : Bool := decide (i.natAbs < 4611686018427387904)
theorem in62_le {i : Int} (h : in62 i = true) : -(2 ^ 62) ≤ i ∧ i < 2 ^ 62 := by
  have h' : i.natAbs < 4611686018427387904 := of_decide_eq_true h
  have e : (2 : Int) ^ 62 = 4611686018427387904 := by decide +kernel
  rw [e]
  omega
def rg1 : List MV → Hm → R (Ni × Nat)
  | [.int j], M => if in62 j then .ok (nR 0 1 j.toNat, j.toNat + 1) M else .bad
  | _, _ => .bad
def rg2 : List MV → Hm → R (Ni × Nat)
  | [.int i, .int j], M => if in62 i && in62 j then .ok (nR i 1 (j - i).toNat, (j - i).toNat + 1) M else .bad
  | _, _ => .bad
/-- range(i, j, c) -/
def rg3 : List MV → Hm → R (Ni × Nat)
  | [.int i, .int j, .int c], M => if decide (c ≠ 0) && decide (c.natAbs < 1073741824) && Builtin.Range.small i j c && decide (0 ≤ Builtin.Range.rangeSize i j c) then .ok (nR i c (Builtin.Range.rangeSize i j c).toNat, (Builtin.Range.rangeSize i j c).toNat + 1) M else .bad
  | _, _ => .bad
def iRg (f : List MV → Hm → R (Ni × Nat)) (t : Fa) : Fi := fun env M => (t env M).bind fun xs M1 => f xs M1
theorem mi_range1 {tg a : Expr} {t' : Fa} {p pos : Pos} (hm : X.mg "range" = none) (ha : PA X [a] (tA C W t')) (hg : Gl X "range" := by rfl) (hs : starEach [a] X.env = [(false, eval a X.env)] := by rfl) : PI X tg (.Call (.Name "range" p) [a] [] pos) (tIt C W (iRg rg1 t')) := by
  refine PI.imp (pi_range1 hg hm ha hs) fun σ H Q h => ?_
  obtain ⟨ρ, M, env, rh, re, p⟩ := h
  refine ⟨ρ, M, env, rh, re, p.bind.imp (fun ds M1 ρ1 H1 e1 rh1 p2 vs rvs => ?_) (fun _ _ _ _ _ _ q => q)⟩
  unfold rg1 at p2
  split at p2
  · obtain ⟨v, rfl, r⟩ := one_rv rvs
    rw [rv_int] at r
    subst r
    split at p2
    · rename_i j hj
      have hj := in62_le hj
      exact ⟨_, rfl, hj.1, hj.2, p2.now rh1 _ itok_rng⟩
    · exact p2.elim
  · exact p2.elim
theorem mi_range2 {tg a b : Expr} {t' : Fa} {p pos : Pos} (hm : X.mg "range" = none) (ha : PA X [a, b] (tA C W t')) (hg : Gl X "range" := by rfl) (hs : starEach [a, b] X.env = [(false, eval a X.env), (false, eval b X.env)] := by rfl) (hs2 : starEach [b] X.env = [(false, eval b X.env)] := by rfl) :
    PI X tg (.Call (.Name "range" p) [a, b] [] pos) (tIt C W (iRg rg2 t')) := by
  refine PI.imp (pi_range2 hg hm ha hs hs2) fun σ H Q h => ?_
  obtain ⟨ρ, M, env, rh, re, p⟩ := h
  refine ⟨ρ, M, env, rh, re, p.bind.imp (fun ds M1 ρ1 H1 e1 rh1 p2 vs rvs => ?_) (fun _ _ _ _ _ _ q => q)⟩
  unfold rg2 at p2
  split at p2
  · obtain ⟨v, w, rfl, r1, r2⟩ := two_rv rvs
    rw [rv_int] at r1 r2
    subst r1; subst r2
    split at p2
    · rename_i i j hj
      rw [Bool.and_eq_true] at hj
      have h1 := in62_le hj.1
      have h2 := in62_le hj.2
      exact ⟨_, _, rfl, ⟨h1.1, h1.2, h2.1, h2.2⟩, p2.now rh1 _ itok_rng⟩
    · exact p2.elim
  · exact p2.elim
theorem mi_range3 {tg a b c : Expr} {t' : Fa} {p pos : Pos} (hm : X.mg "range" = none) (ha : PA X [a, b, c] (tA C W t')) (hg : Gl X "range" := by rfl) (hs : starEach [a, b, c] X.env = (false, eval a X.env) :: starEach [b, c] X.env := by rfl) (hpl : (backTo pos (starEach [b, c] X.env)).any (·.1) = false := by rfl) :
    PI X tg (.Call (.Name "range" p) [a, b, c] [] pos) (tIt C W (iRg rg3 t')) := by
  refine PI.imp (pi_range3 hg hm ha hs hpl) fun σ H Q h => ?_
  obtain ⟨ρ, M, env, rh, re, p⟩ := h
  refine ⟨ρ, M, env, rh, re, p.bind.imp (fun ds M1 ρ1 H1 e1 rh1 p2 vs rvs => ?_) (fun _ _ _ _ _ _ q => q)⟩
  unfold rg3 at p2
  split at p2
  · rw [rvs_cons] at rvs
    obtain ⟨u, t, rfl, r0, rvs⟩ := rvs
    obtain ⟨v, w, rfl, r1, r2⟩ := two_rv rvs
    rw [rv_int] at r0 r1 r2
    subst r0; subst r1; subst r2
    split at p2
    · rename_i i j k hj
      simp only [Bool.and_eq_true, decide_eq_true_eq] at hj
      obtain ⟨⟨⟨a1, a2⟩, b1⟩, c1⟩ := hj
      exact ⟨_, _, _, (Builtin.Range.rangeSize i j k).toNat, rfl, ⟨a1, a2, b1, by omega⟩, p2.now rh1 _ itok_rngC⟩
    · exact p2.elim
  · exact p2.elim
end
end Mi
set_option maxRecDepth 100000
/-! A text's defs, all together; the law's end. -/
namespace Mi
open PySem PySem.Spec PyProof.Rows L2
/-- a def of the text, where it stands -/
structure Ent where
  x : Str
  st : Stmt
  N : List Str
  ps : List Str
  fa : Addr
  fd : FuncData
section
variable (C : Cfg) (P : Program) (w : World) (K : PySem.W.Frag) (mg : Str → Option Value) (base : Heap)
/-- what a body may lean on -/
structure Cl (ent : Nat → Option Ent) (A : Around) (G : Ga) : Prop where
  call : ∀ f e, ent f = some e → Call1 C P w K mg base A G f e.fa
  room : Room 2 A
abbrev Ctx (e : Ent) (cdv : Value) (A : Around) (outer : List PySem.Env) (s : Shared) (H : Hp) (E : XK) : Cx :=
  Bx P w K mg base e.N e.x (defScope e.st) e.fa cdv A outer s H E
/-- e's body does what d says -/
def BodyOk (ent : Nat → Option Ent) (e : Ent) (d : Df) : Prop := ∀ (G : Ga) (cdv : Value) (A : Around) (outer : List PySem.Env) (s : Shared) (H : Hp) (E : XK),
  Cl C P w K mg base ent (Ctx P w K mg base e cdv A outer s H E).A G → PSs (Ctx P w K mg base e cdv A outer s H E) (defBody e.st) (tS C (WB E) (d.bd G))
structure EntOk (ent : Nat → Option Ent) (e : Ent) (d : Df) : Prop where
  fn : Fun K e.x e.x e.st e.fa e.fd
  sc : FnScope e.N e.ps (defScope e.st)
  np : d.np = e.ps.length
  ns : d.ns = e.N.length
  bi : Binds K e.fd e.ps []
  bd : BodyOk C P w K mg base ent e d
end
section
variable {C : Cfg} {P : Program} {w : World} {K : PySem.W.Frag} {mg : Str → Option Value} {base : Heap}
theorem Call1.of {A : Around} {G : Ga} {f k : Nat} {e : Ent} (F : FnOk P w K mg base (L2.CX P w) k e.fa e.fd e.ps (spF C G e.ps.length f)) (hl : ∀ ds M, ds.length ≠ e.ps.length → G f ds M = .bad) (hr : Room k A) (hb : Binds K e.fd e.ps []) (hk : PySem.W.keepIn K (.ref e.fa) = true) :
    Call1 C P w K mg base A G f e.fa := ⟨⟨e.ps.length, hl, k, e.fd, e.ps, F, hr, hb⟩, hk⟩
theorem run_np {tab : Nat → Option Df} {f : Nat} {d : Df} {np : Nat} (h : tab f = some d) (hn : d.np = np) : ∀ (n : Nat) (ds : List MV) (M : Hm), ds.length ≠ np → run tab n f ds M = .bad
  | 0, _, _, _ => rfl
  | n + 1, ds, M, hl => by
    show (match tab f with
      | some d => callD d (run tab n) ds M
      | none => .bad) = _
    rw [h]
    show callD d _ ds M = _
    unfold callD
    rw [if_neg (by rw [hn]; exact hl)]
theorem all_ok {ent : Nat → Option Ent} {tab : Nat → Option Df} (h : ∀ f e, ent f = some e → ∃ d, tab f = some d ∧ EntOk C P w K mg base ent e d) :
    ∀ n f e, ent f = some e → FnOk P w K mg base (L2.CX P w) (n + 2) e.fa e.fd e.ps (spF C (run tab n) e.ps.length f)
  | 0, f, e, _ => ⟨fun vs H Q E q => q.1, fun A outer s H args us vs Q E hr he hb hv hs => by
      obtain ⟨_, ρ, M, ds, _, _, p⟩ := hs
      exact p.elim⟩
  | n + 1, f, e, he => by
    obtain ⟨d, hd, O⟩ := h f e he
    refine fn_mi (G := run tab n) (d := d) O.fn O.sc ⟨O.np, O.ns⟩ (fun ds M => ?_) fun cdv A outer s H E hr => ?_
    · show (match tab f with
        | some d => callD d (run tab n) ds M
        | none => .bad) = _
      rw [hd]
    · refine O.bd (run tab n) cdv A outer s H E ⟨fun g e' he' => ?_, hr.mono (Nat.le_add_left 2 n)⟩
      obtain ⟨d', hd', O'⟩ := h g e' he'
      exact Call1.of (all_ok h n g e' he') (run_np hd' O'.np n) hr O'.bi O'.fn.kp

/-! ### the law -/
/-- the law's promise: of any list of at most 63 numbers -/
def spLaw (K : PySem.W.Frag) : Sp := fun vs H Q _ => ∃ (a : Addr) (ns : List Int), vs = [.ref a] ∧ FzL K H a (ns.map V.int) ∧ ns.length ≤ 63 ∧ (∀ z ∈ ns, Builtin.Int.intBits z ≤ 1048576) ∧ ∀ H', Q (.bl true) H'
theorem rvs_ints {H : Hp} {ρ : List Addr} : ∀ ns : List Int, RVs K H ρ (ns.map MV.int) (ns.map V.int)
  | [] => by simp [RVs]
  | n :: ns => by
    rw [List.map_cons, List.map_cons]
    unfold RVs
    exact ⟨_, _, rfl, by unfold RV; rfl, rvs_ints ns⟩
/-- what a law has to keep -/
def Keeps (tab : Nat → Option Df) (n f : Nat) : Prop := ∀ ns : List Int, ns.length ≤ 63 → (∀ z ∈ ns, Builtin.Int.intBits z ≤ 1048576) → ∃ M, run tab n f [.rol (ns.map MV.int)] [] = .ok (.bl true) M
theorem law_ok {tab : Nat → Option Df} {n f k : Nat} {fa : Addr} {fd : FuncData} {x : Str} (hk : Keeps tab n f) (F : FnOk P w K mg base (L2.CX P w) k fa fd [x] (spF C (run tab n) 1 f)) (hK : C.K = K) : FnOk P w K mg base (L2.CX P w) k fa fd [x] (spLaw K) := by
  refine F.imp fun vs H Q E h => ?_
  obtain ⟨a, ns, rfl, hF, hl, hb, q⟩ := h
  obtain ⟨M, e⟩ := hk ns hl hb
  refine ⟨rfl, [], [], [.rol (ns.map MV.int)], ?_, ?_, ?_⟩
  · exact ⟨rfl, List.nodup_nil, fun i o h => by simp at h⟩
  · rw [hK]
    unfold RVs
    refine ⟨_, _, rfl, ?_, by unfold RVs; rfl⟩
    unfold RV
    exact ⟨a, _, rfl, hF, rvs_ints ns⟩
  · rw [e]
    intro ρ' H' e' rh' v rv
    have : v = .bl true := by unfold RV at rv; exact rv
    rw [this]
    exact q H'
theorem fz_of {H : Hp} {a : Addr} {xs : List V} (hO : Only H) (h : SqL K H a xs) : FzL K H a xs := by
  rcases h with h | h
  · rcases h with h | ⟨o, h⟩
    · rcases hO a with z | ⟨o, ys, z⟩
      · rw [z] at h; cases h
      · rw [z] at h; cases h
    · exact .inl ⟨o, h⟩
  · exact .inr h
/-- the law's end -/
theorem walk_mi {l : PySem.W.OpenLaw} {k : Nat} {q : Program} {loose : List Str} {XP : (Str → Option Value) → Heap → Prop} {YP : World → Heap → Prop} {d : DefRec} {K : Params → PySem.W.Frag} {x : Str}
    (hn : l.most = some 63) (hdf : d.params.defaults = []) (hr : Room k callerA)
    (hY : ∀ (w : World) (h : Heap), YP w h → (K w.params).In h)
    (F : ∀ (w : World) (mg : Str → Option Value) (fa : Addr) (h : Heap), (K w.params).In h → h.Ns mainGlobals mg → XP mg h → mg d.name = some (.ref fa) →
      ∃ fd : FuncData, (∀ (s : Shared) (u : Value), BindsTo s fd ⟨[u], []⟩ [(x, u)]) ∧
        ∀ base : Heap, (K w.params).In base → base.Ns mainGlobals mg → FnOk l.prog w (K w.params) mg base (L2.CX l.prog w) k fa fd [x] (spLaw (K w.params))) :
    PySem.W.WalkO q loose XP YP l.row.toRowW d [] (fun f vs => PySem.call f vs) := by
  refine Att.attach_callB hn hdf fun w s₀ s₁ mg mb fa o pm cd doc a vs ns G Y ho hd hcd hmg hobj hints hlen hbits hg => ?_
  have KX := hY w _ Y
  obtain ⟨fd, hb, hF⟩ := F w mg fa _ KX G.T.g G.X hmg
  refine law_call KX G.T.g G.T.b G.T.builtins G.T.nolimit hg hobj hints (Nat.le_trans hlen (by decide)) hr hF hb (fun H hO hS => ⟨a, ns, rfl, fz_of hO hS, hlen, hbits, fun _ => rfl⟩) fun H e s' => ?_
  exact fun ⟨_, _, _, _, _, _, _, _, _, _, _, _, z⟩ => z
end
end Mi
set_option maxRecDepth 100000
/-! Further constructs. -/
namespace Mi
open PySem PySem.Spec PyProof.Rows L2
/-- a store o[i] = d into a list -/
def fSetL : MV → MV → MV → Hm → R MV
  | .ref k, .int i, d, M => match M[k]? with
    | some (.lst l) => (match ixN l.length i with
      | some j => .ok .non (M.set k (.lst (l.set j d)))
      | none => .bad)
    | _ => .bad
  | _, _, _, _ => .bad
/-- the target o[i] -/
def gIx (f : MV → MV → MV → Hm → R MV) (a b : Fe) : Ftg := fun d env M => (a env M).bindN fun x M1 => (b env M1).bindN fun y M2 => (f x y d M2).bindN fun _ M3 => .ok env M3
section
variable {X : Cx} {C : Cfg} {W : WX}
theorem mg_ixL {a b : Expr} {a' b' : Fe} {vs : List Nat} {pos : Pos} (ha : PE X a (tE C W0 a')) (hb : PE X b (tE C W0 b'))
    (hs : ∀ v, assign (.Subscript a b pos) X.env v = (do
      let ov ← holding [v] (eval a X.env)
      let iv ← holding [v, ov] (eval b X.env)
      standAt pos
      holding [v, ov, iv] (setItem ov iv v)
      release [v, ov, iv] []) := by intro _; rfl) : PG X (.Subscript a b pos) (tGt C vs (gIx fSetL a' b')) := by
  refine PG.imp (pg_sub ha hb set_list hs) fun v σ H Q h => ?_
  obtain ⟨ρ, M, env, d, G, rh, re, rv, p⟩ := h
  refine ⟨ρ, M, env, rh, re, p.bindN.imp (fun x M1 ρ1 H1 e1 rh1 p2 o ro => ?_) (fun _ _ _ _ _ _ z => z.elim)⟩
  refine ⟨ρ1, M1, env, rh1, re.mono e1, p2.bindN.imp (fun y M2 ρ2 H2 e2 rh2 p3 i ri => ?_) (fun _ _ _ _ _ _ z => z.elim)⟩
  have p4 := p3.bindN
  have rv2 := (rv.mono e1).mono e2
  have ro2 := ro.mono e2
  have re2 := (re.mono e1).mono e2
  unfold fSetL at p4
  split at p4
  · rw [rv_ref] at ro2; rw [rv_int] at ri; subst ri
    obtain ⟨a, ha, rfl⟩ := ro2
    split at p4
    · rename_i l hm
      obtain ⟨xs, q1, q2⟩ := rh2.at hm ha
      split at p4
      · rename_i j hj
        refine ⟨a, xs, _, j, rfl, rfl, q1, by rw [q2.len]; exact hj, ?_⟩
        obtain ⟨o, hm, ro⟩ := rh2.there ha
        obtain ⟨u, hu, mu⟩ := ro.mut
        have e : Ext C.K ρ2 ρ2 H2 (upd H2 a (.lst (xs.set j v))) := Ext.wr (C := C) hu mu (List.mem_of_getElem? ha)
        have rh3 := rh2.set (ob := .lst (_ : List MV)) ha ⟨xs.set j v, upd_same, (q2.set j rv2).mono e⟩
        exact (p4 _ _ e rh3).now rh3 σ (re2.mono e) rfl
      · exact p4.elim
    · exact p4.elim
  · exact p4.elim
/-! ### what is walked, of any kind -/
theorem PI.cases {tg l : Expr} {l' : Fe} {f : Fi} (hC : C.K = X.K) (hl : PE X l (tE C W l')) (h : ∀ env M, (f env M = iL l' env M) ∨ (f env M = iT l' env M) ∨ (f env M = iS l' env M)) : PI X tg l (tIt C W f) :=
  ⟨fun pins s σ H R I q => by
    obtain ⟨ρ, M, env, rh, re, p⟩ := q
    rcases h env M with e | e | e
    · exact (mi_list hC hl).run pins s σ H R I ⟨ρ, M, env, rh, re, by rw [← e]; exact p⟩
    · exact (mi_tup hC hl).run pins s σ H R I ⟨ρ, M, env, rh, re, by rw [← e]; exact p⟩
    · exact (mi_str hl).run pins s σ H R I ⟨ρ, M, env, rh, re, by rw [← e]; exact p⟩⟩
/-- a list, a tuple, a text -/
def iA (a : Fe) : Fi := fun env M => (a env M).bind fun x M1 => match x with
  | .ref i => match M1[i]? with
    | some (.lst l) => .ok (nL i, l.length + 1) M1
    | _ => .bad
  | .rol l => .ok (nT l, l.length + 1) M1
  | .tup l => .ok (nT l, l.length + 1) M1
  | .str s => .ok (nT (s.map fun c => .str [c]), s.length + 1) M1
  | _ => .bad
theorem mi_any {tg l : Expr} {l' : Fe} (hC : C.K = X.K) (hl : PE X l (tE C W l')) : PI X tg l (tIt C W (iA l')) := PI.cases hC hl fun env M => by
  unfold iA iL iT iS
  cases l' env M with
  | ok d M1 => cases d <;> first | exact .inl rfl | exact .inr (.inl rfl) | exact .inr (.inr rfl)
  | exc x M1 => exact .inl rfl
  | bad => exact .inl rfl
/-! ### x += y -/
def fIAdd : MV → MV → Hm → R MV
  | .int i, .int j, M => .ok (.int (i + j)) M
  | .str s, .str t, M => if s.length + t.length ≤ SL then .ok (.str (s ++ t)) M else .bad
  | _, _, _ => .bad
def rIAdd : R2 := fun x y H Q => (∃ i j, x = .int i ∧ y = .int j ∧ Q (.int (i + j)) H) ∨ ∃ i j, x = .str i ∧ y = .str j ∧ i.length + j.length ≤ sizeLine ∧ Q (.str (i ++ j)) H
theorem inp_addM : OpR X (inplaceOp .Add) rIAdd := fun pins s σ H x y v u Q I rx ry h => by
  rcases h with ⟨i, j, h1, h2, h3⟩ | h
  · exact iop_add pins s σ H x y v u Q I rx ry ⟨i, j, h1, h2, h3⟩
  · exact iop_add_str pins s σ H x y v u Q I rx ry h
theorem sim_inpAdd {C : Cfg} : Sim2 C fIAdd rIAdd := by
  intro ρ H M d e x y Q G rh rx ry p
  unfold fIAdd at p
  split at p
  · rw [rv_int] at rx ry; subst rx; subst ry
    exact .inl ⟨_, _, rfl, rfl, p.val rh (rv_int.mpr rfl)⟩
  · rw [rv_str] at rx ry; subst rx; subst ry
    split at p
    · rename_i hl
      exact .inr ⟨_, _, rfl, rfl, by rw [T_len, T_len, sizeLine_eq]; exact hl, p.val rh (rv_str.mpr (congrArg V.str (T_app _ _)))⟩
    · exact p.elim
  · exact p.elim
theorem inp_sub : OpR X (inplaceOp .Sub) (rI0 fun i j => .int (i - j)) := iop_sub
end

/-! ### the facts of a text -/
/-- the def st stands at f -/
def FunAt (K : PySem.W.Frag) (x : Str) (st : Stmt) (f : Addr) : Prop := PySem.W.nsIn K mainGlobals x = some (some (.ref f)) ∧ ∃ fd, Fun K x x st f fd
theorem fun_at {K : PySem.W.Frag} {x : Str} {st : Stmt} {f : Addr} {oc : Value} {od an : Option Addr} {osl : Array (Option Value)} {kV doc pm cdv ct : Value} (a : PySem.W.nsIn K mainGlobals x = some (some (.ref f)))
    (l : K.lookup f = some ⟨oc, od, .func (PySem.W.fnOf x x (defArgs st) (defBody st) (defScope st) .none kV doc pm an cdv ct), osl⟩)
    (c : PySem.W.codeIn K cdv x = true) (k : PySem.W.keepIn K (.ref f) = true) : ∃ f, FunAt K x st f := ⟨f, a, _, fun_mk l c k⟩
theorem bind1 {K : PySem.W.Frag} {x p : Str} {st : Stmt} {f : Addr} {fd : FuncData} (F : Fun K x x st f fd)
    (h : ∀ (kV doc pm : Value) (an : Option Addr) (cdv ct : Value) (u : Value), bindArgs (PySem.W.fnOf x x (defArgs st) (defBody st) (defScope st) .none kV doc pm an cdv ct) ⟨[u], []⟩ = pure [(p, u)]) (s : Shared) (u : Value) : BindsTo s fd ⟨[u], []⟩ [(p, u)] := by
  obtain ⟨⟨oc, od, kV, doc, pm, an, cdv, ct, osl, rfl, lk, hcd⟩, _⟩ := F
  exact .of_eq (h kV doc pm an cdv ct u)
/-- a constant of the module -/
def ConstAt (K : PySem.W.Frag) (mg : Str → Option Value) (x : Str) (d : MV) : Prop := ∃ v u, mg x = some u ∧ RelV v u ∧ ∀ H ρ, RV K H ρ d v
theorem const_int {K : PySem.W.Frag} {h : Heap} {mg : Str → Option Value} {x : Str} {i : Int} {t : Nat} (X : K.In h) (G : h.Ns mainGlobals mg) (a : PySem.W.nsIn K mainGlobals x = some (some (.int i t))) : ConstAt K mg x (.int i) :=
  ⟨.int i, .int i t, PySem.W.mg_of X G a, ⟨t, rfl⟩, fun _ _ => rv_int.mpr rfl⟩
theorem const_str {K : PySem.W.Frag} {h : Heap} {mg : Str → Option Value} {x z : Str} {l : Tx} {t : Nat} (X : K.In h) (G : h.Ns mainGlobals mg) (a : PySem.W.nsIn K mainGlobals x = some (some (.str z t))) (e : z = T l) : ConstAt K mg x (.str l) :=
  ⟨.str z, .str z t, PySem.W.mg_of X G a, ⟨t, rfl⟩, fun _ _ => rv_str.mpr (by rw [e])⟩
theorem const_loose {K : PySem.W.Frag} {h : Heap} {mg : Str → Option Value} {p : Program} {lv : List (Str × PySem.W.WData)} {x : Str} {i : Int} (X : PySem.W.XL p lv mg h) (m : (x, PySem.W.WData.int i) ∈ lv) : ConstAt K mg x (.int i) := by
  obtain ⟨v, h1, h2⟩ := X.2.val _ m
  have h2 : PySem.W.ReadsLit h v (.int i) [] := h2
  cases h2 with
  | int i t => exact ⟨.int i, .int i t, h1, ⟨t, rfl⟩, fun _ _ => rv_int.mpr rfl⟩
/-- isinstance with an own class -/
theorem kit_ref {K : PySem.W.Frag} {C : Addr} {cls : Value} {b : Bool} (hs : cls = .ref C → b = true) (hdct : PySem.W.hasDictIn K C = true) (ht : PySem.W.typeIn K (.ref C) = some (.type "type")) (h4 : PySem.W.subIn K cls (.ref C) = some b) : PySem.W.kitOne K cls (.ref C) = some b := by
  unfold PySem.W.kitOne
  by_cases e : cls = .ref C
  · rw [if_pos (by rw [e]; exact beq_self_eq_true _), hs e]
  · rw [if_neg (fun z => e (beq_iff_eq.mp z))]
    have hc : (PySem.W.clsIn K C).isSome = true := by
      unfold PySem.W.hasDictIn at hdct
      cases q : PySem.W.clsIn K C with
      | none => rw [q] at hdct; cases hdct
      | some c => rfl
    show (if ((PySem.W.clsIn K C).isSome && PySem.W.typeIn K (.ref C) == some (.type "type")) = true then PySem.W.subIn K cls (.ref C) else none) = some b
    rw [hc, ht, if_pos (by decide)]
    exact h4
end Mi
set_option maxRecDepth 100000
/-! Dicts. -/
namespace Mi
open PySem PySem.Spec PyProof.Rows L2
/-- like keys: numbers, texts -/
def kEq : MV → MV → Bool
  | .int i, .int j => decide (i = j)
  | .str s, .str t => decide (s = t)
  | _, _ => false
def isKey : MV → Bool
  | .int _ => true
  | .str _ => true
  | _ => false
def getD (l : List (MV × MV)) (k : MV) : Option MV := (l.find? fun p => kEq p.1 k).map (·.2)
def putD (l : List (MV × MV)) (k d : MV) : List (MV × MV) := if l.any (fun p => kEq p.1 k) then l.map (fun p => if kEq p.1 k then (p.1, d) else p) else l ++ [(k, d)]
theorem key_is {k : MV} (h : isKey k = true) : ∃ k', keyM k = some k' := by
  cases k with
  | int i => exact ⟨_, rfl⟩
  | str s => exact ⟨_, rfl⟩
  | _ => cases h
theorem kEq_iff {j k : MV} {j' k' : Key} (hj : keyM j = some j') (hk : keyM k = some k') : kEq j k = decide (j' = k') := by
  cases j <;> cases k <;> simp only [keyM] at hj hk <;> cases hj <;> cases hk
  · simp [kEq]
  · simp [kEq]
  · simp [kEq]
  · rename_i s t
    simp only [kEq]
    by_cases h : s = t
    · subst h; simp
    · have : ¬ T s = T t := fun z => h (T_inj z)
      simp [h, this]
theorem key_rv {K : PySem.W.Frag} {H : Hp} {ρ : List Addr} {k : MV} {k' : Key} {v : V} (h : keyM k = some k') (r : RV K H ρ k v) : v = kV k' := by
  cases k <;> simp only [keyM] at h <;> cases h
  · rw [rv_int] at r; exact r
  · rw [rv_str] at r; exact r
section
variable {K : PySem.W.Frag} {H : Hp} {ρ : List Addr}
theorem RK.len : ∀ {l : List (MV × MV)} {ks : List (Key × V)}, RK K H ρ l ks → ks.length = l.length
  | [], ks, h => by unfold RK at h; subst h; rfl
  | (k, d) :: r, ks, h => by
    unfold RK at h
    obtain ⟨k', v, t, rfl, _, _, h4⟩ := h
    simp [RK.len h4]
theorem RK.get {k : MV} {k' : Key} (hk : keyM k = some k') : ∀ {l : List (MV × MV)} {ks : List (Key × V)}, RK K H ρ l ks → (match getD l k with | some d => ∃ v, valV ks k' = some v ∧ RV K H ρ d v | none => valV ks k' = none)
  | [], ks, h => by unfold RK at h; subst h; rfl
  | (j, d) :: r, ks, h => by
    unfold RK at h
    obtain ⟨j', v, t, rfl, h2, h3, h4⟩ := h
    have ih := RK.get hk h4
    have e := kEq_iff h2 hk
    by_cases hj : j' = k'
    · rw [decide_eq_true hj] at e
      have : getD ((j, d) :: r) k = some d := by simp [getD, List.find?_cons, e]
      rw [this]
      exact ⟨v, valV_pos hj, h3⟩
    · rw [decide_eq_false hj] at e
      have : getD ((j, d) :: r) k = getD r k := by simp [getD, List.find?_cons, e]
      rw [this, valV_neg hj]
      exact ih
theorem RK.any {k : MV} {k' : Key} (hk : keyM k = some k') : ∀ {l : List (MV × MV)} {ks : List (Key × V)}, RK K H ρ l ks → (ks.any fun kv => decide (kv.1 = k')) = l.any fun p => kEq p.1 k
  | [], ks, h => by unfold RK at h; subst h; rfl
  | (j, d) :: r, ks, h => by
    unfold RK at h
    obtain ⟨j', v, t, rfl, h2, h3, h4⟩ := h
    rw [List.any_cons, List.any_cons, RK.any hk h4, kEq_iff h2 hk]
theorem RK.map {k d : MV} {k' : Key} {v : V} (hk : keyM k = some k') (rd : RV K H ρ d v) : ∀ {l : List (MV × MV)} {ks : List (Key × V)}, RK K H ρ l ks → RK K H ρ (l.map fun p => if kEq p.1 k then (p.1, d) else p) (ks.map fun kv => if kv.1 = k' then (kv.1, v) else kv)
  | [], ks, h => by unfold RK at h; subst h; unfold RK; rfl
  | (j, d0) :: r, ks, h => by
    unfold RK at h
    obtain ⟨j', v0, t, rfl, h2, h3, h4⟩ := h
    rw [List.map_cons, List.map_cons]
    have e := kEq_iff h2 hk
    by_cases hj : j' = k'
    · rw [decide_eq_true hj] at e
      simp only [e, if_true, hj]
      unfold RK
      exact ⟨k', v, _, rfl, by rw [h2, hj], rd, RK.map hk rd h4⟩
    · rw [decide_eq_false hj] at e
      simp only [e, hj]
      unfold RK
      exact ⟨j', v0, _, rfl, h2, h3, RK.map hk rd h4⟩
theorem RK.snoc {k d : MV} {k' : Key} {v : V} (hk : keyM k = some k') (rd : RV K H ρ d v) : ∀ {l : List (MV × MV)} {ks : List (Key × V)}, RK K H ρ l ks → RK K H ρ (l ++ [(k, d)]) (ks ++ [(k', v)])
  | [], ks, h => by
    unfold RK at h; subst h
    show RK K H ρ [(k, d)] [(k', v)]
    unfold RK
    exact ⟨k', v, [], rfl, hk, rd, by unfold RK; rfl⟩
  | (j, d0) :: r, ks, h => by
    unfold RK at h
    obtain ⟨j', v0, t, rfl, h2, h3, h4⟩ := h
    show RK K H ρ ((j, d0) :: (r ++ [(k, d)])) ((j', v0) :: (t ++ [(k', v)]))
    unfold RK
    exact ⟨j', v0, _, rfl, h2, h3, RK.snoc hk rd h4⟩
theorem RK.put {k d : MV} {k' : Key} {v : V} {l : List (MV × MV)} {ks : List (Key × V)} (hk : keyM k = some k') (rd : RV K H ρ d v) (h : RK K H ρ l ks) : RK K H ρ (putD l k d) (putK ks k' v) := by
  unfold putD putK
  rw [h.any hk]
  split
  · exact h.map hk rd
  · exact h.snoc hk rd
end
/-! ### d[k], k in d -/
theorem Post.impE {α : Type} {C : Cfg} {ρ : List Addr} {H : Hp} {r : R α} {F F' : α → Hm → List Addr → Hp → Prop} {G G' : MX → Hm → List Addr → Hp → Prop} (p : Post C ρ H r F G) (h : ∀ a M ρ' H', r = .ok a M → Ext C.K ρ ρ' H H' → RH C ρ' H' M → F a M ρ' H' → F' a M ρ' H')
    (g : ∀ x M ρ' H', Ext C.K ρ ρ' H H' → RH C ρ' H' M → G x M ρ' H' → G' x M ρ' H') : Post C ρ H r F' G' := by
  cases r with
  | ok a M => exact fun ρ' H' e rh => h a M ρ' H' rfl e rh (p ρ' H' e rh)
  | exc x M => exact fun ρ' H' e rh => g x M ρ' H' e rh (p ρ' H' e rh)
  | bad => exact p
def fIxA (x y : MV) (M : Hm) : R MV := match x with
  | .ref k => (match M[k]? with
    | some (.dic l) => if isKey y then (match getD l y with
      | some d => .ok d M
      | none => .bad) else .bad
    | _ => fIx x y M)
  | _ => fIx x y M
section
variable {X : Cx} {C : Cfg} {W : WX}
theorem fIxA_not {x y : MV} {M : Hm} (h : ∀ k l, x = .ref k → M[k]? ≠ some (.dic l)) : fIxA x y M = fIx x y M := by
  unfold fIxA
  cases x with
  | ref k =>
    show (match M[k]? with
      | some (.dic l) => if isKey y then (match getD l y with
        | some d => R.ok d M
        | none => R.bad) else R.bad
      | _ => fIx (.ref k) y M) = _
    cases hm : M[k]? with
    | none => rfl
    | some o =>
      cases o with
      | dic l => exact absurd hm (h k l rfl)
      | _ => rfl
  | _ => rfl
theorem m_ixA {a b : Expr} {a' b' : Fe} {pos : Pos} (hu : X.A.units + 64 < cLine) (hC : C.K = X.K) (ha : PE X a (tE C W a')) (hb : PE X b (tE C W b')) (hs : PlainIx b := by intro _ _; rfl) (hs2 : NoSl b := by intro _ _; rfl) : PE X (.Subscript a b pos) (tE C W (eOp fIxA a' b')) := ⟨fun pins s σ H Q I h => by
  obtain ⟨ρ, M, env, rh, re, p⟩ := h
  by_cases hd : ∃ M1 y M2 k l, a' env M = .ok (.ref k) M1 ∧ b' env M1 = .ok y M2 ∧ M2[k]? = some (.dic l)
  · obtain ⟨M1, y, M2, k, l, h1, h2, h3⟩ := hd
    refine (pe_dget (by omega) ha hb hs2).run pins s σ H Q I ⟨ρ, M, env, rh, re, p.bind.impE (fun d M1' ρ1 H1 q1 e1 rh1 p2 v rv => ?_) (fun _ _ _ _ _ _ q => q)⟩
    rw [h1] at q1
    cases q1
    refine ⟨ρ1, M1, env, rh1, re.mono e1, p2.bind.impE (fun y' M2' ρ2 H2 q2 e2 rh2 p3 w rw_ => ?_) (fun _ _ _ _ _ _ q => q)⟩
    rw [h2] at q2
    cases q2
    have rv := rv.mono e2
    rw [rv_ref] at rv
    obtain ⟨ad, hra, rfl⟩ := rv
    obtain ⟨ks, q1, q2⟩ := rh2.at h3 hra
    unfold fIxA at p3
    simp only [h3] at p3
    split at p3
    · rename_i hk
      obtain ⟨k', hk'⟩ := key_is hk
      have hg := RK.get hk' q2
      split at p3
      · rename_i d hd
        rw [hd] at hg
        obtain ⟨v, hv, rv2⟩ := hg
        refine ⟨ad, v, rfl, ?_, p3.val rh2 rv2⟩
        rw [key_rv hk' rw_, ← hv]
        exact DGet.k q1
      · exact p3.elim
    · exact p3.elim
  · refine (m_ix hC ha hb hs).run pins s σ H Q I ⟨ρ, M, env, rh, re, ?_⟩
    have e : eOp fIxA a' b' env M = eOp fIx a' b' env M := by
      unfold eOp
      cases h1 : a' env M with
      | ok d M1 =>
        show (b' env M1).bind _ = (b' env M1).bind _
        cases h2 : b' env M1 with
        | ok y M2 => exact fIxA_not fun k l hx hm => hd ⟨M1, y, M2, k, l, by rw [h1, hx], h2, hm⟩
        | _ => rfl
      | _ => rfl
    rw [← e]
    exact p⟩
/-- x in y, y of any kind -/
def fInGA (g : Bool → Bool) (x y : MV) (M : Hm) : R MV := match y with
  | .ref k => (match M[k]? with
    | some (.dic l) => if isKey x then .ok (.bl (g (getD l x).isSome)) M else .bad
    | _ => fInG g x y M)
  | _ => fInG g x y M
abbrev fInA := fInGA id
abbrev fNotInA := fInGA not
theorem fInA_not {g : Bool → Bool} {x y : MV} {M : Hm} (h : ∀ k l, y = .ref k → M[k]? ≠ some (.dic l)) : fInGA g x y M = fInG g x y M := by
  unfold fInGA
  cases y with
  | ref k =>
    show (match M[k]? with
      | some (.dic l) => if isKey x then R.ok (MV.bl (g (getD l x).isSome)) M else R.bad
      | _ => fInG g x (.ref k) M) = _
    cases hm : M[k]? with
    | none => rfl
    | some o =>
      cases o with
      | dic l => exact absurd hm (h k l rfl)
      | _ => rfl
  | _ => rfl
theorem eOp_not {g : Bool → Bool} {a' b' : Fe} {env : Env} {M : Hm} (hd : ¬ ∃ M1 x M2 k l, a' env M = .ok x M1 ∧ b' env M1 = .ok (.ref k) M2 ∧ M2[k]? = some (.dic l)) : eOp (fInGA g) a' b' env M = eOp (fInG g) a' b' env M := by
  unfold eOp
  cases h1 : a' env M with
  | ok d M1 =>
    show (b' env M1).bind _ = (b' env M1).bind _
    cases h2 : b' env M1 with
    | ok y M2 => exact fInA_not fun k l hx hm => hd ⟨M1, d, M2, k, l, h1, by rw [h2, hx], hm⟩
    | _ => rfl
  | _ => rfl
/-- the reading of k in d from the small language's -/
theorem din_read {g : Bool → Bool} {a' b' : Fe} {σ : L2.St} {H : Hp} {Q : VK} {ρ : List Addr} {M : Hm} {env : Env} {G : MX → Hm → List Addr → Hp → Prop} (rh : RH C ρ H M) (re : RE C.K H ρ env σ) (hd : ∃ M1 x M2 k l, a' env M = .ok x M1 ∧ b' env M1 = .ok (.ref k) M2 ∧ M2[k]? = some (.dic l))
    (p : Post C ρ H (eOp (fInGA g) a' b' env M) (Fv C Q) G) (hG : ∀ x M' ρ' H', Ext C.K ρ ρ' H H' → RH C ρ' H' M' → G x M' ρ' H' → ∀ cls dd, RX C H' ρ' x cls dd → W cls dd σ H') :
    tE C W a' σ H fun y H1 => tE C W b' σ H1 fun x H2 => ∃ a o, x = .ref a ∧ DGet H2 a y o ∧ Q (.bl (g o.isSome)) H2 := by
  obtain ⟨M1, x, M2, k, l, h1, h2, h3⟩ := hd
  have p : Post C ρ H ((a' env M).bind fun x M1 => (b' env M1).bind fun y M2 => fInGA g x y M2) (Fv C Q) (fun x M' ρ' H' => ∀ cls dd, RX C H' ρ' x cls dd → W cls dd σ H') := p.imp (fun _ _ _ _ _ _ q => q) hG
  refine ⟨ρ, M, env, rh, re, p.bind.impE (fun d M1' ρ1 H1 q1 e1 rh1 p2 v rv => ?_) (fun _ _ _ _ _ _ q => q)⟩
  rw [h1] at q1
  cases q1
  refine ⟨ρ1, M1, env, rh1, re.mono e1, p2.bind.impE (fun y' M2' ρ2 H2 q2 e2 rh2 p3 w rw_ => ?_) (fun _ _ _ _ _ _ q => q)⟩
  rw [h2] at q2
  cases q2
  rw [rv_ref] at rw_
  obtain ⟨ad, hra, rfl⟩ := rw_
  obtain ⟨ks, q1, q2⟩ := rh2.at h3 hra
  unfold fInGA at p3
  simp only [h3] at p3
  split at p3
  · rename_i hk
    obtain ⟨k', hk'⟩ := key_is hk
    have hg := RK.get hk' q2
    refine ⟨ad, valV ks k', rfl, ?_, ?_⟩
    · rw [key_rv hk' (rv.mono e2)]
      exact DGet.k q1
    · have e : (valV ks k').isSome = (getD l x).isSome := by
        cases hx : getD l x with
        | none => rw [hx] at hg; rw [hg]; rfl
        | some d => rw [hx] at hg; obtain ⟨v, hv, _⟩ := hg; rw [hv]; rfl
      rw [e]
      exact p3.val rh2 (rv_bl.mpr rfl)
  · exact p3.elim
theorem m_inA {a b : Expr} {a' b' : Fe} {pos : Pos} (hu : X.A.units + 64 < cLine) (hC : C.K = X.K) (ha : PE X a (tE C W a')) (hb : PE X b (tE C W b')) (hm : behindInMarks .In b = false := by first | exact nomark _ | rfl) : PE X (.Compare a [.In] [b] pos) (tE C W (eOp fInA a' b')) := ⟨fun pins s σ H Q I h => by
  obtain ⟨ρ, M, env, rh, re, p⟩ := h
  by_cases hd : ∃ M1 x M2 k l, a' env M = .ok x M1 ∧ b' env M1 = .ok (.ref k) M2 ∧ M2[k]? = some (.dic l)
  · exact (pe_cmp (pc_din (by omega) ha hb) hm).run pins s σ H Q I (din_read (g := id) rh re hd p fun _ _ _ _ _ _ q => q)
  · exact (m_cmp op_inM (hC ▸ sim_in) ha hb hm).run pins s σ H Q I ⟨ρ, M, env, rh, re, by rw [← eOp_not hd]; exact p⟩⟩
theorem m_notInA {a b : Expr} {a' b' : Fe} {pos : Pos} (hu : X.A.units + 64 < cLine) (hC : C.K = X.K) (ha : PE X a (tE C W a')) (hb : PE X b (tE C W b')) (hm : behindInMarks .NotIn b = false := by first | exact nomark _ | rfl) : PE X (.Compare a [.NotIn] [b] pos) (tE C W (eOp fNotInA a' b')) := ⟨fun pins s σ H Q I h => by
  obtain ⟨ρ, M, env, rh, re, p⟩ := h
  by_cases hd : ∃ M1 x M2 k l, a' env M = .ok x M1 ∧ b' env M1 = .ok (.ref k) M2 ∧ M2[k]? = some (.dic l)
  · exact (pe_cmp (pc_dnotin (by omega) ha hb) hm).run pins s σ H Q I (din_read (g := not) rh re hd p fun _ _ _ _ _ _ q => q)
  · exact (m_cmp op_notInM (hC ▸ sim_notIn) ha hb hm).run pins s σ H Q I ⟨ρ, M, env, rh, re, by rw [← eOp_not hd]; exact p⟩⟩
theorem cB_post {r : R MV} {ρ : List Addr} {H : Hp} {F : Bool → Hm → List Addr → Hp → Prop} {G : MX → Hm → List Addr → Hp → Prop} (p : Post C ρ H (r.bind fun x M1 => match x with
  | .bl b => .ok b M1
  | _ => .bad) F G) : Post C ρ H r (fun x M' ρ' H' => ∃ b, x = .bl b ∧ F b M' ρ' H') G := p.bind.imp (fun x M' ρ' H' e rh q => by
    cases x with
    | bl b => exact ⟨b, rfl, Post.now q rh⟩
    | _ => exact q.elim) fun _ _ _ _ _ _ q => q
theorem tB_read {e' : Fe} {σ : L2.St} {H : Hp} {Q : Bool → Hp → Prop} (h : tT C W (cB e') σ H Q) : tE C W e' σ H fun x H1 => ∃ c, x = .bl c ∧ Q c H1 := by
  obtain ⟨ρ, M, env, rh, re, p⟩ := h
  refine ⟨ρ, M, env, rh, re, (cB_post p).imp (fun x M' ρ' H' e rh' q v rv => ?_) fun _ _ _ _ _ _ q => q⟩
  obtain ⟨b, rfl, hF⟩ := q
  rw [rv_bl] at rv
  exact ⟨b, rv, hF b rfl⟩
theorem mt_inA {a b : Expr} {a' b' : Fe} {pos : Pos} (hu : X.A.units + 64 < cLine) (hC : C.K = X.K) (ha : PE X a (tE C W a')) (hb : PE X b (tE C W b')) (hm : behindInMarks .In b = false := by first | exact nomark _ | rfl) : PT X (.Compare a [.In] [b] pos) (tT C W (cB (eOp fInA a' b'))) := ⟨fun pins s σ H Q I h => by
  have h2 := tB_read h
  obtain ⟨ρ, M, env, rh, re, p⟩ := h
  obtain ⟨ρ2, M2, env2, rh2, re2, p2⟩ := h2
  by_cases hd : ∃ M1 x M2 k l, a' env M = .ok x M1 ∧ b' env M1 = .ok (.ref k) M2 ∧ M2[k]? = some (.dic l)
  · refine (pt_cmp (pc_din (by omega) ha hb) hm).run pins s σ H Q I ?_
    exact din_read (g := id) (Q := fun x H1 => ∃ c, x = V.bl c ∧ Q c H1) rh re hd ((cB_post p).imp (fun x M' ρ' H' e rh' q v rv => by
      obtain ⟨b, rfl, hF⟩ := q
      rw [rv_bl] at rv
      exact ⟨b, rv, hF b rfl⟩) fun _ _ _ _ _ _ q => q) fun _ _ _ _ _ _ q => q
  · refine (mt_cmp op_inM (hC ▸ sim_in) ha hb hm).run pins s σ H Q I ⟨ρ, M, env, rh, re, ?_⟩
    have e : cB (eOp fInA a' b') env M = cB (eOp fIn a' b') env M := by unfold cB; rw [eOp_not hd]
    rw [← e]
    exact p⟩
theorem mt_notInA {a b : Expr} {a' b' : Fe} {pos : Pos} (hu : X.A.units + 64 < cLine) (hC : C.K = X.K) (ha : PE X a (tE C W a')) (hb : PE X b (tE C W b')) (hm : behindInMarks .NotIn b = false := by first | exact nomark _ | rfl) : PT X (.Compare a [.NotIn] [b] pos) (tT C W (cB (eOp fNotInA a' b'))) := ⟨fun pins s σ H Q I h => by
  obtain ⟨ρ, M, env, rh, re, p⟩ := h
  by_cases hd : ∃ M1 x M2 k l, a' env M = .ok x M1 ∧ b' env M1 = .ok (.ref k) M2 ∧ M2[k]? = some (.dic l)
  · refine (pt_cmp (pc_dnotin (by omega) ha hb) hm).run pins s σ H Q I ?_
    exact din_read (g := not) (Q := fun x H1 => ∃ c, x = V.bl c ∧ Q c H1) rh re hd ((cB_post p).imp (fun x M' ρ' H' e rh' q v rv => by
      obtain ⟨b, rfl, hF⟩ := q
      rw [rv_bl] at rv
      exact ⟨b, rv, hF b rfl⟩) fun _ _ _ _ _ _ q => q) fun _ _ _ _ _ _ q => q
  · refine (mt_cmp op_notInM (hC ▸ sim_notIn) ha hb hm).run pins s σ H Q I ⟨ρ, M, env, rh, re, ?_⟩
    have e : cB (eOp fNotInA a' b') env M = cB (eOp fNotIn a' b') env M := by unfold cB; rw [eOp_not hd]
    rw [← e]
    exact p⟩
end
end Mi
set_option maxRecDepth 100000
/-! More of dicts, lists, comparisons. -/
namespace Mi
open PySem PySem.Spec PyProof.Rows L2
set_option maxRecDepth 8000 in
theorem list_extend_tup (l : Addr) (items : Array Value) (n : Nat) (b : Addr) (items2 : Array Value) (n2 : Nat) (dd : Option Addr) (sl : Array (Option Value)) (hs0 : ¬(!items.isEmpty && Builtin.List.listTooLong (items.size + items2.size)) = true) (hs1 : items.size ≤ sizeLine) (hs2 : items.size + items2.size ≤ sizeLine + 1 := by seq_fits) :
    Meets (Builtin.«list.extend» ⟨[.ref l, .ref b], []⟩) (fun _ R s => s.heap.get? l = some { cls := .type "list", dict := none, data := .seq items n, slots := #[] } ∧ s.heap.get? b = some { cls := .type "tuple", dict := dd, data := .seq items2 n2, slots := sl } ∧ R (.ok (.ret Value.none)) { s with heap := s.heap.update l (Obj.mapSeq fun x => x ++ items2), toks := s.toks }) :=
  .of_wp fun prog w A R s h => by
    obtain ⟨hp, g, d, tk, os⟩ := s
    obtain ⟨hl, hb, h⟩ := h
    have f1 := AutoSeq1.idx_int
    have f2 := AutoSeq1.sub_tuple_tuple
    have f3 := AutoSeq1.sub_list_list
    have f4 := AutoSeq1.sub_tuple_list
    have f5 := AutoSeq1.sub_list_tuple
    have hz' : (items ++ items2).size ≤ sizeLine + 1 := by rw [Array.size_append]; exact hs2
    wp_walk using (wpAny_updateSeq hl rfl (hz := hs1) (_hz' := hz')), AutoSeq1.wpAny_loadPart' hl, AutoSeq1.wpAny_loadPart' hb
    exact ⟨_, rfl, h⟩
section
variable {X : Cx}
def rExtendM (K : PySem.W.Frag) : V → List V → Hp → VK → Prop := fun x vs H Q => ∃ l b xs zs, x = .ref l ∧ vs = [.ref b] ∧ H l = some (.lst xs) ∧ (H b = some (.lst zs) ∨ SqT K H b zs) ∧ xs.length + zs.length ≤ sizeLine ∧ Q .non (upd H l (.lst (xs ++ zs)))
theorem mt_extendM : MtM X "list.extend" (rExtendM X.K) := by
  intro pins s σ H x vs v us Q I rx rv h
  obtain ⟨l, b, xs, zs, rfl, rfl, hH, hB, hz, q⟩ := h
  rcases hB with hB | hB
  · exact mt_extend pins s σ H (.ref l) [.ref b] v us Q I rx rv ⟨l, b, xs, zs, rfl, rfl, hH, hB, hz, q⟩
  cases rx
  obtain ⟨u, rfl, ru⟩ := rv.one
  cases ru
  obtain ⟨z, its, n, r, hl, e⟩ := I.lstM hH
  obtain ⟨its2, r2, ⟨⟨oc, od, odt, osl⟩, e2, hc2, n2, hd2⟩, hl2⟩ := I.tuple hB
  have hc2 : oc = .type "tuple" := hc2
  have hd2 : odt = .seq its2.toArray n2 := hd2
  subst hc2
  subst hd2
  have hlen2 := r2.length
  have hsz : its.toArray.size + its2.toArray.size ≤ sizeLine := by rw [List.size_toArray, List.size_toArray]; omega
  have hlong : ¬ (!its.toArray.isEmpty && Builtin.List.listTooLong (its.toArray.size + its2.toArray.size)) = true := by
    rw [notLongL hsz, Bool.and_false]
    exact Bool.false_ne_true
  refine call_meets F.slot_list_extend ⟨_, e, rfl⟩ F.entry_list_extend (F.args_list_extend_2 _ _)
    (list_extend_tup l its.toArray n b its2.toArray n2 od osl hlong (by rw [List.size_toArray]; omega) (by omega)) ⟨e, e2, ?_⟩
  refine ⟨.non, _, I.lset (its' := its ++ its2) hH e (by simp) (r.append r2) ?_, rfl, q⟩
  rw [List.length_append]
  omega
end
/-- xs.extend(ys), ys a list or a tuple -/
def fExtend : MV → List MV → Hm → R MV
  | .ref i, [.tup t], M => match M[i]? with
    | some (.lst s) => if s.length + t.length ≤ SL then .ok .non (M.set i (.lst (s ++ t))) else .bad
    | _ => .bad
  | .ref i, [.ref j], M => match M[i]?, M[j]? with
    | some (.lst s), some (.lst t) => if s.length + t.length ≤ SL then .ok .non (M.set i (.lst (s ++ t))) else .bad
    | _, _ => .bad
  | _, _, _ => .bad
theorem sim_extend {C : Cfg} : SimM C fExtend (rExtendM C.K) := by
  intro ρ H M d ds x xs Q G rh rx rxs p
  unfold fExtend at p
  split at p
  · rename_i i t
    obtain ⟨v, rfl, rv⟩ := one_rv rxs
    rw [rv_ref] at rx
    obtain ⟨a, ha, rfl⟩ := rx
    rw [rv_tup] at rv
    obtain ⟨b, zs, rfl, h1, h2⟩ := rv
    split at p
    · rename_i s hm
      obtain ⟨ys, q1, q2⟩ := rh.at hm ha
      split at p
      · rename_i hl
        exact ⟨a, b, ys, zs, rfl, rfl, q1, .inr h1, by rw [q2.len, h2.len, sizeLine_eq]; exact hl, p.setL rh ha (q2.app h2) (rv_non.mpr rfl)⟩
      · exact p.elim
    · exact p.elim
  · rename_i i j
    obtain ⟨v, rfl, rv⟩ := one_rv rxs
    rw [rv_ref] at rx rv
    obtain ⟨a, ha, rfl⟩ := rx
    obtain ⟨b, hb, rfl⟩ := rv
    split at p
    · rename_i s t hm hm2
      obtain ⟨ys, q1, q2⟩ := rh.at hm ha
      obtain ⟨zs, q3, q4⟩ := rh.at hm2 hb
      split at p
      · rename_i hl
        exact ⟨a, b, ys, zs, rfl, rfl, q1, .inl q3, by rw [q2.len, q4.len, sizeLine_eq]; exact hl, p.setL rh ha (q2.app q4) (rv_non.mpr rfl)⟩
      · exact p.elim
    · exact p.elim
  · exact p.elim
/-- xs.insert(i, y), i from 0 on -/
def fInsert : MV → List MV → Hm → R MV
  | .ref k, [.int i, y], M => match M[k]? with
    | some (.lst s) => if decide (s.length < SL) && decide (0 ≤ i) && decide (i.natAbs < 1073741824) then .ok .non (M.set k (.lst (s.take i.toNat ++ [y] ++ s.drop i.toNat))) else .bad
    | _ => .bad
  | _, _, _ => .bad
def rInsert : V → List V → Hp → VK → Prop := fun x vs H Q => ∃ (l : Addr) (xs : List V) (i : Int) (y : V), x = .ref l ∧ vs = [.int i, y] ∧ H l = some (.lst xs) ∧ xs.length < sizeLine ∧ 0 ≤ i ∧ i < 2 ^ 63 ∧
    Q .non (upd H l (.lst (xs.take i.toNat ++ [y] ++ xs.drop i.toNat)))
theorem mt_insertM {X : Cx} : MtR X "list.insert" rInsert := mt_insert
theorem sim_insert {C : Cfg} : SimM C fInsert rInsert := by
  intro ρ H M d ds x xs Q G rh rx rxs p
  unfold fInsert at p
  split at p
  · rename_i k i y
    obtain ⟨v, w, rfl, rv, rw_⟩ := two_rv rxs
    rw [rv_ref] at rx
    rw [rv_int] at rv
    subst rv
    obtain ⟨a, ha, rfl⟩ := rx
    split at p
    · rename_i s hm
      obtain ⟨ys, q1, q2⟩ := rh.at hm ha
      split at p
      · rename_i hl
        simp only [Bool.and_eq_true, decide_eq_true_eq] at hl
        exact ⟨a, ys, i, w, rfl, rfl, q1, by rw [q2.len, sizeLine_eq]; exact hl.1.1, hl.1.2, by omega, p.setL rh ha (((q2.take _).snoc rw_).app (q2.drop _)) (rv_non.mpr rfl)⟩
      · exact p.elim
    · exact p.elim
  · exact p.elim

/-! ### is, is not -/
def fIsG (g : Bool → Bool) : MV → MV → Hm → R MV
  | .bl a, .bl b, M => .ok (.bl (g (decide (a = b)))) M
  | .non, .non, M => .ok (.bl (g true)) M
  | .bl _, .non, M => .ok (.bl (g false)) M
  | .int _, .non, M => .ok (.bl (g false)) M
  | .str _, .non, M => .ok (.bl (g false)) M
  | .tup _, .non, M => .ok (.bl (g false)) M
  | .ref _, .non, M => .ok (.bl (g false)) M
  | .rol _, .non, M => .ok (.bl (g false)) M
  | _, _, _ => .bad
abbrev fIs := fIsG id
abbrev fIsNot := fIsG not
def rIsM (g : Bool → Bool) : R2 := fun x y H Q => (y = .non ∧ Q (.bl (g (decide (x = .non)))) H) ∨ ∃ a b, x = .bl a ∧ y = .bl b ∧ Q (.bl (g (decide (a = b)))) H
theorem op_isM {X : Cx} : OpR X (compareOp .Is) (rIsM id) := op_isN.or op_is_bl
theorem op_isNotM {X : Cx} : OpR X (compareOp .IsNot) (rIsM not) := op_notN.or op_isnot_bl
theorem sim_isG {C : Cfg} {g : Bool → Bool} : Sim2 C (fIsG g) (rIsM g) := by
  intro ρ H M d e x y Q G rh rx ry p
  unfold fIsG at p
  split at p
  · rw [rv_bl] at rx ry; subst rx; subst ry
    exact .inr ⟨_, _, rfl, rfl, p.val rh (rv_bl.mpr rfl)⟩
  · rw [rv_non] at rx ry; subst rx; subst ry
    exact .inl ⟨rfl, by rw [decide_eq_true rfl]; exact p.val rh (rv_bl.mpr rfl)⟩
  · rw [rv_bl] at rx; rw [rv_non] at ry; subst rx; subst ry
    exact .inl ⟨rfl, by rw [decide_eq_false (by simp)]; exact p.val rh (rv_bl.mpr rfl)⟩
  · rw [rv_int] at rx; rw [rv_non] at ry; subst rx; subst ry
    exact .inl ⟨rfl, by rw [decide_eq_false (by simp)]; exact p.val rh (rv_bl.mpr rfl)⟩
  · rw [rv_str] at rx; rw [rv_non] at ry; subst rx; subst ry
    exact .inl ⟨rfl, by rw [decide_eq_false (by simp)]; exact p.val rh (rv_bl.mpr rfl)⟩
  · rw [rv_tup] at rx; rw [rv_non] at ry
    obtain ⟨a, xs, rfl, _, _⟩ := rx
    subst ry
    exact .inl ⟨rfl, by rw [decide_eq_false (by simp)]; exact p.val rh (rv_bl.mpr rfl)⟩
  · rw [rv_ref] at rx; rw [rv_non] at ry
    obtain ⟨a, _, rfl⟩ := rx
    subst ry
    exact .inl ⟨rfl, by rw [decide_eq_false (by simp)]; exact p.val rh (rv_bl.mpr rfl)⟩
  · rw [rv_rol] at rx; rw [rv_non] at ry
    obtain ⟨a, xs, rfl, _, _⟩ := rx
    subst ry
    exact .inl ⟨rfl, by rw [decide_eq_false (by simp)]; exact p.val rh (rv_bl.mpr rfl)⟩
  · exact p.elim

/-! ### a op b op c -/
def eChain (f g : MV → MV → Hm → R MV) (a b c : Fe) : Fe := fun env M => (a env M).bind fun x M1 => (b env M1).bind fun y M2 => (f x y M2).bind fun z M3 => match z with
  | .bl true => (c env M3).bind fun w M4 => g y w M4
  | .bl false => .ok (.bl false) M3
  | _ => .bad
section
variable {X : Cx} {C : Cfg} {W : WX}
theorem chain_read {r r' : R2} {f g : MV → MV → Hm → R MV} {a' b' c' : Fe} {σ : L2.St} {H : Hp} {Q : VK} (hs : Sim2 C f r) (hs' : Sim2 C g r') (h : tE C W (eChain f g a' b' c') σ H Q) : tChain r r' (tE C W a') (tE C W b') (tE C W c') σ H Q := by
  obtain ⟨ρ, M, env, rh, re, p⟩ := h
  refine ⟨ρ, M, env, rh, re, p.bind.imp (fun d M1 ρ1 H1 e1 rh1 p2 v rv => ?_) (fun _ _ _ _ _ _ q => q)⟩
  refine ⟨ρ1, M1, env, rh1, re.mono e1, p2.bind.imp (fun d2 M2 ρ2 H2 e2 rh2 p3 w rw_ => ?_) (fun _ _ _ _ _ _ q => q)⟩
  refine hs ρ2 H2 M2 d d2 v w _ _ rh2 (rv.mono e2) rw_ (p3.bind.imp (fun z M3 ρ3 H3 e3 rh3 p4 u ru => ?_) (fun _ _ _ _ _ _ q => q))
  cases z with
  | bl k =>
    rw [rv_bl] at ru
    refine ⟨k, ru, ?_⟩
    cases k with
    | true =>
      have p4 : Post C ρ3 H3 ((c' env M3).bind fun w M4 => g d2 w M4) _ _ := p4
      exact ⟨ρ3, M3, env, rh3, (re.mono ((e1.trans e2).trans e3)), p4.bind.imp (fun d5 M5 ρ5 H5 e5 rh5 p5 w5 rw5 => hs' ρ5 H5 M5 d2 d5 w w5 Q _ rh5 (rw_.mono (e3.trans e5)) rw5 p5) (fun _ _ _ _ _ _ q => q)⟩
    | false => exact Post.now p4 rh3 _ (rv_bl.mpr rfl)
  | _ => exact p4.elim
theorem m_chain {op op' : CmpOp} {r r' : R2} {f g : MV → MV → Hm → R MV} {a b c : Expr} {a' b' c' : Fe} {pos : Pos} (ho : OpR X (compareOp op) r) (hs : Sim2 C f r) (ho' : OpR X (compareOp op') r') (hs' : Sim2 C g r')
    (ha : PE X a (tE C W a')) (hb : PE X b (tE C W b')) (hc : PE X c (tE C W c')) (hm : lastMarks [op, op'] [b, c] = false := by with_unfolding_all rfl) : PE X (.Compare a [op, op'] [b, c] pos) (tE C W (eChain f g a' b' c')) :=
  PE.imp (pe_chain ho ho' ha hb hc hm) fun σ H Q h => chain_read hs hs' h
theorem mt_chain {op op' : CmpOp} {r r' : R2} {f g : MV → MV → Hm → R MV} {a b c : Expr} {a' b' c' : Fe} {pos : Pos} (ho : OpR X (compareOp op) r) (hs : Sim2 C f r) (ho' : OpR X (compareOp op') r') (hs' : Sim2 C g r')
    (ha : PE X a (tE C W a')) (hb : PE X b (tE C W b')) (hc : PE X c (tE C W c')) (hm : lastMarks [op, op'] [b, c] = false := by with_unfolding_all rfl) : PT X (.Compare a [op, op'] [b, c] pos) (tT C W (cB (eChain f g a' b' c'))) :=
  PT.imp (pt_chain ho ho' ha hb hc hm) fun σ H Q h => chain_read hs hs' (tB_read h)

/-! ### dicts -/
theorem Post.newD {ρ : List Addr} {H : Hp} {M : Hm} {Q : VK} {G : MX → Hm → List Addr → Hp → Prop} {l : List (MV × MV)} {ks : List (Key × V)} (p : Post C ρ H (.ok (.ref M.length) (M ++ [.dic l])) (Fv C Q) G) (h : RH C ρ H M) (r : RK C.K H ρ l ks) {a : Addr} (ha : H a = none) : Q (.ref a) (upd H a (.dK ks)) := by
  have e : Ext C.K ρ (ρ ++ [a]) H (upd H a (.dK ks)) := Ext.new1 (C := C) ha
  refine p _ _ e (h.push ha ⟨ks, upd_same, r.mo e.toMo⟩) (.ref a) (rv_ref.mpr ⟨a, ?_, rfl⟩)
  rw [← h.len, List.getElem?_append_right (Nat.le_refl _), Nat.sub_self]
  rfl
theorem RK.nil {K : PySem.W.Frag} {H : Hp} {ρ : List Addr} : RK K H ρ [] [] := by unfold RK; rfl
/-- {} -/
def eDic0 : Fe := fun _ M => .ok (.ref M.length) (M ++ [.dic []])
theorem m_dic0 {pos : Pos} : PE X (.Dict [] [] pos) (tE C W eDic0) := by
  refine PE.imp pe_dnewK fun σ H Q h => ?_
  obtain ⟨ρ, M, env, rh, re, p⟩ := h
  exact fun a ha => Post.newD (G := fun x _ ρ' H' => ∀ cls dd, RX C H' ρ' x cls dd → W cls dd σ H') p rh RK.nil ha
/-- the pairs of a display -/
def pPairs : List (Fe × Fe) → Env → Hm → R (List (MV × MV))
  | [], _, M => .ok [] M
  | (k, v) :: r, env, M => (k env M).bind fun x M1 => (v env M1).bind fun y M2 => (pPairs r env M2).bind fun l M3 => if isKey x then .ok ((x, y) :: l) M3 else .bad
def putAll (l : List (MV × MV)) : List (MV × MV) → List (MV × MV)
  | [] => l
  | (k, d) :: r => putAll (putD l k d) r
def eDic (ps : List (Fe × Fe)) : Fe := fun env M => (pPairs ps env M).bindN fun l M1 => .ok (.ref M1.length) (M1 ++ [.dic (putAll [] l)])
/-- pairs, as values -/
def RPs (K : PySem.W.Frag) (H : Hp) (ρ : List Addr) : List (MV × MV) → List (V × V) → Prop
  | [], ks => ks = []
  | (k, d) :: r, ks => ∃ x y t, ks = (x, y) :: t ∧ RV K H ρ k x ∧ RV K H ρ d y ∧ RPs K H ρ r t
theorem RPs.mono {K : PySem.W.Frag} {H H' : Hp} {ρ ρ' : List Addr} (e : Ext K ρ ρ' H H') : ∀ {l : List (MV × MV)} {ks : List (V × V)}, RPs K H ρ l ks → RPs K H' ρ' l ks
  | [], _, h => h
  | (k, d) :: r, ks, h => by
    obtain ⟨x, y, t, h1, h2, h3, h4⟩ := h
    exact ⟨x, y, t, h1, h2.mono e, h3.mono e, RPs.mono e h4⟩
/-- all keys are keys -/
def allKeys (l : List (MV × MV)) : Bool := l.all fun p => isKey p.1
theorem RPs.keys {K : PySem.W.Frag} {H : Hp} {ρ : List Addr} : ∀ {l : List (MV × MV)} {ks : List (V × V)}, RPs K H ρ l ks → allKeys l = true → ∃ kvs : List (Key × V), ks = kvs.map (fun kv => (kV kv.1, kv.2)) ∧ RK K H ρ l kvs
  | [], ks, h, _ => by
    unfold RPs at h
    subst h
    exact ⟨[], rfl, RK.nil⟩
  | (k, d) :: r, ks, h, hk => by
    obtain ⟨x, y, t, rfl, h2, h3, h4⟩ := h
    have hk : (isKey k && r.all fun p => isKey p.1) = true := hk
    rw [Bool.and_eq_true] at hk
    obtain ⟨kvs, rfl, rk⟩ := RPs.keys h4 hk.2
    obtain ⟨k', hk'⟩ := key_is hk.1
    refine ⟨(k', y) :: kvs, ?_, ?_⟩
    · rw [List.map_cons, key_rv hk' h2]
    · unfold RK
      exact ⟨k', y, kvs, rfl, hk', h3, rk⟩
theorem RK.merge {K : PySem.W.Frag} {H : Hp} {ρ : List Addr} : ∀ {l : List (MV × MV)} {kvs : List (Key × V)} {l0 : List (MV × MV)} {kv0 : List (Key × V)}, RK K H ρ l kvs → RK K H ρ l0 kv0 → RK K H ρ (putAll l0 l) (mergeK kv0 kvs)
  | [], kvs, l0, kv0, h, h0 => by unfold RK at h; subst h; exact h0
  | (k, d) :: r, kvs, l0, kv0, h, h0 => by
    unfold RK at h
    obtain ⟨k', v, t, rfl, h1, h2, h3⟩ := h
    show RK K H ρ (putAll (putD l0 k d) r) (mergeK (putK kv0 k' v) t)
    exact RK.merge h3 (RK.put h1 h2 h0)
theorem pPairs_keys : ∀ {ps : List (Fe × Fe)} {env : Env} {M M1 : Hm} {l : List (MV × MV)}, pPairs ps env M = .ok l M1 → allKeys l = true ∧ l.length = ps.length
  | [], env, M, M1, l, h => by cases h; exact ⟨rfl, rfl⟩
  | (k, v) :: r, env, M, M1, l, h => by
    unfold pPairs at h
    cases h1 : k env M with
    | ok x Ma =>
      rw [h1] at h
      have h : ((v env Ma).bind fun y M2 => (pPairs r env M2).bind fun l M3 => if isKey x then R.ok ((x, y) :: l) M3 else .bad) = .ok l M1 := h
      cases h2 : v env Ma with
      | ok y Mb =>
        rw [h2] at h
        have h : ((pPairs r env Mb).bind fun l M3 => if isKey x then R.ok ((x, y) :: l) M3 else .bad) = .ok l M1 := h
        cases h3 : pPairs r env Mb with
        | ok l2 Mc =>
          rw [h3] at h
          have h : (if isKey x then R.ok ((x, y) :: l2) Mc else .bad) = .ok l M1 := h
          by_cases hk : isKey x
          · rw [if_pos hk] at h
            cases h
            obtain ⟨q1, q2⟩ := pPairs_keys h3
            exact ⟨by show (isKey x && allKeys l2) = true; rw [hk, q1]; rfl, by rw [List.length_cons, List.length_cons, q2]⟩
          · rw [if_neg hk] at h; cases h
        | exc _ _ => rw [h3] at h; cases h
        | bad => rw [h3] at h; cases h
      | exc _ _ => rw [h2] at h; cases h
      | bad => rw [h2] at h; cases h
    | exc _ _ => rw [h1] at h; cases h
    | bad => rw [h1] at h; cases h
theorem pairs_read {σ : L2.St} {E : MX → List Addr → Hp → Prop} (hE : ∀ x ρ' H', E x ρ' H' → ∀ cls dd, RX C H' ρ' x cls dd → W cls dd σ H') : ∀ {ps : List (Fe × Fe)} {ρ : List Addr} {H : Hp} {M : Hm} {env : Env} {Q : List (V × V) → Hp → Prop}, RH C ρ H M → RE C.K H ρ env σ →
    Post C ρ H (pPairs ps env M) (fun l _ ρ' H' => ∀ vs, RPs C.K H' ρ' l vs → Q vs H') (fun x _ ρ' H' => E x ρ' H') → tPairs (ps.map fun p => (tE C W p.1, tE C W p.2)) σ H Q
  | [], ρ, H, M, env, Q, rh, re, p => by
    show Q [] H
    exact p.now rh [] rfl
  | (k, v) :: r, ρ, H, M, env, Q, rh, re, p => by
    unfold pPairs at p
    refine ⟨ρ, M, env, rh, re, p.bind.imp (fun d M1 ρ1 H1 e1 rh1 p2 x rx => ?_) (fun x _ ρ' H' _ _ q => hE x ρ' H' q)⟩
    refine ⟨ρ1, M1, env, rh1, re.mono e1, p2.bind.imp (fun d2 M2 ρ2 H2 e2 rh2 p3 y ry => ?_) (fun x _ ρ' H' _ _ q => hE x ρ' H' q)⟩
    refine pairs_read hE rh2 ((re.mono e1).mono e2) (p3.bind.imp (fun l M3 ρ3 H3 e3 rh3 p4 vs rvs => ?_) (fun _ _ _ _ _ _ q => q))
    by_cases hk : isKey d
    · rw [if_pos hk] at p4
      exact p4.now rh3 ((x, y) :: vs) ⟨x, y, vs, rfl, rx.mono (e2.trans e3), ry.mono e3, rvs⟩
    · rw [if_neg hk] at p4
      exact p4.elim
theorem m_dic {keys : List (Option Expr)} {values : List Expr} {ps : List (Fe × Fe)} {pos : Pos} (h : PPs X pos keys values (ps.map fun p => (tE C W p.1, tE C W p.2))) (hn : ps.length ≤ 15 := by decide) (hall : keys.all (·.isSome) = true := by rfl) (hl : keys.length = values.length := by rfl) (h0 : keys ≠ [] := by simp)
    (h15 : keys.length ≤ 15 := by decide) : PE X (.Dict keys values pos) (tE C W (eDic ps)) := by
  refine PE.imp (pe_disp h hall hl h0 h15) fun σ H Q h => ?_
  obtain ⟨ρ, M, env, rh, re, p⟩ := h
  intro D hD
  have e0 : Ext C.K ρ ρ H (upd H D (.dK [])) := Ext.new (C := C) hD
  have mu : ∀ {zs : List (Key × V)}, Mut (some (.dK zs)) := fun {_} => trivial
  have p : Post C ρ (er (upd H D (.dK [])) D) ((pPairs ps env M).bindN fun l M1 => .ok (.ref M1.length) (M1 ++ [.dic (putAll [] l)])) (fun d _ ρ' H' => ∀ v, RV C.K H' ρ' d v → Q v H') (fun x _ ρ' H' => ∀ cls dd, RX C H' ρ' x cls dd → W cls dd σ H') := by
    rw [er_upd, er_free hD]; exact p
  have p2 := Post.er mu upd_same (rh.fresh hD) p.bindN
  refine pairs_read (W := W) (E := fun _ _ _ => False) (fun _ _ _ q => q.elim) (rh.beside hD) (re.mono e0) (p2.impE (fun l M1 ρ1 H1 hr e1 rh1 ⟨hD1, nD1, p3⟩ vs rvs => ⟨hD1, ?_⟩) (fun _ _ _ _ _ _ q => q))
  obtain ⟨hk, hlen⟩ := pPairs_keys hr
  obtain ⟨kvs, rfl, rk⟩ := rvs.keys hk
  refine ⟨kvs, rfl, by rw [rk.len, hlen]; exact hn, ?_⟩
  have rk2 : RK C.K H1 ρ1 (putAll [] l) (mergeK [] kvs) := RK.merge rk RK.nil
  have rhE := rh1.er nD1 mu hD1
  have p3 : Post C ρ1 (er H1 D) (.ok (.ref M1.length) (M1 ++ [.dic (putAll [] l)])) (Fv C Q) (fun x _ ρ' H' => ∀ cls dd, RX C H' ρ' x cls dd → W cls dd σ H') := p3
  have q1 : Mo C.K ρ1 ρ1 H1 (er H1 D) := ⟨List.prefix_refl _, fun a xs q => SqT.er mu hD1 q, fun a xs q => FzL.er mu hD1 q⟩
  have q := Post.newD p3 rhE (rk2.mo q1) (er_self (H := H1) (D := D))
  rw [upd_er] at q
  exact q
/-- d[k] = v, of dicts and of lists -/
def sPutA (a b v : Fe) : Fs := fun env M => (v env M).st env fun z M1 => (a env M1).st env fun x M2 => (b env M2).st env fun y M3 => match x with
  | .ref k => (match M3[k]? with
    | some (.dic l) => if isKey y && decide (l.length < SL) then .ok .nx env (M3.set k (.dic (putD l y z))) else .bad
    | _ => .bad)
  | _ => .bad
theorem m_putD {a b v : Expr} {a' b' v' : Fe} {pos pos' : Pos} (hu : X.A.units + 64 < cLine) (ha : PE X a (tE C W a')) (hb : PE X b (tE C W b')) (hv : PE X v (tE C W v')) (hs : swapsWith v (some (.Subscript a b pos')) pos.line X.env = pure false := by rfl) :
    PS X (.Assign [.Subscript a b pos'] v pos) (tS C W (sPutA a' b' v')) := by
  refine PS.imp (ps_dput (by omega) ha hb hv hs) fun D σ H h => ?_
  obtain ⟨ρ, M, env, rh, re, p⟩ := h
  refine ⟨ρ, M, env, rh, re, (p.st re).imp (fun z M1 ρ1 H1 e1 rh1 p1 vz rz => ?_) (fun _ _ _ _ _ _ q => q)⟩
  refine ⟨ρ1, M1, env, rh1, re.mono e1, (p1.st (re.mono e1)).imp (fun x M2 ρ2 H2 e2 rh2 p2 vx rx => ?_) (fun _ _ _ _ _ _ q => q)⟩
  refine ⟨ρ2, M2, env, rh2, (re.mono e1).mono e2, (p2.st ((re.mono e1).mono e2)).imp (fun y M3 ρ3 H3 e3 rh3 p3 vy ry => ?_) (fun _ _ _ _ _ _ q => q)⟩
  cases x with
  | ref k =>
    simp only at p3
    cases hm : M3[k]? with
    | none => rw [hm] at p3; exact p3.elim
    | some o =>
      rw [hm] at p3
      cases o with
      | dic l =>
        have p3 : PostS C ρ3 H3 (if isKey y && decide (l.length < SL) then .ok .nx env (M3.set k (.dic (putD l y z))) else .bad) D W := p3
        by_cases hk : isKey y && decide (l.length < SL)
        · rw [if_pos hk] at p3
          rw [Bool.and_eq_true, decide_eq_true_eq] at hk
          obtain ⟨k', hk'⟩ := key_is hk.1
          have rx := rx.mono e3
          rw [rv_ref] at rx
          obtain ⟨ad, hra, rfl⟩ := rx
          obtain ⟨ks, q1, q2⟩ := rh3.at hm hra
          have e4 : Ext C.K ρ3 ρ3 H3 (upd H3 ad (.dK (putK ks k' vz))) := Ext.wr (C := C) q1 trivial (List.mem_of_getElem? hra)
          refine ⟨ad, _, rfl, ?_, p3 ρ3 _ σ e4 (rh3.set hra ⟨_, upd_same, (RK.put hk' (rz.mono (e2.trans e3)) q2).mo e4.toMo⟩) (((re.mono e1).mono e2).mono (e3.trans e4))⟩
          rw [key_rv hk' ry]
          exact DPut.k q1 (by rw [q2.len, sizeLine_eq]; exact hk.2)
        · rw [if_neg hk] at p3; exact p3.elim
      | _ => exact p3.elim
  | _ => exact p3.elim
/-- d.get(k, x) -/
def eGet2 (a b c : Fe) : Fe := fun env M => (a env M).bind fun x M1 => match x with
  | .ref k => (match M1[k]? with
    | some (.dic _) => (b env M1).bind fun y M2 => (c env M2).bind fun z M3 => (match M3[k]? with
      | some (.dic l) => if isKey y then .ok ((getD l y).getD z) M3 else .bad
      | _ => .bad)
    | _ => .bad)
  | _ => .bad
theorem m_get2 {a b c : Expr} {a' b' c' : Fe} {apos cpos : Pos} (hu : X.A.units + 64 < cLine) (ha : PE X a (tE C W a')) (hb : PE X b (tE C W b')) (hc : PE X c (tE C W c')) (m : M2 X a "get" apos b c cpos := by exact ⟨by rfl, by rfl, by rfl, by rfl⟩) :
    PE X (.Call (.Attribute a "get" apos) [b, c] [] cpos) (tE C W (eGet2 a' b' c')) := by
  refine PE.imp (pe_dget2 (by omega) ha hb hc m) fun σ H Q h => ?_
  obtain ⟨ρ, M, env, rh, re, p⟩ := h
  refine ⟨ρ, M, env, rh, re, p.bind.imp (fun x M1 ρ1 H1 e1 rh1 p1 vx rx => ?_) (fun _ _ _ _ _ _ q => q)⟩
  cases x with
  | ref k =>
    simp only at p1
    cases hm : M1[k]? with
    | none => rw [hm] at p1; exact p1.elim
    | some o =>
      rw [hm] at p1
      cases o with
      | dic l0 =>
        have p1 : Post C ρ1 H1 ((b' env M1).bind fun y M2 => (c' env M2).bind fun z M3 => (match M3[k]? with
          | some (.dic l) => if isKey y then .ok ((getD l y).getD z) M3 else .bad
          | _ => .bad)) _ _ := p1
        have rx0 := rx
        rw [rv_ref] at rx0
        obtain ⟨ad, hra, rfl⟩ := rx0
        obtain ⟨ks0, q01, _⟩ := rh1.at hm hra
        refine ⟨ad, rfl, .inl ⟨ks0, .inl q01⟩, ?_⟩
        refine ⟨ρ1, M1, env, rh1, re.mono e1, p1.bind.imp (fun y M2 ρ2 H2 e2 rh2 p2 vy ry => ?_) (fun _ _ _ _ _ _ q => q)⟩
        refine ⟨ρ2, M2, env, rh2, (re.mono e1).mono e2, p2.bind.imp (fun z M3 ρ3 H3 e3 rh3 p3 vz rz => ?_) (fun _ _ _ _ _ _ q => q)⟩
        have rx3 := (rx.mono e2).mono e3
        rw [rv_ref] at rx3
        obtain ⟨ad3, hra3, had3⟩ := rx3
        cases had3
        cases hm3 : M3[k]? with
        | none => rw [hm3] at p3; exact p3.elim
        | some o3 =>
          rw [hm3] at p3
          cases o3 with
          | dic l =>
            have p3 : Post C ρ3 H3 (if isKey y then .ok ((getD l y).getD z) M3 else .bad) (Fv C Q) (fun x _ ρ' H' => ∀ cls dd, RX C H' ρ' x cls dd → W cls dd σ H') := p3
            by_cases hk : isKey y
            · rw [if_pos hk] at p3
              obtain ⟨k', hk'⟩ := key_is hk
              obtain ⟨ks, q1, q2⟩ := rh3.at hm3 hra3
              have hg := RK.get hk' q2
              refine ⟨valV ks k', ?_, ?_⟩
              · rw [key_rv hk' ry]
                exact DGet.k q1
              · cases hd : getD l y with
                | none =>
                  rw [hd] at hg p3
                  rw [hg]
                  exact p3.val rh3 rz
                | some d =>
                  rw [hd] at hg p3
                  obtain ⟨v, hv, rv2⟩ := hg
                  rw [hv]
                  exact p3.val rh3 rv2
            · rw [if_neg hk] at p3; exact p3.elim
          | _ => exact p3.elim
      | _ => exact p1.elim
  | _ => exact p1.elim
end
/-- dict(d) -/
def fDict : List MV → Hm → R MV
  | [.ref k], M => match M[k]? with
    | some (.dic l) => .ok (.ref M.length) (M ++ [.dic l])
    | _ => .bad
  | _, _ => .bad
abbrev rDictD : List V → Hp → VK → Prop := fun xs H Q => ∃ (a : Addr) (kvs : List (Key × V)), xs = [.ref a] ∧ Rd H a (.dK kvs) ∧ ∀ p, H p = none → Q (.ref p) (upd H p (.dK kvs))
theorem call_dictM {X : Cx} : CallR X (.type "dict") rDictD := call_dictD
theorem sim_dict {C : Cfg} : SimC C fDict rDictD := by
  intro ρ H M ds xs Q G rh rxs p
  unfold fDict at p
  split at p
  · rename_i k
    obtain ⟨v, rfl, rv⟩ := one_rv rxs
    rw [rv_ref] at rv
    obtain ⟨a, ha, rfl⟩ := rv
    split at p
    · rename_i l hm
      obtain ⟨ks, q1, q2⟩ := rh.at hm ha
      exact ⟨a, ks, rfl, .inl q1, fun q hq => p.newD rh q2 hq⟩
    · exact p.elim
  · exact p.elim
/-! ### sorted texts -/
def insT (x : Tx) : List Tx → List Tx
  | [] => [x]
  | y :: l => if y < x then y :: insT x l else x :: y :: l
def sortT : List Tx → List Tx
  | [] => []
  | x :: l => insT x (sortT l)
def strsOf (l : List MV) : Option (List Tx) := textsOf l
def keysOf (l : List (MV × MV)) : Option (List Tx) := textsOf (l.map (·.1))
def fSorted : List MV → Hm → R MV
  | [.ref k], M => match M[k]? with
    | some (.dic l) => (match keysOf l with
      | some ts => if ts.length < 64 then .ok (.ref M.length) (M ++ [.lst ((sortT ts).map MV.str)]) else .bad
      | none => .bad)
    | some (.lst l) => (match textsOf l with
      | some ts => if ts.length < 64 then .ok (.ref M.length) (M ++ [.lst ((sortT ts).map MV.str)]) else .bad
      | none => .bad)
    | _ => .bad
  | _, _ => .bad
theorem tx_irr (a : Tx) : ¬ a < a := List.lt_irrefl a
theorem tx_trans {a b c : Tx} (h : a < b) (h2 : b < c) : a < c := List.lt_trans h h2
theorem tx_total {a b : Tx} (h : ¬ a < b) (h2 : ¬ b < a) : a = b := List.le_antisymm (show a ≤ b from h2) (show b ≤ a from h)
theorem tx_le_lt {a b c : Tx} (h : ¬ b < a) (h2 : b < c) : a < c := by
  by_cases e : a < b
  · exact tx_trans e h2
  · rw [tx_total e h]; exact h2
theorem insT_comm (x y : Tx) : ∀ l : List Tx, insT x (insT y l) = insT y (insT x l)
  | [] => by
    simp only [insT]
    by_cases h : y < x
    · rw [if_pos h, if_neg (fun z => tx_irr _ (tx_trans h z))]
    · rw [if_neg h]
      by_cases h2 : x < y
      · rw [if_pos h2]
      · rw [if_neg h2, tx_total h2 h]
  | z :: l => by
    simp only [insT]
    by_cases h1 : z < y
    · by_cases h2 : z < x
      · simp only [if_pos h1, if_pos h2, insT, insT_comm x y l]
      · have h3 : x < y := tx_le_lt h2 h1
        simp only [if_pos h1, if_neg h2, insT, if_pos h3]
    · by_cases h2 : z < x
      · have h3 : y < x := tx_le_lt h1 h2
        simp only [if_neg h1, if_pos h2, insT, if_pos h3]
      · simp only [if_neg h1, if_neg h2, insT]
        by_cases h : y < x
        · rw [if_pos h, if_neg (fun z => tx_irr _ (tx_trans h z))]
        · rw [if_neg h]
          by_cases h2 : x < y
          · rw [if_pos h2]
          · rw [if_neg h2, tx_total h2 h]
theorem sortT_perm {a b : List Tx} (h : a.Perm b) : sortT a = sortT b := by
  induction h with
  | nil => rfl
  | cons x _ ih => simp only [sortT, ih]
  | swap x y l => simp only [sortT]; exact insT_comm y x _
  | trans _ _ ih1 ih2 => exact ih1.trans ih2
theorem sortT_rising : ∀ (x : Tx) (l : List Tx), risingS (T x) (l.map T) = true → sortT (x :: l) = x :: l
  | x, [], _ => rfl
  | x, y :: l, h => by
    have h : (!ltCps (T y).cps.toList (T x).cps.toList && risingS (T y) (l.map T)) = true := h
    rw [Bool.and_eq_true, T_list, T_list, ltCps_eq] at h
    show insT x (sortT (y :: l)) = x :: y :: l
    rw [sortT_rising y l h.2]
    simp only [insT]
    rw [if_neg (by simpa using h.1)]
theorem strs_T : ∀ ys : List Str, ∃ l : List Tx, ys = l.map T
  | [] => ⟨[], rfl⟩
  | y :: ys => by
    obtain ⟨l, rfl⟩ := strs_T ys
    obtain ⟨t, rfl⟩ := T_surj y
    exact ⟨t :: l, rfl⟩
theorem perm_T {a b : List Tx} (h : (a.map T).Perm (b.map T)) : a.Perm b := by
  have e : ∀ l : List Tx, (l.map T).map (fun s : Str => s.cps.toList) = l := fun l => by
    induction l with
    | nil => rfl
    | cons x l ih => rw [List.map_cons, List.map_cons, ih, T_list]
  have := h.map (fun s : Str => s.cps.toList)
  rw [e, e] at this
  exact this
theorem sort_one {ts : List Tx} {ys : List Str} (hp : ys.Perm (ts.map T)) (hs : sortedS ys = true) : ys = (sortT ts).map T := by
  obtain ⟨l, rfl⟩ := strs_T ys
  rw [← sortT_perm (perm_T hp)]
  cases l with
  | nil => rfl
  | cons x l => rw [sortT_rising x l hs]
theorem rvs_strs {K : PySem.W.Frag} {H : Hp} {ρ : List Addr} : ∀ ts : List Tx, RVs K H ρ (ts.map MV.str) ((ts.map T).map V.str)
  | [] => RVs.nil
  | t :: ts => RVs.cons (rv_str.mpr rfl) (rvs_strs ts)
theorem RK.keysOf {K : PySem.W.Frag} {H : Hp} {ρ : List Addr} : ∀ {l : List (MV × MV)} {ks : List (Key × V)} {ts : List Tx}, RK K H ρ l ks → keysOf l = some ts → ks.map (·.1) = (ts.map T).map Sum.inr
  | [], ks, ts, h, e => by
    unfold RK at h
    subst h
    cases e
    rfl
  | (k, d) :: r, ks, ts, h, e => by
    unfold RK at h
    obtain ⟨k', v, t, rfl, h1, h2, h3⟩ := h
    unfold Mi.keysOf textsOf at e
    rw [List.map_cons, List.mapM_cons] at e
    cases k with
    | str s =>
      cases hr : Mi.keysOf r with
      | none =>
        unfold Mi.keysOf textsOf at hr
        rw [hr] at e
        cases e
      | some us =>
        have ih := RK.keysOf h3 hr
        unfold Mi.keysOf textsOf at hr
        rw [hr] at e
        cases e
        cases h1
        rw [List.map_cons, ih]
        rfl
    | _ => cases e
abbrev rSortM (K : PySem.W.Frag) : List V → Hp → VK → Prop := fun xs H Q => (∃ (a : Addr) (kvs : List (Key × V)) (ks : List Str), xs = [.ref a] ∧ Rd H a (.dK kvs) ∧ kvs.map (·.1) = ks.map Sum.inr ∧ ks.length < 64 ∧
    ∀ ys p, ys.Perm ks → sortedS ys = true → H p = none → Q (.ref p) (upd H p (.lst (ys.map V.str)))) ∨ rSortedS K xs H Q
theorem call_sortM {X : Cx} (hc : X.calm = true) : CallR X (.builtin "sorted") (rSortM X.K) := (call_sortedD hc).or cr_sortedS
theorem sim_sorted {C : Cfg} : SimC C fSorted (rSortM C.K) := by
  intro ρ H M ds xs Q G rh rxs p
  unfold fSorted at p
  split at p
  · rename_i k
    obtain ⟨v, rfl, rv⟩ := one_rv rxs
    rw [rv_ref] at rv
    obtain ⟨a, ha, rfl⟩ := rv
    split at p
    · rename_i l hm
      obtain ⟨ks, q1, q2⟩ := rh.at hm ha
      split at p
      · rename_i ts hts
        split at p
        · rename_i h64
          refine .inl ⟨a, ks, ts.map T, rfl, .inl q1, q2.keysOf hts, by rw [List.length_map]; exact h64, fun ys q hp hs hq => ?_⟩
          rw [sort_one hp hs]
          exact p.newL rh (rvs_strs _) hq
        · exact p.elim
      · exact p.elim
    · rename_i l hm
      obtain ⟨ys0, q1, q2⟩ := rh.at hm ha
      split at p
      · rename_i ts hts
        split at p
        · rename_i h64
          have e := texts_rv q2 hts
          refine .inr ⟨a, ts.map T, rfl, by rw [← e]; exact SqL.of q1, by rw [List.length_map]; exact h64, fun ys q hp hs hq => ?_⟩
          rw [sort_one hp hs]
          exact p.newL rh (rvs_strs _) hq
        · exact p.elim
      · exact p.elim
    · exact p.elim
  · exact p.elim
end Mi
set_option maxRecDepth 100000
/-! Comprehensions of dicts, of two clauses. -/
namespace Mi
open PySem PySem.Spec PyProof.Rows L2
section
variable {X : Cx} {C : Cfg} {W : WX}
def dcGo (ni : Ni) (tg : Ftg) (c : Ft) (ek ev : Fe) (env0 : Env) : Nat → Nat → List (MV × MV) → Hm → R (List (MV × MV))
  | 0, _, _, _ => .bad
  | n + 1, k, acc, M => match ni M k with
    | none => .bad
    | some none => .ok acc M
    | some (some x) => (tg x env0 M).bindN fun env1 M1 => (c env1 M1).bindN fun b M2 =>
      if b then (ek env1 M2).bindN fun y M3 => (ev env1 M3).bindN fun z M4 => if isKey y && decide (acc.length < SL) then dcGo ni tg c ek ev env0 n (k + 1) (putD acc y z) M4 else .bad
      else dcGo ni tg c ek ev env0 n (k + 1) acc M2
def eDc (it : Fi) (tg : Ftg) (c : Ft) (ek ev : Fe) (vs : List Nat) : Fe := fun env M => (it env M).bind fun p M1 =>
  (dcGo p.1 tg c ek ev (wipeE env vs) p.2 0 [] M1).bind fun l M2 => .ok (.ref M2.length) (M2 ++ [.dic l])
theorem dc_read {Q : VK} {σ : L2.St} {H : Hp} {it : Fi} {g : Ftg} {c' : Ft} {k' e' : Fe} {vs : List Nat} (h : tE C W (eDc it g c' k' e' vs) σ H Q) : tDc (tIt C W it) (tGt C vs g) (tT C W0 c') (tE C W0 k') (tE C W0 e') vs σ H Q := by
  obtain ⟨ρ, M, env, rh, re, p⟩ := h
  refine ⟨ρ, M, env, rh, re, p.bind.imp (fun pn M1 ρ1 H1 e1 rh1 p2 J ok => ?_) (fun _ _ _ _ _ _ q => q)⟩
  obtain ⟨ni, n0⟩ := pn
  intro D hD
  have re1 : RE C.K H1 ρ1 (wipeE env vs) (wipe σ vs) := (re.mono e1).wipe vs
  refine ⟨fun i m H => ∃ ρ M acc ys, Ext C.K ρ1 ρ H1 (er H D) ∧ RH C ρ H M ∧ D ∉ ρ ∧ H D = some (.dK ys) ∧ RK C.K H ρ acc ys ∧
      Post C ρ (er H D) ((dcGo ni g c' k' e' (wipeE env vs) m i acc M).bind fun l M2 => .ok (.ref M2.length) (M2 ++ [.dic l])) (fun d _ ρ' H' => ∀ v, RV C.K H' ρ' d v → Q v H') (fun x _ ρ' H' => ∀ cls dd, RX C H' ρ' x cls dd → W cls dd σ H'),
    ⟨n0, ρ1, M1, [], [], ?_, rh1.beside hD, rh1.fresh hD, upd_same, RK.nil, ?_⟩, fun i m H h => ?_⟩
  · rw [er_upd, er_free hD]; exact Ext.refl
  · rw [er_upd, er_free hD]; exact p2
  obtain ⟨ρ, M, acc, ys, ex, rh, nD, hD2, ra, p⟩ := h
  have rhE := rh.er nD (show Mut (some (.dK ys)) from trivial) hD2
  have exH : Ext C.K ρ1 ρ H1 H := ex.trans (Ext.ofEr hD2)
  cases m with
  | zero => exact p.elim
  | succ n =>
    unfold dcGo at p
    cases hn : ni M i with
    | none => rw [hn] at p; exact p.elim
    | some o =>
      cases o with
      | none =>
        rw [hn] at p
        have p : Post C ρ (er H D) (.ok (.ref M.length) (M ++ [.dic acc])) (fun d _ ρ' H' => ∀ v, RV C.K H' ρ' d v → Q v H') (fun x _ ρ' H' => ∀ cls dd, RX C H' ρ' x cls dd → W cls dd σ H') := p
        refine .inl ⟨ok.stop ρ H M i exH.toMo rh hn, ?_⟩
        have q1 : Mo C.K ρ ρ H (er H D) := ⟨List.prefix_refl _, fun a xs q => SqT.er (show Mut (some (.dK ys)) from trivial) hD2 q, fun a xs q => FzL.er (show Mut (some (.dK ys)) from trivial) hD2 q⟩
        have q := Post.newD p rhE (ra.mo q1) (er_self (H := H) (D := D))
        rw [er_back hD2] at q
        exact q
      | some x =>
        rw [hn] at p
        have p : Post C ρ (er H D) (((g x (wipeE env vs) M).bindN fun env1 M1 => (c' env1 M1).bindN fun b M2 => if b then (k' env1 M2).bindN fun y M3 => (e' env1 M3).bindN fun z M4 => if isKey y && decide (acc.length < SL) then dcGo ni g c' k' e' (wipeE env vs) n (i + 1) (putD acc y z) M4 else .bad else dcGo ni g c' k' e' (wipeE env vs) n (i + 1) acc M2).bind fun l M2 => .ok (.ref M2.length) (M2 ++ [.dic l])) (fun d _ ρ' H' => ∀ v, RV C.K H' ρ' d v → Q v H') (fun x _ ρ' H' => ∀ cls dd, RX C H' ρ' x cls dd → W cls dd σ H') := p
        rw [R.bindN_bind] at p
        have mu : ∀ {zs : List (Key × V)}, Mut (some (.dK zs)) := fun {_} => trivial
        refine .inr ⟨ok.go ρ H M i x exH.toMo rh hn, fun H => ∃ ρ M acc ys, Ext C.K ρ1 ρ H1 (er H D) ∧ RH C ρ H M ∧ D ∉ ρ ∧ H D = some (.dK ys) ∧ RK C.K H ρ acc ys ∧
          Post C ρ (er H D) ((dcGo ni g c' k' e' (wipeE env vs) n (i + 1) acc M).bind fun l M2 => .ok (.ref M2.length) (M2 ++ [.dic l])) (fun d _ ρ' H' => ∀ v, RV C.K H' ρ' d v → Q v H') (fun x _ ρ' H' => ∀ cls dd, RX C H' ρ' x cls dd → W cls dd σ H'), fun H' h => ⟨n, Nat.lt_succ_self n, h⟩, fun v H' hy => ?_⟩
        obtain ⟨e2, rh2, rv⟩ := ok.yld ρ H M i x v H' exH.toMo rh hn hy
        obtain ⟨e2E, hD3, _⟩ := e2.er mu hD2 nD
        have ra2 := ra.mo e2.toMo
        refine ⟨ρ, M, wipeE env vs, x, _, rh2, re1.mono (exH.trans e2), rv, (Post.er mu hD3 nD (p.ext e2E).bindN).imp (fun env1 M2 ρ2 H2 e3 rh3 ⟨hD4, nD4, p3⟩ σ2 re3 hw => ?_) (fun _ _ _ _ _ _ q => q)⟩
        refine ⟨hw.trans (wipe_wipe σ vs), ?_⟩
        have ra3 := ra2.mo e3.toMo
        have ex3 := (ex.trans e2E).trans (e3.er mu hD3 nD).1
        rw [R.bindN_bind] at p3
        refine ⟨ρ2, M2, env1, rh3, re3, (Post.er mu hD4 nD4 p3.bindN).imp (fun b M3 ρ3 H3 e4 rh4 ⟨hD5, nD5, p4⟩ b' hb => ?_) (fun _ _ _ _ _ _ q => q.elim)⟩
        subst hb
        have ra4 := ra3.mo e4.toMo
        have ex4 := ex3.trans (e4.er mu hD4 nD4).1
        cases b' with
        | false =>
          exact ⟨ρ3, M3, acc, ys, ex4, rh4, nD5, hD5, ra4, p4⟩
        | true =>
          have p4 : Post C ρ3 (er H3 D) (((k' env1 M3).bindN fun y M3 => (e' env1 M3).bindN fun z M4 => if isKey y && decide (acc.length < SL) then dcGo ni g c' k' e' (wipeE env vs) n (i + 1) (putD acc y z) M4 else .bad).bind fun l M2 => .ok (.ref M2.length) (M2 ++ [.dic l])) (fun d _ ρ' H' => ∀ v, RV C.K H' ρ' d v → Q v H') (fun x _ ρ' H' => ∀ cls dd, RX C H' ρ' x cls dd → W cls dd σ H') := p4
          rw [R.bindN_bind] at p4
          refine ⟨ρ3, M3, env1, rh4, re3.mono e4, (Post.er mu hD5 nD5 p4.bindN).imp (fun y M4 ρ4 H4 e5 rh5 ⟨hD6, nD6, p5⟩ w rw_ => ?_) (fun _ _ _ _ _ _ q => q.elim)⟩
          have ra5 := ra4.mo e5.toMo
          have ex5 := ex4.trans (e5.er mu hD5 nD5).1
          rw [R.bindN_bind] at p5
          refine ⟨ρ4, M4, env1, rh5, (re3.mono e4).mono e5, (Post.er mu hD6 nD6 p5.bindN).imp (fun z M5 ρ5 H5 e6 rh6 ⟨hD7, nD7, p6⟩ wz rz => ?_) (fun _ _ _ _ _ _ q => q.elim)⟩
          have ra6 := ra5.mo e6.toMo
          have ex6 := ex5.trans (e6.er mu hD6 nD6).1
          by_cases hl : isKey y && decide (acc.length < SL)
          · rw [if_pos hl] at p6
            rw [Bool.and_eq_true, decide_eq_true_eq] at hl
            obtain ⟨kk, hkk⟩ := key_is hl.1
            refine ⟨ys, kk, key_rv hkk rw_, hD7, by rw [ra6.len, sizeLine_eq]; exact hl.2, ρ5, M5, putD acc y z, putK ys kk wz, ?_, ?_, nD7, upd_same, ?_, ?_⟩
            · rw [er_upd]; exact ex6
            · have q := (rh6.er nD7 mu hD7).beside (o := .dK (putK ys kk wz)) (er_self (H := H5) (D := D))
              rw [upd_er] at q
              exact q
            · have m : Mo C.K ρ5 ρ5 H5 (upd H5 D (.dK (putK ys kk wz))) := by
                have q1 : Mo C.K ρ5 ρ5 H5 (er H5 D) := ⟨List.prefix_refl _, fun a xs q => SqT.er mu hD7 q, fun a xs q => FzL.er mu hD7 q⟩
                have q2 := (Ext.new (C := C) (ρ := ρ5) (o := .dK (putK ys kk wz)) (er_self (H := H5) (D := D))).toMo
                rw [upd_er] at q2
                exact ⟨List.prefix_refl _, fun a xs q => q2.tup a xs (q1.tup a xs q), fun a xs q => q2.fz a xs (q1.fz a xs q)⟩
              exact (RK.put hkk rz ra6).mo m
            · rw [er_upd]; exact p6
          · rw [if_neg hl] at p6
            exact p6.elim
theorem m_dc {kx vx tg iter : Expr} {ifs : List Expr} {scope : Scope} {own : List (Str × Nat)} {pos : Pos} {it : Fi} {g : Ftg} {c' : Ft} {k' e' : Fe} (hc : X.calm = true) (hN : X.N.Nodup) (hi : PI X tg iter (tIt C W it)) (ok : BlkOk X.N X.env.scope scope own)
    (hg : ∀ (s : Shared) (H : Hp) (C' : Addr) (cl : List (Str × Addr)) (fp : List Addr), PG (X.blk s H scope (compEnvC scope cl C' X.env) fp) tg (tGt C (own.map (·.2)) g)) (ht : ∀ (s : Shared) (H : Hp) (C' : Addr) (cl : List (Str × Addr)) (fp : List Addr), PTs (X.blk s H scope (compEnvC scope cl C' X.env) fp) ifs (tT C W0 c'))
    (hk : ∀ (s : Shared) (H : Hp) (C' : Addr) (cl : List (Str × Addr)) (fp : List Addr), PE (X.blk s H scope (compEnvC scope cl C' X.env) fp) kx (tE C W0 k'))
    (he : ∀ (s : Shared) (H : Hp) (C' : Addr) (cl : List (Str × Addr)) (fp : List Addr), PE (X.blk s H scope (compEnvC scope cl C' X.env) fp) vx (tE C W0 e')) (hs : ∀ x, foldedSetIterable iter X.env x = pure x := by intro _; rfl) :
    PE X (.DictComp kx vx [⟨tg, iter, ifs, 0⟩] scope pos) (tE C W (eDc it g c' k' e' (own.map (·.2)))) :=
  PE.imp (pe_dc hc hN hi ok hg ht hk he hs) fun σ H Q h => dc_read h

theorem sw_trueD {kx vx : Expr} {gs : List Comprehension} {scope : Scope} {pos py : Pos} {y : Str} {l : Nat} {env : PySem.Env} (hk : env.scope.kind = .function) (hy : env.scope.names.lookup y = some .local) (hl : (py.line == pos.line) = true)
    (ha : (scope.names.any fun (n, k) => n == y && (k == .local || k == .cell)) = false) : swapsWith (.DictComp kx vx gs scope pos) (some (.Name y py)) l env = pure true := by
  have ky : env.kindOf y = some .local := hy
  have hb : env.blockKind = .function := by unfold PySem.Env.blockKind; rw [hk]; rfl
  unfold swapsWith
  simp only [hb, ky, ha, Expr.pos, hl]
  rfl
theorem m_setDc {i : Nat} {y : Str} {py : Pos} {kx vx tg iter : Expr} {ifs : List Expr} {scope : Scope} {own : List (Str × Nat)} {pos spos : Pos} {it : Fi} {g : Ftg} {c' : Ft} {k' e' : Fe} (hc : X.calm = true) (hN : X.N.Nodup) (hyl : X.env.scope.names.lookup y = some .local)
    (hsw : swapsWith (.DictComp kx vx [⟨tg, iter, ifs, 0⟩] scope pos) (some (.Name y py)) spos.line X.env = pure true) (hi : PI X tg iter (tIt C W it)) (ok : BlkOk X.N X.env.scope scope own)
    (hg : ∀ (s : Shared) (H : Hp) (C' : Addr) (cl : List (Str × Addr)) (fp : List Addr), PG (X.blk s H scope (compEnvC scope cl C' X.env) fp) tg (tGt C (own.map (·.2)) g)) (ht : ∀ (s : Shared) (H : Hp) (C' : Addr) (cl : List (Str × Addr)) (fp : List Addr), PTs (X.blk s H scope (compEnvC scope cl C' X.env) fp) ifs (tT C W0 c'))
    (hk : ∀ (s : Shared) (H : Hp) (C' : Addr) (cl : List (Str × Addr)) (fp : List Addr), PE (X.blk s H scope (compEnvC scope cl C' X.env) fp) kx (tE C W0 k'))
    (he : ∀ (s : Shared) (H : Hp) (C' : Addr) (cl : List (Str × Addr)) (fp : List Addr), PE (X.blk s H scope (compEnvC scope cl C' X.env) fp) vx (tE C W0 e')) (hs : ∀ x, foldedSetIterable iter X.env x = pure x := by intro _; rfl) (hy : X.N[i]? = some y := by rfl) :
    PS X (.Assign [.Name y py] (.DictComp kx vx [⟨tg, iter, ifs, 0⟩] scope pos) spos) (tS C W (sSet i (eDc it g c' k' e' (own.map (·.2))))) := by
  refine ⟨fun pins s σ H D I h => ?_⟩
  obtain ⟨ρ, M, env, rh, re, p⟩ := h
  have p := (p.st re).imp (F' := fun d _ ρ' H' => ∀ v, RV C.K H' ρ' d v → D.nx (σ.set i (some v)) H') (fun d M1 ρ1 H1 e1 rh1 p2 v rv => p2.nx rh1 ((re.mono e1).set i rv)) (fun _ _ _ _ _ _ q => q)
  have h := dc_read (C := C) (W := W) (Q := fun v H' => D.nx (σ.set i (some v)) H') ⟨ρ, M, env, rh, re, p⟩
  rw [exec_Assign_Name_used _ _ _ _ hsw]
  refine wpAny_bind (wpAny_standAt (wpAny_bind ?_))
  show wpAny _ X.A (do let _ ← comprehension (.DictComp kx vx [⟨tg, iter, ifs, 0⟩] scope pos) scope X.env (firstIterPos [⟨tg, iter, ifs, 0⟩] pos) newDict false (eval iter X.env) (some (assign (.Name y py) X.env))) _ _ s
  refine wpAny_bind (thn (dc_core (Qf := fun _ s' => SP X pins D .next s') hc hN I hi ok hg ht hk he hs h fun L C' s' m H' I' q hn f => ?_) fun _ s' hq => wpAny_pure (wpAny_pure hq))
  show wpAny _ _ (assign (.Name y py) X.env (.ref L)) _ _ _
  refine wpAny_assign_Name (store_ok2 (v := V.ref L) I' hN hy (.inl hyl) rfl (fun s2 I2 ⟨a, sb, ha⟩ => ?_) (.inr hyl))
  obtain ⟨f0, f1, f2, f3, f4, f5⟩ := f
  have haC : C' ≠ a := by
    rcases ha with z | z
    · rw [z]; exact f1
    · exact fun e => f4 y a z e.symm
  refine ⟨m, hn.sameBut sb haC, fun h3 sb3 => ?_⟩
  exact ⟨_, H', I2.turned (t' := s2.toks) (fun b o hb e => (sb3.2 b hb).trans e) f0 f1 f3 f4 f5, q⟩

/-! ### two clauses -/
theorem R.bindN_bindN {α β γ : Type} (r : R α) (f : α → Hm → R β) (h : β → Hm → R γ) : (r.bindN f).bindN h = r.bindN fun a M => (f a M).bindN h := by
  cases r <;> rfl
def lc2Go (ni : Ni) (tg : Ftg) (c : Ft) (it1 : Fi) (tg1 : Ftg) (c1 : Ft) (e : Fe) (vs1 : List Nat) (env0 : Env) : Nat → Nat → List MV → Hm → R (List MV)
  | 0, _, _, _ => .bad
  | n + 1, k, acc, M => match ni M k with
    | none => .bad
    | some none => .ok acc M
    | some (some x) => (tg x env0 M).bindN fun env1 M1 => (c env1 M1).bindN fun b M2 =>
      if b then (it1 env1 M2).bindN fun p M3 => (lcGo p.1 tg1 c1 e (wipeE env1 vs1) p.2 0 acc M3).bindN fun acc' M4 => lc2Go ni tg c it1 tg1 c1 e vs1 env0 n (k + 1) acc' M4
      else lc2Go ni tg c it1 tg1 c1 e vs1 env0 n (k + 1) acc M2
def eLc2 (it : Fi) (tg : Ftg) (c : Ft) (it1 : Fi) (tg1 : Ftg) (c1 : Ft) (e : Fe) (vs vs1 : List Nat) : Fe := fun env M => (it env M).bind fun p M1 =>
  (lc2Go p.1 tg c it1 tg1 c1 e vs1 (wipeE env vs) p.2 0 [] M1).bind fun l M2 => .ok (.ref M2.length) (M2 ++ [.lst l])
theorem lc2_read {Q : VK} {σ : L2.St} {H : Hp} {it it1 : Fi} {g g1 : Ftg} {c' c1 : Ft} {e' : Fe} {vs vs1 : List Nat} (h : tE C W (eLc2 it g c' it1 g1 c1 e' vs vs1) σ H Q) :
    tLc2 (tIt C W it) (tGt C vs g) (tT C W0 c') (tIt C W0 it1) (tGt C vs1 g1) (tT C W0 c1) (tE C W0 e') vs vs1 σ H Q := by
  obtain ⟨ρ, M, env, rh, re, p⟩ := h
  refine ⟨ρ, M, env, rh, re, p.bind.imp (fun pn M1 ρ1 H1 e1 rh1 p2 J ok => ?_) (fun _ _ _ _ _ _ q => q)⟩
  obtain ⟨ni, n0⟩ := pn
  intro D hD
  have re1 : RE C.K H1 ρ1 (wipeE env vs) (wipe σ vs) := (re.mono e1).wipe vs
  have mu : ∀ {zs : List V}, Mut (some (.lst zs)) := fun {_} => trivial
  refine ⟨fun i m H => ∃ ρ M acc ys, Ext C.K ρ1 ρ H1 (er H D) ∧ RH C ρ H M ∧ D ∉ ρ ∧ H D = some (.lst ys) ∧ RVs C.K H ρ acc ys ∧
      Post C ρ (er H D) ((lc2Go ni g c' it1 g1 c1 e' vs1 (wipeE env vs) m i acc M).bind fun l M2 => .ok (.ref M2.length) (M2 ++ [.lst l])) (fun d _ ρ' H' => ∀ v, RV C.K H' ρ' d v → Q v H') (fun x _ ρ' H' => ∀ cls dd, RX C H' ρ' x cls dd → W cls dd σ H'),
    ⟨n0, ρ1, M1, [], [], ?_, rh1.beside hD, rh1.fresh hD, upd_same, RVs.nil, ?_⟩, fun i m H h => ?_⟩
  · rw [er_upd, er_free hD]; exact Ext.refl
  · rw [er_upd, er_free hD]; exact p2
  obtain ⟨ρ, M, acc, ys, ex, rh, nD, hD2, ra, p⟩ := h
  have rhE := rh.er nD (show Mut (some (.lst ys)) from trivial) hD2
  have exH : Ext C.K ρ1 ρ H1 H := ex.trans (Ext.ofEr hD2)
  cases m with
  | zero => exact p.elim
  | succ n =>
    unfold lc2Go at p
    cases hn : ni M i with
    | none => rw [hn] at p; exact p.elim
    | some o =>
      cases o with
      | none =>
        rw [hn] at p
        have p : Post C ρ (er H D) (.ok (.ref M.length) (M ++ [.lst acc])) (fun d _ ρ' H' => ∀ v, RV C.K H' ρ' d v → Q v H') (fun x _ ρ' H' => ∀ cls dd, RX C H' ρ' x cls dd → W cls dd σ H') := p
        refine .inl ⟨ok.stop ρ H M i exH.toMo rh hn, ?_⟩
        have q1 : Mo C.K ρ ρ H (er H D) := ⟨List.prefix_refl _, fun a xs q => SqT.er mu hD2 q, fun a xs q => FzL.er mu hD2 q⟩
        have q := Post.newL p rhE (ra.mo q1) (er_self (H := H) (D := D))
        rw [er_back hD2] at q
        exact q
      | some x =>
        rw [hn] at p
        have p : Post C ρ (er H D) (((g x (wipeE env vs) M).bindN fun env1 M1 => (c' env1 M1).bindN fun b M2 => if b then (it1 env1 M2).bindN fun p M3 => (lcGo p.1 g1 c1 e' (wipeE env1 vs1) p.2 0 acc M3).bindN fun acc' M4 => lc2Go ni g c' it1 g1 c1 e' vs1 (wipeE env vs) n (i + 1) acc' M4 else lc2Go ni g c' it1 g1 c1 e' vs1 (wipeE env vs) n (i + 1) acc M2).bind fun l M2 => .ok (.ref M2.length) (M2 ++ [.lst l])) (fun d _ ρ' H' => ∀ v, RV C.K H' ρ' d v → Q v H') (fun x _ ρ' H' => ∀ cls dd, RX C H' ρ' x cls dd → W cls dd σ H') := p
        rw [R.bindN_bind] at p
        refine .inr ⟨ok.go ρ H M i x exH.toMo rh hn, fun H => ∃ ρ M acc ys, Ext C.K ρ1 ρ H1 (er H D) ∧ RH C ρ H M ∧ D ∉ ρ ∧ H D = some (.lst ys) ∧ RVs C.K H ρ acc ys ∧
          Post C ρ (er H D) ((lc2Go ni g c' it1 g1 c1 e' vs1 (wipeE env vs) n (i + 1) acc M).bind fun l M2 => .ok (.ref M2.length) (M2 ++ [.lst l])) (fun d _ ρ' H' => ∀ v, RV C.K H' ρ' d v → Q v H') (fun x _ ρ' H' => ∀ cls dd, RX C H' ρ' x cls dd → W cls dd σ H'), fun H' h => ⟨n, Nat.lt_succ_self n, h⟩, fun v H' hy => ?_⟩
        obtain ⟨e2, rh2, rv⟩ := ok.yld ρ H M i x v H' exH.toMo rh hn hy
        obtain ⟨e2E, hD3, _⟩ := e2.er mu hD2 nD
        have ra2 := ra.mono e2
        refine ⟨ρ, M, wipeE env vs, x, _, rh2, re1.mono (exH.trans e2), rv, (Post.er mu hD3 nD (p.ext e2E).bindN).imp (fun env1 M2 ρ2 H2 e3 rh3 ⟨hD4, nD4, p3⟩ σ2 re3 hw => ?_) (fun _ _ _ _ _ _ q => q)⟩
        refine ⟨hw.trans (wipe_wipe σ vs), ?_⟩
        have ra3 := ra2.mono e3
        have ex3 := (ex.trans e2E).trans (e3.er mu hD3 nD).1
        rw [R.bindN_bind] at p3
        refine ⟨ρ2, M2, env1, rh3, re3, (Post.er mu hD4 nD4 p3.bindN).imp (fun b M3 ρ3 H3 e4 rh4 ⟨hD5, nD5, p4⟩ b' hb => ?_) (fun _ _ _ _ _ _ q => q.elim)⟩
        subst hb
        have ra4 := ra3.mono e4
        have ex4 := ex3.trans (e4.er mu hD4 nD4).1
        cases b' with
        | false =>
          exact ⟨ρ3, M3, acc, ys, ex4, rh4, nD5, hD5, ra4, p4⟩
        | true =>
          have p4 : Post C ρ3 (er H3 D) (((it1 env1 M3).bindN fun p M3 => (lcGo p.1 g1 c1 e' (wipeE env1 vs1) p.2 0 acc M3).bindN fun acc' M4 => lc2Go ni g c' it1 g1 c1 e' vs1 (wipeE env vs) n (i + 1) acc' M4).bind fun l M2 => .ok (.ref M2.length) (M2 ++ [.lst l])) (fun d _ ρ' H' => ∀ v, RV C.K H' ρ' d v → Q v H') (fun x _ ρ' H' => ∀ cls dd, RX C H' ρ' x cls dd → W cls dd σ H') := p4
          rw [R.bindN_bind] at p4
          have re4 : RE C.K H3 ρ3 env1 σ2 := re3.mono e4
          refine ⟨ρ3, M3, env1, rh4, re4, (Post.er mu hD5 nD5 p4.bindN).imp (fun pn1 M4 ρ4 H4 e5 rh5 ⟨hD6, nD6, p5⟩ J1 ok1 => ?_) (fun _ _ _ _ _ _ q => q.elim)⟩
          obtain ⟨ni1, n1⟩ := pn1
          have ra5 := ra4.mono e5
          have ex5 := ex4.trans (e5.er mu hD5 nD5).1
          have re5 : RE C.K H4 ρ4 (wipeE env1 vs1) (wipe σ2 vs1) := (re4.mono e5).wipe vs1
          refine ⟨fun j k H => ∃ ρ M acc ys, Mo C.K ρ4 ρ H4 H ∧ Ext C.K ρ1 ρ H1 (er H D) ∧ RH C ρ H M ∧ D ∉ ρ ∧ H D = some (.lst ys) ∧ RVs C.K H ρ acc ys ∧
              Post C ρ (er H D) (((lcGo ni1 g1 c1 e' (wipeE env1 vs1) k j acc M).bindN fun acc' M4 => lc2Go ni g c' it1 g1 c1 e' vs1 (wipeE env vs) n (i + 1) acc' M4).bind fun l M2 => .ok (.ref M2.length) (M2 ++ [.lst l])) (fun d _ ρ' H' => ∀ v, RV C.K H' ρ' d v → Q v H') (fun x _ ρ' H' => ∀ cls dd, RX C H' ρ' x cls dd → W cls dd σ H'),
            ⟨n1, ρ4, M4, acc, ys, Ext.refl.toMo, ex5, rh5, nD6, hD6, ra5, p5⟩, fun j k H hw1 => ?_⟩
          obtain ⟨ρ, M, acc, ys, exI, ex, rh, nD, hD2, ra, p⟩ := hw1
          cases k with
          | zero => exact p.elim
          | succ n2 =>
            unfold lcGo at p
            cases hn1 : ni1 M j with
            | none => rw [hn1] at p; exact p.elim
            | some o1 =>
              cases o1 with
              | none =>
                rw [hn1] at p
                exact .inl ⟨ok1.stop ρ H M j exI rh hn1, ρ, M, acc, ys, ex, rh, nD, hD2, ra, p⟩
              | some x1 =>
                rw [hn1] at p
                have p : Post C ρ (er H D) ((((g1 x1 (wipeE env1 vs1) M).bindN fun enva Ma => (c1 enva Ma).bindN fun b Mb => if b then (e' enva Mb).bindN fun y Mc => if acc.length < SL then lcGo ni1 g1 c1 e' (wipeE env1 vs1) n2 (j + 1) (acc ++ [y]) Mc else .bad else lcGo ni1 g1 c1 e' (wipeE env1 vs1) n2 (j + 1) acc Mb).bindN fun acc' M4 => lc2Go ni g c' it1 g1 c1 e' vs1 (wipeE env vs) n (i + 1) acc' M4).bind fun l M2 => .ok (.ref M2.length) (M2 ++ [.lst l])) (fun d _ ρ' H' => ∀ v, RV C.K H' ρ' d v → Q v H') (fun x _ ρ' H' => ∀ cls dd, RX C H' ρ' x cls dd → W cls dd σ H') := p
                rw [R.bindN_bindN, R.bindN_bind] at p
                refine .inr ⟨ok1.go ρ H M j x1 exI rh hn1, fun H => ∃ ρ M acc ys, Mo C.K ρ4 ρ H4 H ∧ Ext C.K ρ1 ρ H1 (er H D) ∧ RH C ρ H M ∧ D ∉ ρ ∧ H D = some (.lst ys) ∧ RVs C.K H ρ acc ys ∧
                  Post C ρ (er H D) (((lcGo ni1 g1 c1 e' (wipeE env1 vs1) n2 (j + 1) acc M).bindN fun acc' M4 => lc2Go ni g c' it1 g1 c1 e' vs1 (wipeE env vs) n (i + 1) acc' M4).bind fun l M2 => .ok (.ref M2.length) (M2 ++ [.lst l])) (fun d _ ρ' H' => ∀ v, RV C.K H' ρ' d v → Q v H') (fun x _ ρ' H' => ∀ cls dd, RX C H' ρ' x cls dd → W cls dd σ H'), fun H' h => ⟨n2, Nat.lt_succ_self n2, h⟩, fun v1 H' hy1 => ?_⟩
                obtain ⟨e2, rh2, rv⟩ := ok1.yld ρ H M j x1 v1 H' exI rh hn1 hy1
                obtain ⟨e2E, hD3, _⟩ := e2.er mu hD2 nD
                have ra2 := ra.mono e2
                refine ⟨ρ, M, wipeE env1 vs1, x1, _, rh2, re5.mo (exI.trans e2.toMo), rv, (Post.er mu hD3 nD (p.ext e2E).bindN).imp (fun enva Ma ρ2 H2 e3 rh3 ⟨hD4, nD4, p3⟩ σ3 re3 hw => ?_) (fun _ _ _ _ _ _ q => q)⟩
                refine ⟨hw.trans (wipe_wipe σ2 vs1), ?_⟩
                have ra3 := ra2.mono e3
                have ex3 := (ex.trans e2E).trans (e3.er mu hD3 nD).1
                have ex3' := (exI.trans e2.toMo).trans e3.toMo
                rw [R.bindN_bindN, R.bindN_bind] at p3
                refine ⟨ρ2, Ma, enva, rh3, re3, (Post.er mu hD4 nD4 p3.bindN).imp (fun b M3 ρ3 H3 e4 rh4 ⟨hD5, nD5, p4⟩ b' hb => ?_) (fun _ _ _ _ _ _ q => q.elim)⟩
                subst hb
                have ra4 := ra3.mono e4
                have ex4 := ex3.trans (e4.er mu hD4 nD4).1
                have ex4' := ex3'.trans e4.toMo
                cases b' with
                | false =>
                  exact ⟨ρ3, M3, acc, ys, ex4', ex4, rh4, nD5, hD5, ra4, p4⟩
                | true =>
                  have p4 : Post C ρ3 (er H3 D) ((((e' enva M3).bindN fun y Mc => if acc.length < SL then lcGo ni1 g1 c1 e' (wipeE env1 vs1) n2 (j + 1) (acc ++ [y]) Mc else .bad).bindN fun acc' M4 => lc2Go ni g c' it1 g1 c1 e' vs1 (wipeE env vs) n (i + 1) acc' M4).bind fun l M2 => .ok (.ref M2.length) (M2 ++ [.lst l])) (fun d _ ρ' H' => ∀ v, RV C.K H' ρ' d v → Q v H') (fun x _ ρ' H' => ∀ cls dd, RX C H' ρ' x cls dd → W cls dd σ H') := p4
                  rw [R.bindN_bindN, R.bindN_bind] at p4
                  refine ⟨ρ3, M3, enva, rh4, re3.mono e4, (Post.er mu hD5 nD5 p4.bindN).imp (fun y M4 ρ4 H4 e5 rh5 ⟨hD6, nD6, p5⟩ w rw_ => ?_) (fun _ _ _ _ _ _ q => q.elim)⟩
                  have ra5 := ra4.mono e5
                  have ex5 := ex4.trans (e5.er mu hD5 nD5).1
                  have ex5' := ex4'.trans e5.toMo
                  by_cases hl : acc.length < SL
                  · rw [if_pos hl] at p5
                    have m : Mo C.K ρ4 ρ4 H4 (upd H4 D (.lst (ys ++ [w]))) := by
                      have q1 : Mo C.K ρ4 ρ4 H4 (er H4 D) := ⟨List.prefix_refl _, fun a xs q => SqT.er mu hD6 q, fun a xs q => FzL.er mu hD6 q⟩
                      have q2 := (Ext.new (C := C) (ρ := ρ4) (o := .lst (ys ++ [w])) (er_self (H := H4) (D := D))).toMo
                      rw [upd_er] at q2
                      exact ⟨List.prefix_refl _, fun a xs q => q2.tup a xs (q1.tup a xs q), fun a xs q => q2.fz a xs (q1.fz a xs q)⟩
                    refine ⟨ys, hD6, by rw [ra5.len, sizeLine_eq]; exact hl, ρ4, M4, acc ++ [y], ys ++ [w], ?_, ?_, ?_, nD6, upd_same, ?_, ?_⟩
                    · exact ex5'.trans m
                    · rw [er_upd]; exact ex5
                    · have q := (rh5.er nD6 mu hD6).beside (o := .lst (ys ++ [w])) (er_self (H := H4) (D := D))
                      rw [upd_er] at q
                      exact q
                    · exact (ra5.snoc rw_).mo m
                    · rw [er_upd]; exact p5
                  · rw [if_neg hl] at p5
                    exact p5.elim
theorem m_lc2 {elt tg iter tg1 iter1 : Expr} {ifs ifs1 : List Expr} {scope : Scope} {own : List (Str × Nat)} {vs1 : List Nat} {pos : Pos} {it it1 : Fi} {g g1 : Ftg} {c' c1 : Ft} {e' : Fe} (hc : X.calm = true) (hN : X.N.Nodup) (hi : PI X tg iter (tIt C W it)) (ok : BlkOk X.N X.env.scope scope own) (hv : ∀ i ∈ vs1, i ∈ own.map (·.2))
    (hg : ∀ (s : Shared) (H : Hp) (C' : Addr) (cl : List (Str × Addr)) (fp : List Addr), PG (X.blk s H scope (compEnvC scope cl C' X.env) fp) tg (tGt C (own.map (·.2)) g)) (ht : ∀ (s : Shared) (H : Hp) (C' : Addr) (cl : List (Str × Addr)) (fp : List Addr), PTs (X.blk s H scope (compEnvC scope cl C' X.env) fp) ifs (tT C W0 c'))
    (hi1 : ∀ (s : Shared) (H : Hp) (C' : Addr) (cl : List (Str × Addr)) (fp : List Addr), PI (X.blk s H scope (compEnvC scope cl C' X.env) fp) tg1 iter1 (tIt C W0 it1))
    (hg1 : ∀ (s : Shared) (H : Hp) (C' : Addr) (cl : List (Str × Addr)) (fp : List Addr), PG (X.blk s H scope (compEnvC scope cl C' X.env) fp) tg1 (tGt C vs1 g1)) (ht1 : ∀ (s : Shared) (H : Hp) (C' : Addr) (cl : List (Str × Addr)) (fp : List Addr), PTs (X.blk s H scope (compEnvC scope cl C' X.env) fp) ifs1 (tT C W0 c1))
    (he : ∀ (s : Shared) (H : Hp) (C' : Addr) (cl : List (Str × Addr)) (fp : List Addr), PE (X.blk s H scope (compEnvC scope cl C' X.env) fp) elt (tE C W0 e')) (hs : ∀ x, foldedSetIterable iter X.env x = pure x := by intro _; rfl) (hs1 : ∀ env x, foldedSetIterable iter1 env x = pure x := by intro _ _; rfl) :
    PE X (.ListComp elt [⟨tg, iter, ifs, 0⟩, ⟨tg1, iter1, ifs1, 0⟩] scope pos) (tE C W (eLc2 it g c' it1 g1 c1 e' (own.map (·.2)) vs1)) :=
  PE.imp (pe_lc2 hc hN hi ok hv hg ht hi1 hg1 ht1 he hs hs1) fun σ H Q h => lc2_read h
/-! ### dicts of the text -/
structure WD (K : PySem.W.Frag) (w : World) (mg : Str → Option Value) (x : Str) (l : List (Tx × MV)) : Prop where
  at_ : ∃ p, mg x = some (.ref p) ∧ ∀ s d, l.lookup s = some d → ∃ v, KDct K w p (T s) v ∧ ∀ H ρ, RV K H ρ d v
def eKd (l : List (Tx × MV)) (a : Fe) : Fe := fun env M => (a env M).bind fun x M1 => match x with
  | .str s => (match l.lookup s with
    | some d => .ok d M1
    | none => .bad)
  | _ => .bad
theorem m_kd {x : Str} {l : List (Tx × MV)} {b : Expr} {b' : Fe} {p pos : Pos} (h : WD X.K X.w X.mg x l) (hC : C.K = X.K) (hb : PE X b (tE C W b')) (hg : Gl X x := by rfl) (hd : (x == ("__debug__" : Str)) = false := by decide) (hs : PlainIx b := by intro _ _; rfl) :
    PE X (.Subscript (.Name x p) b pos) (tE C W (eKd l b')) := by
  obtain ⟨q, hm, hq⟩ := h.at_
  refine PE.imp (pe_ix ix_kdict (pe_glob (v := .ref q) hg hm rfl hd) hb hs) fun σ H Q h => ?_
  obtain ⟨ρ, M, env, rh, re, p⟩ := h
  refine ⟨ρ, M, env, rh, re, p.bind.imp (fun y M1 ρ1 H1 e1 rh1 p1 vy ry => ?_) (fun _ _ _ _ _ _ q => q)⟩
  cases y with
  | str s =>
    have p1 : Post C ρ1 H1 (match l.lookup s with
      | some d => .ok d M1
      | none => .bad) (Fv C Q) (fun x _ ρ' H' => ∀ cls dd, RX C H' ρ' x cls dd → W cls dd σ H') := p1
    rw [rv_str] at ry
    subst ry
    cases hl : l.lookup s with
    | none => rw [hl] at p1; exact p1.elim
    | some d =>
      rw [hl] at p1
      obtain ⟨v, k, r⟩ := hq s d hl
      exact ⟨q, T s, v, rfl, rfl, k, p1.val rh1 (by rw [hC]; exact r H1 ρ1)⟩
  | _ => exact p1.elim
end
end Mi
set_option maxRecDepth 100000
/-! t[::-1] of tuples, list of a text. -/
namespace Mi
open PySem PySem.Spec PyProof.Rows L2 HT
section
variable {prog : Program} {w : World} {A : Around} {E : Value → Shared → Prop} {s : Shared}
theorem filterMap_cg {α β : Type} {f g : α → Option β} : ∀ {l : List α}, (∀ x ∈ l, f x = g x) → l.filterMap f = l.filterMap g
  | [], _ => rfl
  | x :: l, h => by
    rw [List.filterMap_cons, List.filterMap_cons, h x List.mem_cons_self, filterMap_cg fun y hy => h y (List.mem_cons_of_mem _ hy)]
theorem adj_rev (n : Nat) : Builtin.Slice.sliceAdjust none none (-1) (n : Int) = ((n : Int) - 1, -1) := by
  unfold Builtin.Slice.sliceAdjust
  simp
  try omega
theorem places_rev (n : Nat) : Builtin.Slice.slicePlaces ((n : Int) - 1) (-1) (-1) = n := by
  unfold Builtin.Slice.slicePlaces
  simp
  try omega
theorem sliceApplied_rev {sl : Addr} {vl vu vs : Value} {n : Nat} {Q : Int × Int × Nat → Shared → Prop} (hs : s.heap.IsSliceOf sl vl vu vs) (pl : IsPart vl none) (pu : IsPart vu none) (ps : IsPart vs (some (-1)))
    (h : Q ((n : Int) - 1, -1, n) s) : wpAny (model prog w) A (Builtin.Slice.sliceApplied (.ref sl) (pure (n : Int))) Q E s := by
  obtain ⟨os, hos, hcs, hds⟩ := id hs
  unfold Builtin.Slice.sliceApplied Builtin.Slice.sliceFields
  refine wpAny_bind (wpAny_bind (wpAny_field hos hds (x := vl) rfl (wpAny_bind (wpAny_field hos hds (x := vu) rfl (wpAny_bind (wpAny_field hos hds (x := vs) rfl (wpAny_pure ?_)))))))
  refine wpAny_bind (slicePart_ ps ?_)
  show wpAny _ _ (if ((-1 : Int) == 0) = true then _ else _) _ _ s
  rw [if_neg (by decide)]
  refine wpAny_bind (slicePart_ pl (wpAny_bind (slicePart_ pu (wpAny_bind (wpAny_pure ?_)))))
  show wpAny _ _ (match Builtin.Slice.sliceAdjust none none (-1) (n : Int) with | (lo, hi) => pure (lo, (-1 : Int), Builtin.Slice.slicePlaces lo hi (-1))) _ _ s
  rw [adj_rev n]
  show wpAny _ _ (pure ((n : Int) - 1, (-1 : Int), Builtin.Slice.slicePlaces ((n : Int) - 1) (-1) (-1))) _ _ s
  rw [places_rev]
  exact wpAny_pure h
theorem pick_rev (xs : Array Value) : ((List.range xs.size).filterMap fun (m : Nat) => xs[(((xs.size : Nat) : Int) - 1 + (m : Int) * (-1)).toNat]?).toArray = xs.toList.reverse.toArray := by
  congr 1
  have e : ((List.range xs.size).filterMap fun (m : Nat) => xs[(((xs.size : Nat) : Int) - 1 + (m : Int) * (-1)).toNat]?) = (List.range xs.size).filterMap fun m => xs.toList.reverse[m]? := by
    refine filterMap_cg fun m hm => ?_
    have hm := List.mem_range.mp hm
    have e1 : (((xs.size : Nat) : Int) - 1 + (m : Int) * (-1)).toNat = xs.size - 1 - m := by omega
    rw [e1, List.getElem?_reverse (by simpa using hm)]
    simp
  rw [e]
  have : ∀ l : List Value, (List.range l.length).filterMap (fun m => l[m]?) = l := by
    intro l
    refine List.ext_getElem? fun i => ?_
    induction l with
    | nil => rfl
    | cons a l ih =>
      rw [List.length_cons, List.range_succ_eq_map, List.filterMap_cons]
      simp only [List.getElem?_cons_zero, List.filterMap_map]
      cases i with
      | zero => rfl
      | succ i =>
        simp only [List.getElem?_cons_succ]
        have : ((fun m => (a :: l)[m]?) ∘ Nat.succ) = fun m => l[m]? := by
          funext m
          rfl
        rw [this]
        have hl : (List.range l.length).filterMap (fun m => l[m]?) = l := by
          clear ih
          induction l with
          | nil => rfl
          | cons b l ih2 =>
            rw [List.length_cons, List.range_succ_eq_map, List.filterMap_cons]
            simp only [List.getElem?_cons_zero, List.filterMap_map]
            have : ((fun m => (b :: l)[m]?) ∘ Nat.succ) = fun m => l[m]? := by
              funext m
              rfl
            rw [this, ih2]
            rfl
        rw [hl]
  have h := this xs.toList.reverse
  rw [List.length_reverse, Array.length_toList] at h
  exact h
theorem getItem_tuple_rev {t sl : Addr} {items : Array Value} {vl vu vs : Value} {Q : Value → Shared → Prop} (ht : IsTup s.heap t items) (hs : s.heap.IsSliceOf sl vl vu vs) (pl : IsPart vl none) (pu : IsPart vu none) (ps : IsPart vs (some (-1)))
    (h : Q (.ref s.heap.objs.size) { s with heap := s.heap.push { cls := .type "tuple", data := .seq items.toList.reverse.toArray } })
    (hsz : items.size ≤ sizeLine) : wpAny (model prog w) A (getItem (.ref t) (.ref sl)) Q E s := by
  have htake : sizeOk (.seq items.toList.reverse.toArray) := by
    show items.toList.reverse.toArray.size ≤ sizeLine
    rw [List.size_toArray, List.length_reverse, Array.length_toList]
    exact hsz
  obtain ⟨os, hos, hcs, hds⟩ := id hs
  have hTs : s.TypeIs (.ref sl) "slice" := ⟨os, hos, hcs⟩
  unfold getItem
  try with_reducible refine wpAny_holding ?_
  first | refine wpAny_bind (wpAny_pure ?_) | skip
  refine wpAny_bind (wpAny_sequenceKey ht.typeIs (by decide) ?_)
  refine wpAny_bind (wpAny_callSpecial?_slot (name := Str.ofString "__getitem__") ht.typeIs PyProof.Rows.slot_tuple_getitem
    (wpAny_call_entry PyProof.Rows.slot_tuple_getitem ht.typeIs entry_tuple_getitem ?_ (args_tuple_getitem _ _)))
  show wpAny _ _ (Builtin.Tuple.tupleItemsOf (.ref t) >>= _) _ _ s
  refine wpAny_bind (tupleItemsOf_ ht ?_)
  refine wpAny_bind (wpAny_typeOf hTs ?_)
  rw [if_pos (by decide)]
  refine wpAny_bind (sliceApplied_rev hs pl pu ps ?_)
  have hno : ¬ ((((items.size : Nat) : Int) - 1 == 0 && (-1 : Int) == 1 && items.size == items.size) = true) := by
    intro q
    rw [Bool.and_eq_true, Bool.and_eq_true] at q
    exact absurd q.1.2 (by decide)
  show wpAny _ _ (if (((items.size : Nat) : Int) - 1 == 0 && (-1 : Int) == 1 && items.size == items.size) = true then _ else _) _ _ s
  rw [if_neg hno, pick_rev]
  first
    | exact wpAny_bind (m := Builtin.Tuple.tupleExact _) (wpAny_newObj_type (wpAny_pure ⟨_, rfl, wpAny_pure h⟩) htake)
    | exact wpAny_bind (m := Builtin.Tuple.tupleExact _) (wpAny_newObj_type (wpAny_bind (wpAny_pure (wpAny_pure ⟨_, rfl, wpAny_pure h⟩))) htake)
    | exact wpAny_bind (wpAny_bind (m := Builtin.Tuple.tupleExact _) (wpAny_newObj_type (wpAny_pure (wpAny_pure ⟨_, rfl, wpAny_pure h⟩)) htake))
    | exact wpAny_bind (wpAny_bind (m := Builtin.Tuple.tupleExact _) (wpAny_newObj_type (wpAny_pure ⟨_, rfl, wpAny_pure h⟩) htake))
end
def tRevT (K : PySem.W.Frag) (te : TE) : TE := fun σ H Q => te σ H fun x H1 => ∃ a xs, x = .ref a ∧ ((SqL K H1 a xs ∧ ∀ p, H1 p = none → Q (.ref p) (upd H1 p (.lst xs.reverse))) ∨ (SqT K H1 a xs ∧ ∀ p, H1 p = none → Q (.ref p) (upd H1 p (.tup xs.reverse))))
theorem pe_revA {X : Cx} {e : Expr} {te : TE} {k : Nat} {p1 p2 p3 pos : Pos} (he : PE X e te) : PE X (.Subscript e (.Slice none none (some (.UnaryOp .USub (.Constant (.int 1) k p1) p2)) p3) pos) (tRevT X.K te) := by
  refine ⟨fun pins s σ H Q I h => ?_⟩
  refine Subscript_ (thn (he.run pins s σ H _ I h) fun v s1 ⟨x, H1, I1, r1, q1⟩ => ?_)
  obtain ⟨a, xs, ex, q⟩ := q1
  subst ex
  cases r1
  have hst : PO X (some (.UnaryOp .USub (.Constant (.int 1) k p1) p2)) (tPart (tUn (rU fun i => .int (-i)) (tC (.int 1)))) := po_some (pe_un un_neg pe_int)
  refine wpAny_Slice (thn (po_none.run pins s1 σ H1 (fun o H2 => o = none ∧ H2 = H1) I1 ⟨rfl, rfl⟩) fun vl s2 ⟨l, H2, I2, pl, el, e2⟩ => ?_)
  subst el e2
  refine thn (po_none.run pins s2 σ H2 (fun o H3 => o = none ∧ H3 = H2) I2 ⟨rfl, rfl⟩) fun vu s3 ⟨u, H3, I3, pu, eu, e3⟩ => ?_
  subst eu e3
  refine thn (hst.run pins s3 σ H3 (fun o H4 => o = some (-1) ∧ H4 = H3) I3 ⟨1, rfl, -1, rfl, rfl, rfl⟩) fun vs s4 ⟨o, H4, I4, ps, eo, e4⟩ => ?_
  subst eo e4
  have I5 : Inv X pins σ H4 { s4 with heap := s4.heap.push { cls := .type "slice", data := .fields #[vl, vu, vs] } } := I4.kept (t' := s4.toks) fun b ob q => Heap.get?_push_of_some _ q
  show wpAny (model X.prog X.w) X.A (subscriptTail e (.Slice none none (some (.UnaryOp .USub (.Constant (.int 1) k p1) p2)) p3) (.ref a) (.ref s4.heap.objs.size)) (EP X pins σ Q) X.xe { s4 with heap := s4.heap.push { cls := .type "slice", data := .fields #[vl, vu, vs] } }
  rcases q with ⟨hx, q⟩ | ⟨hx, q⟩
  · obtain ⟨its, r, ht, hz⟩ := I5.list hx
    have hlen := r.length
    refine tail_any (ops := [.ref a, .ref s4.heap.objs.size]) ht.isList.typeIs (PySem.slot_list_getitem.lookup) ?_ (by with_unfolding_all rfl)
    refine wpAny_getItem_list_slice ht.isList (Heap.IsSliceOf.new _ vl vu vs) pl pu ps (by decide) ?_ (by rw [List.size_toArray]; omega)
    rw [PySem.W.krv_pick]
    refine ⟨.ref _, _, I5.laid (t' := s4.toks) (o := .lst xs.reverse) (fun b ob q => Heap.get?_push_of_some _ q) (Nat.le_refl _) ?_, rfl, q _ (I5.hok.fresh (Nat.le_refl _))⟩
    exact ⟨by rw [List.length_reverse]; exact hz, _, 0, r.reverse, Heap.get?_push_size _ rfl⟩
  · obtain ⟨its, r, ht, hz⟩ := I5.tuple hx
    have hlen := r.length
    refine tail_any (ops := [.ref a, .ref s4.heap.objs.size]) ht.typeIs (PyProof.Rows.slot_tuple_getitem.lookup) ?_ (by with_unfolding_all rfl)
    refine getItem_tuple_rev ht (Heap.IsSliceOf.new _ vl vu vs) pl pu ps ?_ (by rw [List.size_toArray]; omega)
    refine ⟨.ref _, _, I5.laid (t' := s4.toks) (o := .tup xs.reverse) (fun b ob q => Heap.get?_push_of_some _ q) (Nat.le_refl _) ?_, rfl, q _ (I5.hok.fresh (Nat.le_refl _))⟩
    exact ⟨by rw [List.length_reverse]; exact hz, _, r.reverse, IsTup.new _ _⟩
def fRevA : MV → Hm → R MV
  | .tup l, M => .ok (.tup l.reverse) M
  | .ref k, M => match M[k]? with
    | some (.lst l) => .ok (.ref M.length) (M ++ [.lst l.reverse])
    | _ => .bad
  | _, _ => .bad
section
variable {X : Cx} {C : Cfg} {W : WX}
theorem m_revA {e : Expr} {e' : Fe} {k : Nat} {p1 p2 p3 pos : Pos} (hC : C.K = X.K) (he : PE X e (tE C W e')) : PE X (.Subscript e (.Slice none none (some (.UnaryOp .USub (.Constant (.int 1) k p1) p2)) p3) pos) (tE C W (eUn fRevA e')) := by
  refine PE.imp (pe_revA he) fun σ H Q h => ?_
  obtain ⟨ρ, M, env, rh, re, p⟩ := h
  refine ⟨ρ, M, env, rh, re, p.bind.imp (fun d M1 ρ1 H1 e1 rh1 p2 v rv => ?_) (fun _ _ _ _ _ _ q => q)⟩
  cases d with
  | tup l =>
    rw [rv_tup] at rv
    obtain ⟨a, xs, rfl, h1, h2⟩ := rv
    exact ⟨a, xs, rfl, .inr ⟨by rw [← hC]; exact h1, fun q hq => Post.newT p2 rh1 h2.rev hq⟩⟩
  | ref k =>
    rw [rv_ref] at rv
    obtain ⟨a, ha, rfl⟩ := rv
    have p2 : Post C ρ1 H1 (match M1[k]? with
      | some (.lst l) => .ok (.ref M1.length) (M1 ++ [.lst l.reverse])
      | _ => .bad) (Fv C Q) (fun x _ ρ' H' => ∀ cls dd, RX C H' ρ' x cls dd → W cls dd σ H') := p2
    cases hm : M1[k]? with
    | none => rw [hm] at p2; exact p2.elim
    | some o =>
      rw [hm] at p2
      cases o with
      | lst l =>
        obtain ⟨xs, q1, q2⟩ := rh1.at hm ha
        exact ⟨a, xs, rfl, .inl ⟨SqL.of q1, fun q hq => Post.newL p2 rh1 q2.rev hq⟩⟩
      | _ => exact p2.elim
  | _ => exact p2.elim
end
/-! ### list(x), x a text too -/
def fListA : List MV → Hm → R MV
  | [.str s], M => if s.length ≤ SL then .ok (.ref M.length) (M ++ [.lst (s.map fun c => .str [c])]) else .bad
  | xs, M => fList xs M
def rListS : List V → Hp → VK → Prop := fun xs H Q => ∃ s : Tx, xs = [.str (T s)] ∧ s.length ≤ sizeLine ∧ ∀ l, H l = none → Q (.ref l) (upd H l (.lst (s.map fun c => V.str (T [c]))))
theorem vals_signs {s : Tx} : ∀ {its : List Value} {k : Nat}, its.length + k = s.length → (∀ j v, its[j]? = some v → SignAt (T s) (k + j) v) → Vals ((s.drop k).map fun c => V.str (T [c])) its := by
  intro its
  induction its with
  | nil =>
    intro k hl _
    rw [List.drop_eq_nil_of_le (by simp at hl; omega)]
    exact .nil
  | cons v its ih =>
    intro k hl h
    rw [List.length_cons] at hl
    have hk : k < s.length := by omega
    rw [← List.getElem_cons_drop hk, List.map_cons]
    refine .cons ?_ (ih (by omega) fun j w hj => ?_)
    · obtain ⟨c, u, hc, rfl⟩ := h 0 v rfl
      have hc : s[k]? = some c := by
        have : (T s).cps[k]? = s[k]? := by
          show s.toArray[k]? = s[k]?
          simp
        rw [← this]; exact hc
      rw [List.getElem?_eq_getElem hk] at hc
      cases hc
      exact ⟨u, rfl⟩
    · have := h (j + 1) w hj
      rw [show k + 1 + j = k + (j + 1) by omega]
      exact this
theorem call_listS {X : Cx} (hc : X.calm = true) : CallR X (.type "list") rListS := by
  intro pins s σ H xs us Q I r h
  obtain ⟨t, rfl, hl, q⟩ := h
  obtain ⟨u, rfl, rx⟩ := vals1 r
  obtain ⟨tk, rfl⟩ := rx
  have hsz : (T t).cps.size = t.length := T_len t
  refine call_list_str (I.ok.hd hc) (T t) tk (fun h' tk' acc' c' kp e ho => ?_) (by rw [hsz]; exact hl)
  have hv : Vals (t.map fun c => V.str (T [c])) acc'.toList := by
    have := vals_signs (s := t) (its := acc'.toList) (k := 0) (by rw [Array.length_toList, ho.1, hsz]; omega) fun j v hj => by
      rw [Nat.zero_add]
      exact ho.2 j v (by simpa using hj)
    simpa using this
  exact ⟨.ref s.heap.objs.size, _, I.laid (t' := tk') kp (Nat.le_refl _) (show ObjOk X.prog X.w _ h' _ (.lst _) from ⟨by rw [List.length_map]; exact hl, acc'.toList, c', hv, by simpa using e⟩), rfl, q _ (I.hok.fresh (Nat.le_refl _))⟩
theorem rvs_signs {K : PySem.W.Frag} {H : Hp} {ρ : List Addr} : ∀ s : Tx, RVs K H ρ (s.map fun c => .str [c]) (s.map fun c => V.str (T [c]))
  | [] => RVs.nil
  | c :: s => RVs.cons (rv_str.mpr rfl) (rvs_signs s)
abbrev rListM (K : PySem.W.Frag) : List V → Hp → VK → Prop := fun xs H Q => rListS xs H Q ∨ ∃ p ys, xs = [.ref p] ∧ (SqL K H p ys ∨ SqT K H p ys) ∧ ∀ l, H l = none → Q (.ref l) (upd H l (.lst ys))
theorem call_listM {X : Cx} (hc : X.calm = true) : CallR X (.type "list") (rListM X.K) := (call_listS hc).or call_list_of
theorem sim_listA {C : Cfg} : SimC C fListA (rListM C.K) := by
  intro ρ H M ds xs Q G rh rx p
  unfold fListA at p
  split at p
  · rename_i s
    obtain ⟨v, rfl, r⟩ := one_rv rx
    rw [rv_str] at r
    subst r
    split at p
    · rename_i hl
      exact .inl ⟨s, rfl, by rw [sizeLine_eq]; exact hl, fun l hq => p.newL rh (rvs_signs s) hq⟩
    · exact p.elim
  · exact .inr (sim_list ρ H M _ xs Q G rh rx p)
end Mi
set_option maxRecDepth 100000
/-! Constants of the text. -/
namespace Mi
open PySem PySem.Spec PyProof.Rows L2
section
variable (K : PySem.W.Frag)
mutual
def CV : MV → Value → Prop
  | .non, u => u = .none
  | .bl b, u => u = .bool b
  | .int i, u => ∃ t, u = .int i t
  | .str s, u => ∃ t, u = .str (T s) t
  | .tup l, u => ∃ a, u = .ref a ∧ ∃ o, K.lookup a = some o ∧ o.cls = .type "tuple" ∧ ∃ its n, o.data = .seq its n ∧ its.size ≤ sizeLine ∧ CVs l its.toList
  | _, _ => False
def CVs : List MV → List Value → Prop
  | [], us => us = []
  | d :: ds, us => ∃ u r, us = u :: r ∧ CV d u ∧ CVs ds r
end
end
mutual
theorem CV.rv {K : PySem.W.Frag} : ∀ {d : MV} {u : Value}, CV K d u → ∃ v, RelV v u ∧ ∀ H ρ, RV K H ρ d v
  | .non, u, h => by unfold CV at h; exact ⟨.non, h, fun _ _ => rv_non.mpr rfl⟩
  | .bl b, u, h => by unfold CV at h; exact ⟨.bl b, h, fun _ _ => rv_bl.mpr rfl⟩
  | .int i, u, h => by unfold CV at h; exact ⟨.int i, h, fun _ _ => rv_int.mpr rfl⟩
  | .str s, u, h => by unfold CV at h; exact ⟨.str (T s), h, fun _ _ => rv_str.mpr rfl⟩
  | .tup l, u, h => by
    unfold CV at h
    obtain ⟨a, rfl, o, h1, h2, its, n, h3, h4, h5⟩ := h
    obtain ⟨xs, q1, q2⟩ := CVs.rv h5
    exact ⟨.ref a, rfl, fun H ρ => rv_tup.mpr ⟨a, xs, rfl, .inr ⟨o, its, n, h1, h2, h3, h4, q1⟩, q2 H ρ⟩⟩
  | .ref _, u, h => by unfold CV at h; exact h.elim
  | .rol _, u, h => by unfold CV at h; exact h.elim
theorem CVs.rv {K : PySem.W.Frag} : ∀ {l : List MV} {us : List Value}, CVs K l us → ∃ xs, Vals xs us ∧ ∀ H ρ, RVs K H ρ l xs
  | [], us, h => by unfold CVs at h; subst h; exact ⟨[], .nil, fun _ _ => RVs.nil⟩
  | d :: ds, us, h => by
    unfold CVs at h
    obtain ⟨u, r, rfl, h1, h2⟩ := h
    obtain ⟨v, q1, q2⟩ := CV.rv h1
    obtain ⟨xs, q3, q4⟩ := CVs.rv h2
    exact ⟨v :: xs, .cons q1 q3, fun H ρ => RVs.cons (q2 H ρ) (q4 H ρ)⟩
end
theorem const_of {K : PySem.W.Frag} {h : Heap} {mg : Str → Option Value} {x : Str} {u : Value} {d : MV} (X : K.In h) (G : h.Ns mainGlobals mg) (a : PySem.W.nsIn K mainGlobals x = some (some u)) (c : CV K d u) : ConstAt K mg x d := by
  obtain ⟨v, r, q⟩ := c.rv
  exact ⟨v, u, PySem.W.mg_of X G a, r, q⟩
theorem cv_nil {K : PySem.W.Frag} : CVs K [] [] := by unfold CVs; rfl
theorem cv_cons {K : PySem.W.Frag} {d : MV} {ds : List MV} {u : Value} {us : List Value} (h : CV K d u) (t : CVs K ds us) : CVs K (d :: ds) (u :: us) := by unfold CVs; exact ⟨u, us, rfl, h, t⟩
theorem cv_int {K : PySem.W.Frag} {i : Int} {t : Tok} : CV K (.int i) (.int i t) := by unfold CV; exact ⟨t, rfl⟩
theorem cv_str {K : PySem.W.Frag} {s : Tx} {z : Str} {t : Tok} (h : z = T s) : CV K (.str s) (.str z t) := by unfold CV; exact ⟨t, by rw [h]⟩
theorem cv_bl {K : PySem.W.Frag} {b : Bool} : CV K (.bl b) (.bool b) := by unfold CV; rfl
theorem cv_non {K : PySem.W.Frag} : CV K .non .none := by unfold CV; rfl
theorem cv_tup {K : PySem.W.Frag} {l : List MV} {a : Addr} {od : Option Addr} {its : Array Value} {n : Nat} {sl : Array (Option Value)} (h : K.lookup a = some ⟨.type "tuple", od, .seq its n, sl⟩) (hs : its.size ≤ sizeLine) (c : CVs K l its.toList) : CV K (.tup l) (.ref a) := by
  unfold CV
  exact ⟨a, rfl, _, h, rfl, its, n, rfl, hs, c⟩
/-! ### written dicts -/
def WDs (K : PySem.W.Frag) (p : Addr) : List (Tx × MV) → Prop
  | [] => True
  | q :: l => (∃ u, PySem.W.nsIn K p (T q.1) = some (some u) ∧ CV K q.2 u) ∧ WDs K p l
theorem wd_cons {K : PySem.W.Frag} {p : Addr} {s : Tx} {d : MV} {u : Value} {l : List (Tx × MV)} (h : PySem.W.nsIn K p (T s) = some (some u)) (c : CV K d u) (t : WDs K p l) : WDs K p ((s, d) :: l) := ⟨⟨u, h, c⟩, t⟩
theorem wd_nil {K : PySem.W.Frag} {p : Addr} : WDs K p [] := trivial
theorem wds_at {K : PySem.W.Frag} {p : Addr} : ∀ {l : List (Tx × MV)}, WDs K p l → ∀ s d, l.lookup s = some d → ∃ u, PySem.W.nsIn K p (T s) = some (some u) ∧ CV K d u
  | [], _, s, d, h => by cases h
  | (t, e) :: l, h, s, d, q => by
    rw [List.lookup_cons] at q
    by_cases hs : s = t
    · subst hs
      rw [beq_self_eq_true] at q
      cases q
      exact h.1
    · rw [beq_eq_false_iff_ne.mpr hs] at q
      exact wds_at h.2 s d q
theorem wd_of {K : PySem.W.Frag} {w : World} {h : Heap} {mg : Str → Option Value} {x : Str} {p : Addr} {l : List (Tx × MV)} {es : Array DictEntry} {n : Nat} (X : K.In h) (G : h.Ns mainGlobals mg) (a : PySem.W.nsIn K mainGlobals x = some (some (.ref p)))
    (hl : K.lookup p = some ⟨.type "dict", none, .dict es n, #[]⟩) (hk : PySem.W.KeysLit w.params es.toList) (al : WDs K p l) : WD K w mg x l := by
  refine ⟨p, PySem.W.mg_of X G a, fun s d hs => ?_⟩
  obtain ⟨u, h1, h2⟩ := wds_at al s d hs
  obtain ⟨v, r, q⟩ := h2.rv
  exact ⟨v, ⟨es, n, u, hl, hk, h1, r⟩, q⟩
end Mi
set_option maxRecDepth 100000
namespace Mi
/-! what is left out -/
@[irreducible] def gcQ (M M' : Hm) (d : MV) (Q : MV → Hm → Prop) : Prop := Q (gcV M M' d).1 (gcV M M' d).2
@[irreducible] def gcE (M M' : Hm) (x : MX) (E : MX → Hm → Prop) : Prop := E x (gcX M M' x)
theorem okH_app : ∀ (M G : Hm) (k : Nat), okH k M (M ++ G) = true
  | [], G, k => rfl
  | a :: M, G, k => by
    show ((beqO a a || rfsO k a) && okH k M (M ++ G)) = true
    rw [beqO_rfl, okH_app M G k]
    rfl
theorem okH_rfl (M : Hm) (k : Nat) : okH k M M = true := by
  have := okH_app M [] k
  rwa [List.append_nil] at this
theorem okH_set : ∀ (M M' : Hm) (k a : Nat) (o : MO), okH k M M' = true → rfsO k o = true → okH k M (M'.set a o) = true
  | [], M', k, a, o, _, _ => by cases M' <;> rfl
  | x :: M, [], k, a, o, h, _ => by unfold okH at h; cases h
  | x :: M, y :: M', k, a, o, h, r => by
    unfold okH at h
    rw [Bool.and_eq_true] at h
    cases a with
    | zero =>
      show ((beqO x o || rfsO k o) && okH k M M') = true
      rw [r, h.2, Bool.or_true]
      rfl
    | succ a =>
      show ((beqO x y || rfsO k y) && okH k M (M'.set a o)) = true
      rw [h.1, okH_set M M' k a o h.2 r]
      rfl
theorem okH_more : ∀ (M M' G : Hm) (k : Nat), okH k M M' = true → okH k M (M' ++ G) = true
  | [], M', G, k, _ => by cases M' <;> rfl
  | x :: M, [], G, k, h => by unfold okH at h; cases h
  | x :: M, y :: M', G, k, h => by
    unfold okH at h
    rw [Bool.and_eq_true] at h
    show ((beqO x y || rfsO k y) && okH k M (M' ++ G)) = true
    rw [h.1, okH_more M M' G k h.2]
    rfl
theorem gcV_len {M M' : Hm} {d : MV} (h : M'.length = M.length) : gcV M M' d = (d, M') := by
  unfold gcV
  split
  · split
    · rw [← h, List.take_length]
    · cases d with
      | ref j =>
        simp only
        cases hj : M'[j]? with
        | none => rfl
        | some o =>
          have := (List.getElem?_eq_some_iff.mp hj).1
          simp only
          rw [if_neg]
          intro z
          rw [Bool.and_eq_true, decide_eq_true_eq] at z
          omega
      | _ => rfl
  · rfl
theorem gcQ_len {M M' : Hm} {d : MV} {Q : MV → Hm → Prop} (h : M'.length = M.length) : gcQ M M' d Q = Q d M' := by
  unfold gcQ
  rw [gcV_len h]
@[simp ↓] theorem gcQ_rfl {M : Hm} {d : MV} {Q : MV → Hm → Prop} : gcQ M M d Q = Q d M := gcQ_len rfl
@[simp ↓] theorem gcQ_set {M : Hm} {a : Nat} {o : MO} {d : MV} {Q : MV → Hm → Prop} : gcQ M (M.set a o) d Q = Q d (M.set a o) := gcQ_len List.length_set
/-- what stood may have been changed; what is new is left out -/
theorem gcQ_gen {M M1 G : Hm} {d : MV} {Q : MV → Hm → Prop} (hl : M1.length = M.length) (hk : okH M.length M M1 = true) (h : rfs M.length d = true) : gcQ M (M1 ++ G) d Q = Q d M1 := by
  unfold gcQ gcV
  rw [if_pos (okH_more _ _ _ _ hk), if_pos h]
  show Q d ((M1 ++ G).take M.length) = _
  rw [← hl, List.take_left]
@[simp] theorem gcQ_app {M G : Hm} {d : MV} {Q : MV → Hm → Prop} (h : rfs M.length d = true) : gcQ M (M ++ G) d Q = Q d M := gcQ_gen rfl (okH_rfl _ _) h
@[simp] theorem gcQ_setapp {M G : Hm} {a : Nat} {o : MO} {d : MV} {Q : MV → Hm → Prop} (ho : rfsO M.length o = true) (h : rfs M.length d = true) : gcQ M (M.set a o ++ G) d Q = Q d (M.set a o) :=
  gcQ_gen List.length_set (okH_set _ _ _ _ _ (okH_rfl _ _) ho) h
/-- a new object that is told -/
theorem gcQ_newG {M M1 G : Hm} {i : Nat} {o : MO} {Q : MV → Hm → Prop} (hl : M1.length = M.length) (hk : okH M.length M M1 = true) (hi : G[i]? = some o) (ho : rfsO M.length o = true) : gcQ M (M1 ++ G) (.ref (M.length + i)) Q = Q (.ref M.length) (M1 ++ [o]) := by
  unfold gcQ gcV
  rw [if_pos (okH_more _ _ _ _ hk), if_neg (by unfold rfs; simp)]
  have e : (M1 ++ G)[M.length + i]? = some o := by
    rw [List.getElem?_append_right (by omega), hl, Nat.add_sub_cancel_left]
    exact hi
  simp only [e]
  rw [if_pos (by rw [ho, decide_eq_true (Nat.le_add_right _ _)]; rfl)]
  show Q _ ((M1 ++ G).take M.length ++ [o]) = _
  rw [← hl, List.take_left]
@[simp] theorem gcQ_new {M G : Hm} {i : Nat} {o : MO} {Q : MV → Hm → Prop} (hi : G[i]? = some o) (ho : rfsO M.length o = true) : gcQ M (M ++ G) (.ref (M.length + i)) Q = Q (.ref M.length) (M ++ [o]) := gcQ_newG rfl (okH_rfl _ _) hi ho
@[simp] theorem gcQ_new0 {M G : Hm} {o : MO} {Q : MV → Hm → Prop} (ho : rfsO M.length o = true) : gcQ M (M ++ o :: G) (.ref M.length) Q = Q (.ref M.length) (M ++ [o]) := gcQ_new (i := 0) rfl ho
@[simp] theorem gcQ_setnew0 {M G : Hm} {a : Nat} {o u : MO} {Q : MV → Hm → Prop} (hu : rfsO M.length u = true) (ho : rfsO M.length o = true) : gcQ M (M.set a u ++ o :: G) (.ref M.length) Q = Q (.ref M.length) (M.set a u ++ [o]) :=
  gcQ_newG (i := 0) List.length_set (okH_set _ _ _ _ _ (okH_rfl _ _) hu) rfl ho
@[simp] theorem gcQ_setnew {M G : Hm} {a i : Nat} {o u : MO} {Q : MV → Hm → Prop} (hu : rfsO M.length u = true) (hi : G[i]? = some o) (ho : rfsO M.length o = true) : gcQ M (M.set a u ++ G) (.ref (M.length + i)) Q = Q (.ref M.length) (M.set a u ++ [o]) :=
  gcQ_newG List.length_set (okH_set _ _ _ _ _ (okH_rfl _ _) hu) hi ho
theorem gcX_gen {M M1 G : Hm} {x : MX} {E : MX → Hm → Prop} (hl : M1.length = M.length) (hk : okH M.length M M1 = true) (h : (match x.fs with | none => true | some fs => rfsF M.length fs) = true) : gcE M (M1 ++ G) x E = E x M1 := by
  unfold gcE gcX
  rw [if_pos (okH_more _ _ _ _ hk)]
  have e : (M1 ++ G).take M.length = M1 := by rw [← hl, List.take_left]
  cases hx : x.fs with
  | none => simp only [hx, e]
  | some fs =>
    rw [hx] at h
    simp only
    rw [if_pos h, e]
@[simp] theorem gcE_app {M G : Hm} {c : Nat} {E : MX → Hm → Prop} : gcE M (M ++ G) ⟨c, none⟩ E = E ⟨c, none⟩ M := gcX_gen rfl (okH_rfl _ _) rfl
@[simp] theorem gcE_rfl {M : Hm} {x : MX} {E : MX → Hm → Prop} : gcE M M x E = E x M := by
  unfold gcE gcX
  split
  · cases x.fs with
    | none => simp only [List.take_length]
    | some fs =>
      simp only
      split
      · rw [List.take_length]
      · rfl
  · rfl
theorem gcE_len {M M' : Hm} {x : MX} {E : MX → Hm → Prop} (h : M'.length = M.length) : gcE M M' x E = E x M' := by
  unfold gcE gcX
  split
  · cases x.fs with
    | none => simp only [← h, List.take_length]
    | some fs =>
      simp only
      split
      · rw [← h, List.take_length]
      · rfl
  · rfl
@[simp] theorem rfs_non {k : Nat} : rfs k .non = true := by unfold rfs; rfl
@[simp] theorem rfs_bl {k : Nat} {b : Bool} : rfs k (.bl b) = true := by unfold rfs; rfl
@[simp] theorem rfs_int {k : Nat} {i : Int} : rfs k (.int i) = true := by unfold rfs; rfl
@[simp] theorem rfs_str {k : Nat} {s : Tx} : rfs k (.str s) = true := by unfold rfs; rfl
@[simp] theorem rfs_ref {k i : Nat} : rfs k (.ref i) = decide (i < k) := by unfold rfs; rfl
@[simp] theorem rfs_tup {k : Nat} {l : List MV} : rfs k (.tup l) = rfsL k l := by unfold rfs; rfl
@[simp] theorem rfs_rol {k : Nat} {l : List MV} : rfs k (.rol l) = rfsL k l := by unfold rfs; rfl
@[simp] theorem rfsL_nil {k : Nat} : rfsL k [] = true := by unfold rfsL; rfl
@[simp] theorem rfsL_cons {k : Nat} {d : MV} {l : List MV} : rfsL k (d :: l) = (rfs k d && rfsL k l) := by rw [rfsL]
@[simp] theorem rfsL_app {k : Nat} : ∀ {l m : List MV}, rfsL k (l ++ m) = (rfsL k l && rfsL k m)
  | [], m => by simp
  | d :: l, m => by
    show rfsL k (d :: (l ++ m)) = _
    rw [rfsL_cons, rfsL_cons, rfsL_app, Bool.and_assoc]
theorem rfsL_iff {k : Nat} : ∀ {l : List MV}, rfsL k l = true ↔ ∀ d ∈ l, rfs k d = true
  | [] => by simp
  | d :: l => by
    rw [rfsL_cons, Bool.and_eq_true, rfsL_iff]
    simp
@[simp] theorem rfsL_strs {k : Nat} {l : List Tx} : rfsL k (l.map MV.str) = true := by
  rw [rfsL_iff]
  intro d hd
  obtain ⟨s, _, rfl⟩ := List.mem_map.mp hd
  simp
@[simp] theorem rfsL_ints {k : Nat} {l : List Int} : rfsL k (l.map MV.int) = true := by
  rw [rfsL_iff]
  intro d hd
  obtain ⟨s, _, rfl⟩ := List.mem_map.mp hd
  simp
@[simp] theorem rfsO_lst {k : Nat} {l : List MV} : rfsO k (.lst l) = rfsL k l := rfl
@[simp] theorem rfsO_dic {k : Nat} {l : List (MV × MV)} : rfsO k (.dic l) = rfsP k l := rfl
@[simp] theorem rfsO_ins {k c : Nat} {l : List (Tx × MV)} : rfsO k (.ins c l) = rfsF k l := rfl
@[simp] theorem rfsP_nil {k : Nat} : rfsP k [] = true := rfl
@[simp] theorem rfsP_cons {k : Nat} {p : MV × MV} {l : List (MV × MV)} : rfsP k (p :: l) = (rfs k p.2 && rfsP k l) := rfl
@[simp] theorem rfsF_nil {k : Nat} : rfsF k [] = true := rfl
@[simp] theorem rfsF_cons {k : Nat} {p : Tx × MV} {l : List (Tx × MV)} : rfsF k (p :: l) = (rfs k p.2 && rfsF k l) := rfl
mutual
theorem rfs_le {k k' : Nat} (h : k ≤ k') : ∀ {d : MV}, rfs k d = true → rfs k' d = true
  | .non, _ => by simp
  | .bl _, _ => by simp
  | .int _, _ => by simp
  | .str _, _ => by simp
  | .tup l, q => by rw [rfs_tup] at q ⊢; exact rfsL_le h q
  | .ref i, q => by
    rw [rfs_ref, decide_eq_true_eq] at q ⊢
    omega
  | .rol l, q => by rw [rfs_rol] at q ⊢; exact rfsL_le h q
theorem rfsL_le {k k' : Nat} (h : k ≤ k') : ∀ {l : List MV}, rfsL k l = true → rfsL k' l = true
  | [], _ => by simp
  | d :: l, q => by
    rw [rfsL_cons, Bool.and_eq_true] at q ⊢
    exact ⟨rfs_le h q.1, rfsL_le h q.2⟩
end
/-- no places in it -/
def Pu (d : MV) : Prop := rfs 0 d = true
theorem Pu.rf {d : MV} (h : Pu d) (k : Nat) : rfs k d = true := rfs_le (Nat.zero_le k) h
theorem Pu.tup {l : List MV} (h : ∀ d ∈ l, Pu d) : Pu (.tup l) := by unfold Pu; rw [rfs_tup]; exact rfsL_iff.mpr h
theorem Pu.of {l : List MV} (h : Pu (.tup l)) : ∀ d ∈ l, Pu d := by unfold Pu at h; rw [rfs_tup] at h; exact rfsL_iff.mp h
@[simp] theorem pu_int {i : Int} : Pu (.int i) := rfs_int
@[simp] theorem pu_str {s : Tx} : Pu (.str s) := rfs_str
@[simp] theorem pu_bl {b : Bool} : Pu (.bl b) := rfs_bl
@[simp] theorem pu_non : Pu .non := rfs_non
@[simp] theorem pu_nil : Pu (.tup []) := Pu.tup fun _ h => absurd h List.not_mem_nil
@[simp] theorem pu_cons {d : MV} {l : List MV} : Pu (.tup (d :: l)) ↔ Pu d ∧ Pu (.tup l) := ⟨fun h => ⟨h.of d List.mem_cons_self, Pu.tup fun e he => h.of e (List.mem_cons_of_mem _ he)⟩, fun h => Pu.tup fun e he => by
  rcases List.mem_cons.mp he with q | q
  · rw [q]; exact h.1
  · exact h.2.of e q⟩
@[simp] theorem pu_app {l m : List MV} : Pu (.tup (l ++ m)) ↔ Pu (.tup l) ∧ Pu (.tup m) := ⟨fun h => ⟨Pu.tup fun e he => h.of e (List.mem_append_left _ he), Pu.tup fun e he => h.of e (List.mem_append_right _ he)⟩, fun h => Pu.tup fun e he => by
  rcases List.mem_append.mp he with q | q
  · exact h.1.of e q
  · exact h.2.of e q⟩
theorem Pu.rfL {l : List MV} (h : ∀ d ∈ l, Pu d) (k : Nat) : rfsL k l = true := rfsL_iff.mpr fun d hd => (h d hd).rf k
@[simp] theorem okH_nil {k : Nat} {M' : Hm} : okH k [] M' = true := by cases M' <;> rfl
@[simp] theorem okH_cons {k : Nat} {a b : MO} {M M' : Hm} : okH k (a :: M) (b :: M') = ((beqO a b || rfsO k b) && okH k M M') := rfl
@[simp] theorem beqO_self (a : MO) : beqO a a = true := beqO_rfl a
theorem okH_both : ∀ (M G G' : Hm) (k : Nat), okH k G G' = true → okH k (M ++ G) (M ++ G') = true
  | [], _, _, _, h => h
  | a :: M, G, G', k, h => by
    show ((beqO a a || rfsO k a) && okH k (M ++ G) (M ++ G')) = true
    rw [beqO_rfl, okH_both M G G' k h]
    rfl
theorem okH_len : ∀ {M M' : Hm} {k : Nat}, okH k M M' = true → M.length ≤ M'.length
  | [], _, _, _ => Nat.zero_le _
  | a :: M, [], k, h => by unfold okH at h; cases h
  | a :: M, b :: M', k, h => by
    unfold okH at h
    rw [Bool.and_eq_true] at h
    have := okH_len h.2
    simp only [List.length_cons]
    omega
theorem gcQ_any {M M' : Hm} {d : MV} {Q : MV → Hm → Prop} (hk : okH M.length M M' = true) (h : rfs M.length d = true) : gcQ M M' d Q = Q d (M'.take M.length) := by
  unfold gcQ gcV
  rw [if_pos hk, if_pos h]
@[simp] theorem gcQ_pre {M G G' : Hm} {d : MV} {Q : MV → Hm → Prop} (hk : okH (M.length + G.length) G G' = true) (h : rfs (M.length + G.length) d = true) : gcQ (M ++ G) (M ++ G') d Q = Q d (M ++ G'.take G.length) := by
  rw [gcQ_any (by rw [List.length_append]; exact okH_both M G G' _ hk) (by rw [List.length_append]; exact h), List.length_append, List.take_length_add_append]
@[simp] theorem gcQ_preset {M G G' : Hm} {a : Nat} {o : MO} {d : MV} {Q : MV → Hm → Prop} (ho : rfsO (M.length + G.length) o = true) (hk : okH (M.length + G.length) G G' = true) (h : rfs (M.length + G.length) d = true) : gcQ (M ++ G) (M.set a o ++ G') d Q = Q d (M.set a o ++ G'.take G.length) := by
  have hk2 : okH (M ++ G).length (M ++ G) (M.set a o ++ G') = true := by
    rw [List.length_append]
    by_cases ha : a < M.length
    · rw [← List.set_append_left _ _ ha]
      exact okH_set _ _ _ _ _ (okH_both M G G' _ hk) ho
    · rw [List.set_eq_of_length_le (Nat.le_of_not_lt ha)]
      exact okH_both M G G' _ hk
  rw [gcQ_any hk2 (by rw [List.length_append]; exact h), List.length_append]
  have : (M.set a o).length = M.length := List.length_set
  rw [← this, List.take_length_add_append]
end Mi
set_option maxRecDepth 100000
/-! What must hold ahead of a piece: the small language's own logic. No program here. -/
namespace Mi
/-- what holds by sight, but not to be seen through -/
theorem nr {P Q : Prop} (h : P = Q) : P = Q := h
@[simp] theorem SL_eq : SL = 16777216 := rfl
section
variable {α β : Type}
variable {Q : α → Hm → Prop} {Qb : β → Hm → Prop} {E : MX → Hm → Prop} {M : Hm} {env : Env}
end
def rdO {α : Type} (o : Option α) (F : α → Prop) : Prop := match o with | some d => F d | none => False
@[simp ↓] theorem rdO_some {α : Type} {d : α} {F : α → Prop} : rdO (some d) F = F d := nr rfl
@[simp ↓] theorem rdO_none {α : Type} {F : α → Prop} : rdO none F = False := nr rfl
theorem rdO_of {α : Type} {o : Option α} {d : α} (h : o = some d) (F : α → Prop) : rdO o F = F d := by rw [h]; rfl
def rdE : Env → Nat → (MV → Prop) → Prop
  | some d :: _, 0, F => F d
  | _ :: env, n + 1, F => rdE env n F
  | _, _, _ => False
@[simp ↓] theorem rdE_0 {d : MV} {env : Env} {F : MV → Prop} : rdE (some d :: env) 0 F = F d := nr rfl
@[simp ↓] theorem rdE_s {d : Option MV} {env : Env} {n : Nat} {F : MV → Prop} : rdE (d :: env) (n + 1) F = rdE env n F := by cases d <;> rfl
theorem rdE_eq {F : MV → Prop} : ∀ (env : Env) (i : Nat), rdE env i F = (match env[i]? with | some (some d) => F d | _ => False)
  | [], i => by cases i <;> rfl
  | none :: env, 0 => rfl
  | some d :: env, 0 => rfl
  | none :: env, n + 1 => rdE_eq env n
  | some d :: env, n + 1 => rdE_eq env n
def rdL (M : Hm) (k : Nat) (F : List MV → Prop) : Prop := match M[k]? with | some (.lst l) => F l | _ => False
theorem rdL_of {M : Hm} {k : Nat} {l : List MV} (h : M[k]? = some (.lst l)) (F : List MV → Prop) : rdL M k F = F l := by
  unfold rdL
  rw [h]
@[simp ↓] theorem rdL_last {M : Hm} {l : List MV} {F : List MV → Prop} : rdL (M ++ [.lst l]) M.length F = F l := rdL_of (by simp) F
theorem get_app {M G : Hm} {i : Nat} : (M ++ G)[M.length + i]? = G[i]? := by
  rw [List.getElem?_append_right (Nat.le_add_right _ _), Nat.add_sub_cancel_left]
theorem get_app0 {M G : Hm} : (M ++ G)[M.length]? = G[0]? := get_app (i := 0)
theorem get_old {M G : Hm} {k : Nat} {o : MO} (h : M[k]? = some o) : (M ++ G)[k]? = some o := by
  rw [List.getElem?_append_left (List.getElem?_eq_some_iff.mp h).1]
  exact h
def rdGo : Hm → Nat → (List MV → Prop) → Prop
  | .lst l :: _, 0, F => F l
  | _ :: G, n + 1, F => rdGo G n F
  | _, _, _ => False
@[simp ↓] theorem rdGo_0 {l : List MV} {G : Hm} {F : List MV → Prop} : rdGo (.lst l :: G) 0 F = F l := nr rfl
@[simp ↓] theorem rdGo_s {o : MO} {G : Hm} {n : Nat} {F : List MV → Prop} : rdGo (o :: G) (n + 1) F = rdGo G n F := by cases o <;> rfl
theorem rdGo_eq {F : List MV → Prop} : ∀ (G : Hm) (i : Nat), rdGo G i F = (match G[i]? with | some (.lst l) => F l | _ => False)
  | [], i => by cases i <;> rfl
  | .lst l :: G, 0 => rfl
  | .dic l :: G, 0 => rfl
  | .ins c l :: G, 0 => rfl
  | .lst l :: G, n + 1 => rdGo_eq G n
  | .dic l :: G, n + 1 => rdGo_eq G n
  | .ins c l :: G, n + 1 => rdGo_eq G n
@[simp ↓] theorem rdL_app {M G : Hm} {i : Nat} {F : List MV → Prop} : rdL (M ++ G) (M.length + i) F = rdGo G i F := by
  unfold rdL
  rw [get_app, rdGo_eq]
@[simp ↓] theorem rdL_app0 {M G : Hm} {F : List MV → Prop} : rdL (M ++ G) M.length F = rdGo G 0 F := rdL_app (i := 0)
theorem rdL_old {M G : Hm} {k : Nat} {l : List MV} (h : M[k]? = some (.lst l)) {F : List MV → Prop} : rdL (M ++ G) k F = F l := rdL_of (get_old h) F
def rdD (M : Hm) (k : Nat) (F : List (MV × MV) → Prop) : Prop := match M[k]? with | some (.dic l) => F l | _ => False
theorem rdD_of {M : Hm} {k : Nat} {l : List (MV × MV)} (h : M[k]? = some (.dic l)) (F : List (MV × MV) → Prop) : rdD M k F = F l := by
  unfold rdD
  rw [h]
def rdGd : Hm → Nat → (List (MV × MV) → Prop) → Prop
  | .dic l :: _, 0, F => F l
  | _ :: G, n + 1, F => rdGd G n F
  | _, _, _ => False
@[simp ↓] theorem rdGd_0 {l : List (MV × MV)} {G : Hm} {F : List (MV × MV) → Prop} : rdGd (.dic l :: G) 0 F = F l := nr rfl
@[simp ↓] theorem rdGd_s {o : MO} {G : Hm} {n : Nat} {F : List (MV × MV) → Prop} : rdGd (o :: G) (n + 1) F = rdGd G n F := by cases o <;> rfl
theorem rdGd_eq {F : List (MV × MV) → Prop} : ∀ (G : Hm) (i : Nat), rdGd G i F = (match G[i]? with | some (.dic l) => F l | _ => False)
  | [], i => by cases i <;> rfl
  | .lst l :: G, 0 => rfl
  | .dic l :: G, 0 => rfl
  | .ins c l :: G, 0 => rfl
  | .lst l :: G, n + 1 => rdGd_eq G n
  | .dic l :: G, n + 1 => rdGd_eq G n
  | .ins c l :: G, n + 1 => rdGd_eq G n
@[simp ↓] theorem rdD_app {M G : Hm} {i : Nat} {F : List (MV × MV) → Prop} : rdD (M ++ G) (M.length + i) F = rdGd G i F := by
  unfold rdD
  rw [get_app, rdGd_eq]
@[simp ↓] theorem rdD_app0 {M G : Hm} {F : List (MV × MV) → Prop} : rdD (M ++ G) M.length F = rdGd G 0 F := rdD_app (i := 0)
theorem rdD_old {M G : Hm} {k : Nat} {l : List (MV × MV)} (h : M[k]? = some (.dic l)) {F : List (MV × MV) → Prop} : rdD (M ++ G) k F = F l := rdD_of (get_old h) F
@[simp] theorem set_app {M G : Hm} {i : Nat} {o : MO} : (M ++ G).set (M.length + i) o = M ++ G.set i o := by
  rw [List.set_append_right _ _ (Nat.le_add_right _ _), Nat.add_sub_cancel_left]
@[simp] theorem set_app0 {M G : Hm} {o : MO} : (M ++ G).set M.length o = M ++ G.set 0 o := set_app (i := 0)
theorem set_old {M G : Hm} {k : Nat} {o u : MO} (h : M[k]? = some u) : (M ++ G).set k o = M.set k o ++ G := List.set_append_left _ _ (List.getElem?_eq_some_iff.mp h).1
/-- which kind stands there -/
def rdLD (M : Hm) (k : Nat) (F : List MV → Prop) (F2 : List (MV × MV) → Prop) : Prop := match M[k]? with | some (.lst l) => F l | some (.dic l) => F2 l | _ => False
theorem rdLD_l {M : Hm} {k : Nat} {l : List MV} (h : M[k]? = some (.lst l)) (F : List MV → Prop) (F2 : List (MV × MV) → Prop) : rdLD M k F F2 = F l := by
  unfold rdLD
  rw [h]
theorem rdLD_d {M : Hm} {k : Nat} {l : List (MV × MV)} (h : M[k]? = some (.dic l)) (F : List MV → Prop) (F2 : List (MV × MV) → Prop) : rdLD M k F F2 = F2 l := by
  unfold rdLD
  rw [h]
def rdGb : Hm → Nat → (List MV → Prop) → (List (MV × MV) → Prop) → Prop
  | .lst l :: _, 0, F, _ => F l
  | .dic l :: _, 0, _, F => F l
  | _ :: G, n + 1, F, F2 => rdGb G n F F2
  | _, _, _, _ => False
@[simp ↓] theorem rdGb_0l {l : List MV} {G : Hm} {F : List MV → Prop} {F2 : List (MV × MV) → Prop} : rdGb (.lst l :: G) 0 F F2 = F l := nr rfl
@[simp ↓] theorem rdGb_0d {l : List (MV × MV)} {G : Hm} {F : List MV → Prop} {F2 : List (MV × MV) → Prop} : rdGb (.dic l :: G) 0 F F2 = F2 l := nr rfl
@[simp ↓] theorem rdGb_s {o : MO} {G : Hm} {n : Nat} {F : List MV → Prop} {F2 : List (MV × MV) → Prop} : rdGb (o :: G) (n + 1) F F2 = rdGb G n F F2 := by cases o <;> rfl
theorem rdGb_eq {F : List MV → Prop} {F2 : List (MV × MV) → Prop} : ∀ (G : Hm) (i : Nat), rdGb G i F F2 = (match G[i]? with | some (.lst l) => F l | some (.dic l) => F2 l | _ => False)
  | [], i => by cases i <;> rfl
  | .lst l :: G, 0 => rfl
  | .dic l :: G, 0 => rfl
  | .ins c l :: G, 0 => rfl
  | .lst l :: G, n + 1 => rdGb_eq G n
  | .dic l :: G, n + 1 => rdGb_eq G n
  | .ins c l :: G, n + 1 => rdGb_eq G n
@[simp ↓] theorem rdLD_app {M G : Hm} {i : Nat} {F : List MV → Prop} {F2 : List (MV × MV) → Prop} : rdLD (M ++ G) (M.length + i) F F2 = rdGb G i F F2 := by
  unfold rdLD
  rw [get_app, rdGb_eq]
@[simp ↓] theorem rdLD_app0 {M G : Hm} {F : List MV → Prop} {F2 : List (MV × MV) → Prop} : rdLD (M ++ G) M.length F F2 = rdGb G 0 F F2 := rdLD_app (i := 0)
theorem rdL_set {M : Hm} {k : Nat} {u : MO} (h : M[k]? = some u) (l : List MV) (F : List MV → Prop) : rdL (M.set k (.lst l)) k F = F l :=
  rdL_of (by rw [List.getElem?_set_self (List.getElem?_eq_some_iff.mp h).1]) F
theorem rdL_ne {M : Hm} {k a : Nat} {o : MO} (h : a ≠ k) (F : List MV → Prop) : rdL (M.set a o) k F = rdL M k F := by
  unfold rdL
  rw [List.getElem?_set_ne h]
def rdI {α : Type} (l : List α) (i : Int) (F : α → Prop) : Prop := rdO (L2.atI l i) F
def rdN {α : Type} : List α → Nat → (α → Prop) → Prop
  | x :: _, 0, F => F x
  | _ :: l, n + 1, F => rdN l n F
  | [], _, _ => False
@[simp ↓] theorem rdN_0 {α : Type} {x : α} {l : List α} {F : α → Prop} : rdN (x :: l) 0 F = F x := nr rfl
@[simp ↓] theorem rdN_s {α : Type} {x : α} {l : List α} {n : Nat} {F : α → Prop} : rdN (x :: l) (n + 1) F = rdN l n F := nr rfl
theorem rdN_eq {α : Type} {F : α → Prop} : ∀ (l : List α) (i : Nat), rdN l i F = (match l[i]? with | some d => F d | none => False)
  | [], i => by cases i <;> rfl
  | x :: l, 0 => rfl
  | x :: l, n + 1 => rdN_eq l n
theorem rdI_of {α : Type} {l : List α} {i : Int} {d : α} (h : L2.atI l i = some d) (F : α → Prop) : rdI l i F = F d := by
  unfold rdI
  rw [h]
  rfl
def rdX (n : Nat) (i : Int) (F : Nat → Prop) : Prop := rdO (L2.ixN n i) F
def rdT (M : Hm) (x : MV) (F : Bool → Prop) : Prop := match truth M x with | some k => F k | none => False
section
variable {M : Hm} {F : Bool → Prop}
@[simp ↓] theorem rdT_non : rdT M .non F = F false := nr rfl
@[simp ↓] theorem rdT_bl {b : Bool} : rdT M (.bl b) F = F b := nr rfl
@[simp ↓] theorem rdT_int {i : Int} : rdT M (.int i) F = F (i != 0) := nr rfl
@[simp ↓] theorem rdT_str {s : Tx} : rdT M (.str s) F = (s.length ≤ SL ∧ F (!s.isEmpty)) := by
  show (match (if s.length ≤ SL then some (!s.isEmpty) else none) with | some k => F k | none => False) = _
  by_cases h : s.length ≤ SL
  · rw [if_pos h]; simp only [h, true_and]
  · rw [if_neg h]; simp only [h, false_and]
@[simp ↓] theorem rdT_tup {l : List MV} : rdT M (.tup l) F = F (!l.isEmpty) := nr rfl
@[simp ↓] theorem rdT_rol {l : List MV} : rdT M (.rol l) F = F (!l.isEmpty) := nr rfl
theorem rdT_lst {k : Nat} {l : List MV} (h : M[k]? = some (.lst l)) : rdT M (.ref k) F = F (!l.isEmpty) := by
  unfold rdT truth
  simp [h]
end
def rdTy (M : Hm) (ty : Ty) (x : MV) (P : Prop) : Prop := if isTy M ty x then P else False
@[simp ↓] theorem rdTy_str {M : Hm} {s : Tx} {P : Prop} : rdTy M .str (.str s) P = P := if_pos rfl
@[simp ↓] theorem rdTy_list {M : Hm} {k : Nat} {P : Prop} : rdTy M .list (.ref k) P = rdL M k fun _ => P := by
  unfold rdTy rdL
  show (if (match M[k]? with | some (.lst _) => true | _ => false) = true then P else False) = _
  cases M[k]? with
  | none => rfl
  | some o => cases o <;> rfl
theorem set_get {M : Hm} {a : Nat} {u : MO} (h : M[a]? = some u) (o : MO) : (M.set a o)[a]? = some o := by
  rw [List.getElem?_set_self (List.getElem?_eq_some_iff.mp h).1]
theorem atI_nat {α : Type} (l : List α) (i : Nat) : L2.atI l (i : Int) = l[i]? := by
  unfold L2.atI L2.ixN
  rw [if_pos (by omega)]
  by_cases h : i < l.length
  · rw [if_pos (by omega)]
    rfl
  · rw [if_neg (by omega)]
    show none = _
    rw [List.getElem?_eq_none (by omega)]
theorem atI_lit {α : Type} (l : List α) (i : Nat) : L2.atI l (@OfNat.ofNat Int i instOfNat) = l[i]? := atI_nat l i
theorem atI_neg1 {α : Type} (l : List α) : L2.atI l (-1) = l[l.length - 1]? := by
  unfold L2.atI L2.ixN
  rw [if_neg (by omega)]
  by_cases h : l = []
  · subst h
    rfl
  · have hp : 0 < l.length := List.length_pos_iff.mpr h
    rw [if_pos (by omega)]
    show l[((-1 : Int) + l.length).toNat]? = _
    congr 1
    omega
theorem ixN_nat {n i : Nat} : L2.ixN n (i : Int) = if i < n then some i else none := by
  unfold L2.ixN
  rw [if_pos (by omega)]
  by_cases h : i < n
  · rw [if_pos (by omega), if_pos h, Int.toNat_natCast]
  · rw [if_neg (by omega), if_neg h]
theorem ixN_lit {n i : Nat} : L2.ixN n (@OfNat.ofNat Int i instOfNat) = if i < n then some i else none := ixN_nat
@[simp ↓] theorem rdI_lit {α : Type} {l : List α} {i : Nat} {F : α → Prop} : rdI l (no_index (@OfNat.ofNat Int i instOfNat)) F = rdN l i F := by
  unfold rdI rdO
  rw [atI_lit, rdN_eq]
@[simp ↓] theorem rdI_neg1 {α : Type} {l : List α} {F : α → Prop} : rdI l (-1) F = rdO l[l.length - 1]? F := by
  unfold rdI
  rw [atI_neg1]
theorem rdI_nat {α : Type} {l : List α} {i : Nat} {F : α → Prop} : rdI l (i : Int) F = rdO l[i]? F := by
  unfold rdI
  rw [atI_nat]
@[simp ↓] theorem rdX_lit {n i : Nat} {F : Nat → Prop} : rdX n (no_index (@OfNat.ofNat Int i instOfNat)) F = (i < n ∧ F i) := by
  unfold rdX rdO
  rw [ixN_lit]
  by_cases h : i < n
  · rw [if_pos h]; simp only [h, true_and]
  · rw [if_neg h]; simp only [h, false_and]
/-- a choice that is not to be seen through -/
structure ifB (k : Bool) (A B : Prop) : Prop where
  t : k = true → A
  f : k = false → B
theorem ifB_eq {k : Bool} {A B : Prop} : ifB k A B = if k then A else B := by
  cases k
  · exact propext ⟨fun h => h.f rfl, fun h => ⟨fun z => (Bool.noConfusion z), fun _ => h⟩⟩
  · exact propext ⟨fun h => h.t rfl, fun h => ⟨fun _ => h, fun z => (Bool.noConfusion z)⟩⟩
@[simp ↓] theorem ifB_true {k : Bool} {A B : Prop} (h : k = true) : ifB k A B = A := by rw [ifB_eq, h]; rfl
@[simp ↓] theorem ifB_false {k : Bool} {A B : Prop} (h : k = false) : ifB k A B = B := by rw [ifB_eq, h]; rfl
theorem ifB_p {c : Prop} [Decidable c] {A B : Prop} (h1 : c → A) (h2 : ¬ c → B) : ifB (decide c) A B := ⟨fun h => h1 (of_decide_eq_true h), fun h => h2 (of_decide_eq_false h)⟩
theorem ite_and {c : Prop} [Decidable c] {A : Prop} : (if c then A else False) = (c ∧ A) := by
  by_cases h : c
  · rw [if_pos h]; simp only [h, true_and]
  · rw [if_neg h]; simp only [h, false_and]
section
variable {Q : MV → Hm → Prop} {Qb : Bool → Hm → Prop} {Ql : List MV → Hm → Prop} {E : MX → Hm → Prop} {M : Hm} {env : Env} {a b : Fe} {t : Fa} {c d : Ft}
@[simp] theorem flatM_str {s : Tx} : flatM (.str s) = true := rfl
@[simp] theorem flatM_int {i : Int} : flatM (.int i) = true := rfl
@[simp] theorem flatM_bl {b : Bool} : flatM (.bl b) = true := rfl
@[simp] theorem flatM_non : flatM .non = true := rfl
@[simp] theorem eqF_ss {a b : Tx} : eqF (.str a) (.str b) = decide (a = b) := rfl
@[simp] theorem eqF_ii {a b : Int} : eqF (.int a) (.int b) = decide (a = b) := by
  show (a == b) = _
  by_cases h : a = b
  · simp [h]
  · simp [h]
@[simp] theorem eqF_si {a : Tx} {b : Int} : eqF (.str a) (.int b) = false := rfl
@[simp] theorem eqF_is {a : Tx} {b : Int} : eqF (.int b) (.str a) = false := rfl
theorem rdO_if {c : Bool} {b : Bool} {F : Bool → Prop} : rdO (if c = true then some b else none) F = (c = true ∧ F b) := by
  cases c
  · simp
  · simp
end

section
variable {Q : Env → Hm → Prop} {E : MX → Hm → Prop} {M : Hm} {env : Env}
section
variable {Q : MV → Hm → Prop}
end
end

section
variable {Q : O → Env → Hm → Prop} {E : MX → Env → Hm → Prop} {M : Hm} {env : Env} {a b : Fs} {e : Fe} {c : Ft}
end
section
variable {Q : Ni × Nat → Hm → Prop} {E : MX → Hm → Prop} {M : Hm} {env : Env} {a : Fe} {t : Fa}
def rdIt (M : Hm) (x : MV) (F : Ni × Nat → Prop) : Prop := match x with
  | .ref i => rdL M i fun l => F (nL i, l.length + 1)
  | .rol l => F (nT l, l.length + 1)
  | .tup l => F (nT l, l.length + 1)
  | .str s => F (nT (s.map fun c => .str [c]), s.length + 1)
  | _ => False
@[simp ↓] theorem rdIt_ref {i : Nat} {F : Ni × Nat → Prop} : rdIt M (.ref i) F = rdL M i fun l => F (nL i, l.length + 1) := nr rfl
@[simp ↓] theorem rdIt_rol {l : List MV} {F : Ni × Nat → Prop} : rdIt M (.rol l) F = F (nT l, l.length + 1) := nr rfl
@[simp ↓] theorem rdIt_tup {l : List MV} {F : Ni × Nat → Prop} : rdIt M (.tup l) F = F (nT l, l.length + 1) := nr rfl
@[simp ↓] theorem rdIt_str {s : Tx} {F : Ni × Nat → Prop} : rdIt M (.str s) F = F (nT (s.map fun c => .str [c]), s.length + 1) := nr rfl
end
section
variable {Q : MV → Hm → Prop} {E : MX → Hm → Prop} {M : Hm} {env : Env} {e : Fe} {c : Ft} {g : Ftg} {it : Fi} {vs : List Nat}
end
theorem w_run_mono {tab : Nat → Option Df} : True := trivial
/-- what stood stands, but at a -/
def But (a : Nat) (M M' : Hm) : Prop := ∀ i o, i ≠ a → M[i]? = some o → M'[i]? = some o
def Pre (M M' : Hm) : Prop := ∀ (i : Nat) o, M[i]? = some o → M'[i]? = some o
theorem Pre.rfl {M : Hm} : Pre M M := fun _ _ h => h
theorem Pre.trans {M M1 M2 : Hm} (h : Pre M M1) (h2 : Pre M1 M2) : Pre M M2 := fun i o q => h2 i o (h i o q)
theorem Pre.app {M l : Hm} : Pre M (M ++ l) := fun i o h => by
  rw [List.getElem?_append_left (List.getElem?_eq_some_iff.mp h).1]
  exact h
theorem Pre.but {a : Nat} {M M' : Hm} (h : Pre M M') : But a M M' := fun i o _ q => h i o q
theorem But.rfl {a : Nat} {M : Hm} : But a M M := fun _ _ _ h => h
theorem But.trans {a : Nat} {M M1 M2 : Hm} (h : But a M M1) (h2 : But a M1 M2) : But a M M2 := fun i o n q => h2 i o n (h i o n q)
theorem But.set {a : Nat} {M : Hm} {o : MO} : But a M (M.set a o) := fun i u n h => by
  rw [List.getElem?_set_ne (Ne.symm n)]
  exact h
theorem Pre.len {M M' : Hm} (h : Pre M M') : M.length ≤ M'.length := by
  rcases Nat.lt_or_ge M'.length M.length with z | z
  · have e := h M'.length M[M'.length] (List.getElem?_eq_getElem z)
    exact absurd (List.getElem?_eq_some_iff.mp e).1 (Nat.lt_irrefl _)
  · exact z
@[simp] theorem get_last {M : Hm} {o : MO} : (M ++ [o])[M.length]? = some o := by simp
@[simp] theorem set_last {M : Hm} {o u : MO} : (M ++ [o]).set M.length u = M ++ [u] := by
  rw [List.set_append_right _ _ (Nat.le_refl _), Nat.sub_self]
  rfl
theorem in62_nat {n : Nat} (h : n < 4611686018427387904) : in62 (n : Int) = true := by
  unfold in62
  rw [Int.natAbs_natCast]
  exact decide_eq_true h

@[simp] theorem cMod_eq {i j : Int} : cMod i j = decide (0 < j) := rfl
theorem cDiv_of {j : Int} (h : cDiv 0 j = true) (i : Int) : cDiv i j = true := h
theorem cMul_r {i j : Int} (h : j.natAbs < 18446744073709551616) : cMul i j = true := by
  unfold cMul
  simp [h]
theorem cMul_l {i j : Int} (h : i.natAbs < 18446744073709551616) : cMul i j = true := by
  unfold cMul
  simp [h]
theorem ix_mod {ns : List Int} {p : Int} (h : 0 < ns.length) : ∃ c, L2.atI (ns.map MV.int) (p % (ns.length : Int)) = some (.int c) := by
  have h1 : 0 ≤ p % (ns.length : Int) := Int.emod_nonneg _ (by omega)
  have h2 : p % (ns.length : Int) < ns.length := Int.emod_lt_of_pos _ (by omega)
  obtain ⟨k, hk⟩ : ∃ k : Nat, p % (ns.length : Int) = k := ⟨_, (Int.toNat_of_nonneg h1).symm⟩
  rw [hk] at h2 ⊢
  rw [atI_nat, List.getElem?_map, List.getElem?_eq_getElem (by omega)]
  exact ⟨_, rfl⟩
namespace D
section
variable {α β : Type}
def wp (r : R α) (Q : α → Hm → Prop) (E : MX → Hm → Prop) : Prop := match r with
  | .ok a M => Q a M
  | .exc x M => E x M
  | .bad => False
def wpS (r : RS) (Q : O → Env → Hm → Prop) (E : MX → Env → Hm → Prop) : Prop := match r with
  | .ok o env M => Q o env M
  | .exc x env M => E x env M
  | .bad => False
theorem wp_mono {r : R α} {Q Q' : α → Hm → Prop} {E E' : MX → Hm → Prop} (h : wp r Q E) (hq : ∀ a M, Q a M → Q' a M) (he : ∀ x M, E x M → E' x M) : wp r Q' E' := by
  cases r with
  | ok a M => exact hq _ _ h
  | exc x M => exact he _ _ h
  | bad => exact h
theorem wpS_mono {r : RS} {Q Q' : O → Env → Hm → Prop} {E E' : MX → Env → Hm → Prop} (h : wpS r Q E) (hq : ∀ o e M, Q o e M → Q' o e M) (he : ∀ x e M, E x e M → E' x e M) : wpS r Q' E' := by
  cases r with
  | ok a e M => exact hq _ _ _ h
  | exc x e M => exact he _ _ _ h
  | bad => exact h
theorem wp_ok_of {r : R α} {Q : α → Hm → Prop} (h : wp r Q fun _ _ => False) : ∃ a M, r = .ok a M ∧ Q a M := by
  cases r with
  | ok a M => exact ⟨a, M, rfl, h⟩
  | exc x M => exact h.elim
  | bad => exact h.elim
variable {Q : α → Hm → Prop} {Qb : β → Hm → Prop} {E : MX → Hm → Prop} {M : Hm} {env : Env}
@[simp ↓] theorem wp_ok {a : α} : wp (.ok a M) Q E = Q a M := nr rfl
@[simp ↓] theorem wp_exc {x : MX} : wp (.exc x M) Q E = E x M := nr rfl
@[simp ↓] theorem wp_bad : wp .bad Q E = False := nr rfl
@[simp ↓] theorem wp_bind {r : R α} {f : α → Hm → R β} : wp (r.bind f) Qb E = wp r (fun a M => wp (f a M) Qb E) E := by cases r <;> rfl
@[simp ↓] theorem wp_bindN {r : R α} {f : α → Hm → R β} : wp (r.bindN f) Qb E = wp r (fun a M => wp (f a M) Qb E) (fun _ _ => False) := by cases r <;> rfl
@[simp ↓] theorem wp_ite {c : Prop} [Decidable c] {a b : R α} : wp (if c then a else b) Q E = if c then wp a Q E else wp b Q E := by split <;> rfl
end
/-! ### readers: one step at the head, the rest unseen -/
/-! dicts -/
section
variable {M : Hm} {F : Bool → Prop}
end
section
variable {Q : MV → Hm → Prop} {Qb : Bool → Hm → Prop} {Ql : List MV → Hm → Prop} {E : MX → Hm → Prop} {M : Hm} {env : Env} {a b : Fe} {t : Fa} {c d : Ft}
@[simp ↓] theorem w_var {i : Nat} : wp (eVar i env M) Q E = rdE env i (fun d => Q d M) := by
  rw [rdE_eq]
  unfold eVar
  rcases h : env[i]? with _ | _ | x
  · rfl
  · rfl
  · rfl
@[simp ↓] theorem w_c {d : MV} : wp (eC d env M) Q E = Q d M := nr rfl
@[simp ↓] theorem w_op {f : MV → MV → Hm → R MV} : wp (eOp f a b env M) Q E = wp (a env M) (fun x M1 => wp (b env M1) (fun y M2 => wp (f x y M2) Q E) E) E := by unfold eOp; simp
@[simp ↓] theorem w_un {f : MV → Hm → R MV} : wp (eUn f a env M) Q E = wp (a env M) (fun x M1 => wp (f x M1) Q E) E := by unfold eUn; simp
@[simp ↓] theorem w_aNil : wp (aNil env M) Ql E = Ql [] M := nr rfl
@[simp ↓] theorem w_aCons : wp (aCons a t env M) Ql E = wp (a env M) (fun x M1 => wp (t env M1) (fun xs M2 => Ql (x :: xs) M2) E) E := by unfold aCons; simp
@[simp ↓] theorem w_tup : wp (eTup t env M) Q E = wp (t env M) (fun xs M1 => if xs.length ≤ SL then Q (.tup xs) M1 else False) E := by unfold eTup; simp
@[simp ↓] theorem w_lst : wp (eLst t env M) Q E = wp (t env M) (fun xs M1 => if xs.length ≤ SL then Q (.ref M1.length) (M1 ++ [.lst xs]) else False) E := by unfold eLst; simp
@[simp ↓] theorem w_fn {f : List MV → Hm → R MV} : wp (eFn f t env M) Q E = wp (t env M) (fun xs M1 => wp (f xs M1) Q E) E := by unfold eFn; simp
@[simp ↓] theorem w_call {G : Ga} {f : Nat} : wp (eCall G f t env M) Q E = wp (t env M) (fun xs M1 => wp (G f xs M1) Q E) E := by unfold eCall eFn; simp
@[simp ↓] theorem w_met {ty : Ty} {f : MV → List MV → Hm → R MV} : wp (eMet ty f a t env M) Q E = wp (a env M) (fun x M1 => rdTy M1 ty x (wp (t env M1) (fun xs M2 => wp (f x xs M2) Q E) E)) E := by unfold eMet rdTy; simp
@[simp ↓] theorem w_if : wp (eIf c a b env M) Q E = wp (c env M) (fun k M1 => if k then wp (a env M1) Q E else wp (b env M1) Q E) E := by unfold eIf; simp
theorem w_andB {x : MV} {p : R MV} : wp (match x with | .bl true => p | .bl false => .ok (.bl false) M | _ => .bad) Q E = (match x with | .bl k => if k then wp p Q E else Q (.bl false) M | _ => False) := by
  cases x with
  | bl k => cases k <;> rfl
  | _ => rfl
@[simp ↓] theorem w_and : wp (eAnd a b env M) Q E = wp (a env M) (fun x M1 => match x with | .bl k => if k then wp (b env M1) Q E else Q (.bl false) M1 | _ => False) E := by
  unfold eAnd
  rw [wp_bind]
  congr 1
  funext x M1
  exact w_andB
theorem w_orB {x : MV} {p : R MV} : wp (match x with | .bl true => .ok (.bl true) M | .bl false => p | _ => .bad) Q E = (match x with | .bl k => if k then Q (.bl true) M else wp p Q E | _ => False) := by
  cases x with
  | bl k => cases k <;> rfl
  | _ => rfl
@[simp ↓] theorem w_or : wp (eOr a b env M) Q E = wp (a env M) (fun x M1 => match x with | .bl k => if k then Q (.bl true) M1 else wp (b env M1) Q E | _ => False) E := by
  unfold eOr
  rw [wp_bind]
  congr 1
  funext x M1
  exact w_orB
@[simp ↓] theorem w_t : wp (eT c env M) Q E = wp (c env M) (fun k M1 => Q (.bl k) M1) E := by unfold eT; simp
theorem w_vB {o : Option Bool} : wp (match o with | some k => .ok k M | none => .bad) Qb E = (match o with | some k => Qb k M | none => False) := by cases o <;> rfl
@[simp ↓] theorem w_v : wp (cV a env M) Qb E = wp (a env M) (fun x M1 => rdT M1 x fun k => Qb k M1) E := by
  unfold cV
  rw [wp_bind]
  congr 1
  funext x M1
  exact w_vB
theorem w_bB {x : MV} : wp (match x with | .bl k => .ok k M | _ => .bad) Qb E = (match x with | .bl k => Qb k M | _ => False) := by cases x <;> rfl
@[simp ↓] theorem w_b : wp (cB a env M) Qb E = wp (a env M) (fun x M1 => match x with | .bl k => Qb k M1 | _ => False) E := by
  unfold cB
  rw [wp_bind]
  congr 1
  funext x M1
  exact w_bB
@[simp ↓] theorem w_cAnd : wp (cAnd c d env M) Qb E = wp (c env M) (fun k M1 => if k then wp (d env M1) Qb E else Qb false M1) E := by unfold cAnd; simp
@[simp ↓] theorem w_cOr : wp (cOr c d env M) Qb E = wp (c env M) (fun k M1 => if k then Qb true M1 else wp (d env M1) Qb E) E := by unfold cOr; simp
@[simp ↓] theorem w_cNot : wp (cNot c env M) Qb E = wp (c env M) (fun k M1 => Qb (!k) M1) E := by unfold cNot; simp
@[simp ↓] theorem w_cYes : wp (cYes env M) Qb E = Qb true M := nr rfl

/-! operations -/
@[simp ↓] theorem w_addI {i j : Int} : wp (fAdd (.int i) (.int j) M) Q E = Q (.int (i + j)) M := nr rfl
@[simp ↓] theorem w_addS {s t : Tx} : wp (fAdd (.str s) (.str t) M) Q E = if s.length + t.length ≤ SL then Q (.str (s ++ t)) M else False := by unfold fAdd; simp
@[simp ↓] theorem w_addT {s t : List MV} : wp (fAdd (.tup s) (.tup t) M) Q E = if s.length + t.length ≤ SL then Q (.tup (s ++ t)) M else False := by unfold fAdd; simp
theorem w_addL {i j : Nat} {s t : List MV} (hi : M[i]? = some (.lst s)) (hj : M[j]? = some (.lst t)) : wp (fAdd (.ref i) (.ref j) M) Q E = if s.length + t.length ≤ SL then Q (.ref M.length) (M ++ [.lst (s ++ t)]) else False := by
  unfold fAdd
  simp [hi, hj]
@[simp ↓] theorem w_iaddI {i j : Int} : wp (fIAdd (.int i) (.int j) M) Q E = Q (.int (i + j)) M := nr rfl
@[simp ↓] theorem w_iaddS {s t : Tx} : wp (fIAdd (.str s) (.str t) M) Q E = if s.length + t.length ≤ SL then Q (.str (s ++ t)) M else False := by unfold fIAdd; simp
@[simp ↓] theorem w_subI {i j : Int} : wp (fSub (.int i) (.int j) M) Q E = Q (.int (i - j)) M := nr rfl
@[simp ↓] theorem w_mulI {i j : Int} : wp (fMul (.int i) (.int j) M) Q E = if cMul i j then Q (.int (i * j)) M else False := by unfold fMul fInt2C; simp
@[simp ↓] theorem w_divI {i j : Int} : wp (fDiv (.int i) (.int j) M) Q E = if cDiv i j then Q (.int (i / j)) M else False := by unfold fDiv fInt2C; simp
@[simp ↓] theorem w_modI {i j : Int} : wp (fMod (.int i) (.int j) M) Q E = if cMod i j then Q (.int (i % j)) M else False := by unfold fMod fInt2C; simp
@[simp ↓] theorem w_powI {i j : Int} : wp (fPow (.int i) (.int j) M) Q E = if cPow i j then Q (.int (i ^ j.toNat)) M else False := by unfold fPow fInt2C; simp
@[simp ↓] theorem w_negI {i : Int} : wp (fNeg (.int i) M) Q E = Q (.int (-i)) M := nr rfl
@[simp ↓] theorem w_ltI {i j : Int} : wp (fLt (.int i) (.int j) M) Q E = Q (.bl (decide (i < j))) M := nr rfl
@[simp ↓] theorem w_leI {i j : Int} : wp (fLe (.int i) (.int j) M) Q E = Q (.bl (decide (i ≤ j))) M := nr rfl
@[simp ↓] theorem w_gtI {i j : Int} : wp (fGt (.int i) (.int j) M) Q E = Q (.bl (decide (j < i))) M := nr rfl
@[simp ↓] theorem w_geI {i j : Int} : wp (fGe (.int i) (.int j) M) Q E = Q (.bl (decide (j ≤ i))) M := nr rfl
@[simp ↓] theorem w_ltS {i j : Tx} : wp (fLt (.str i) (.str j) M) Q E = Q (.bl (decide (i < j))) M := nr rfl
@[simp ↓] theorem w_gtS {i j : Tx} : wp (fGt (.str i) (.str j) M) Q E = Q (.bl (decide (j < i))) M := nr rfl
@[simp ↓] theorem w_eqI {i j : Int} {g : Bool → Bool} : wp (fEqG g (.int i) (.int j) M) Q E = Q (.bl (g (decide (i = j)))) M := nr rfl
@[simp ↓] theorem w_eqS {i j : Tx} {g : Bool → Bool} : wp (fEqG g (.str i) (.str j) M) Q E = Q (.bl (g (decide (i = j)))) M := nr rfl
@[simp ↓] theorem w_eqB {i j : Bool} {g : Bool → Bool} : wp (fEqG g (.bl i) (.bl j) M) Q E = Q (.bl (g (decide (i = j)))) M := nr rfl
@[simp ↓] theorem w_eqIS {i : Int} {j : Tx} {g : Bool → Bool} : wp (fEqG g (.int i) (.str j) M) Q E = Q (.bl (g false)) M := nr rfl
@[simp ↓] theorem w_eqSI {i : Int} {j : Tx} {g : Bool → Bool} : wp (fEqG g (.str j) (.int i) M) Q E = Q (.bl (g false)) M := nr rfl
theorem w_eq {x y : MV} {g : Bool → Bool} {b : Bool} (h : eqM M x y = some b) : wp (fEqG g x y M) Q E = Q (.bl (g b)) M := by
  unfold fEqG
  rw [h]
  rfl
@[simp ↓] theorem w_inS {c : Nat} {t : Tx} {g : Bool → Bool} : wp (fInG g (.str [c]) (.str t) M) Q E = Q (.bl (g (decide (c ∈ t)))) M := nr rfl
theorem w_mO {o : Option MV} : wp (match o with | some d => .ok d M | none => .bad) Q E = rdO o (fun d => Q d M) := by cases o <;> rfl
theorem w_mS {o : Option Nat} : wp (match o with | some c => .ok (.str [c]) M | none => .bad) Q E = rdO o (fun c => Q (.str [c]) M) := by cases o <;> rfl
@[simp ↓] theorem w_ixT {l : List MV} {i : Int} : wp (fIx (.tup l) (.int i) M) Q E = rdI l i (fun d => Q d M) := w_mO
@[simp ↓] theorem w_ixR {l : List MV} {i : Int} : wp (fIx (.rol l) (.int i) M) Q E = rdI l i (fun d => Q d M) := w_mO
@[simp ↓] theorem w_ixS {s : Tx} {i : Int} : wp (fIx (.str s) (.int i) M) Q E = if s.length ≤ SL then rdI s i (fun c => Q (.str [c]) M) else False := by
  show wp (if s.length ≤ SL then (match L2.atI s i with
    | some c => .ok (.str [c]) M
    | none => .bad) else .bad) Q E = _
  rw [wp_ite, w_mS, wp_bad]
  rfl
@[simp ↓] theorem w_ixL {k : Nat} {i : Int} : wp (fIx (.ref k) (.int i) M) Q E = rdL M k (fun l => rdI l i (fun d => Q d M)) := by
  show wp (match M[k]? with
    | some (.lst l) => (match L2.atI l i with
      | some d => .ok d M
      | none => .bad)
    | _ => .bad) Q E = _
  unfold rdL
  cases M[k]? with
  | none => rfl
  | some o =>
    cases o with
    | lst l => exact w_mO
    | _ => rfl
@[simp ↓] theorem w_sl {f : MV → Option Int → Option Int → Hm → R MV} {lo hi : Fo} : wp (eSl f a lo hi env M) Q E = wp (a env M) (fun x M1 => wp (lo env M1) (fun l M2 => wp (hi env M2) (fun u M3 => wp (f x l u M3) Q E) E) E) E := by unfold eSl; simp
@[simp ↓] theorem w_oN {Qo : Option Int → Hm → Prop} : wp (oNone env M) Qo E = Qo none M := nr rfl
theorem w_oB {x : MV} {Qo : Option Int → Hm → Prop} : wp (match x with | .int i => .ok (some i) M | _ => .bad) Qo E = (match x with | .int i => Qo (some i) M | _ => False) := by cases x <;> rfl
@[simp ↓] theorem w_oS {Qo : Option Int → Hm → Prop} : wp (oSome a env M) Qo E = wp (a env M) (fun x M1 => match x with | .int i => Qo (some i) M1 | _ => False) E := by
  unfold oSome
  rw [wp_bind]
  congr 1
  funext x M1
  exact w_oB
@[simp ↓] theorem w_slT {l : List MV} {lo hi : Option Int} : wp (fSl (.tup l) lo hi M) Q E = Q (.tup (cut l lo hi)) M := nr rfl
@[simp ↓] theorem w_slS {s : Tx} {lo hi : Option Int} : wp (fSl (.str s) lo hi M) Q E = if s.length ≤ SL then Q (.str (cut s lo hi)) M else False := by unfold fSl; simp
@[simp ↓] theorem w_lenS {s : Tx} : wp (fLen [.str s] M) Q E = if s.length ≤ SL then Q (.int s.length) M else False := by unfold fLen; simp
@[simp ↓] theorem w_lenT {s : List MV} : wp (fLen [.tup s] M) Q E = Q (.int s.length) M := nr rfl
@[simp ↓] theorem w_lenR {s : List MV} : wp (fLen [.rol s] M) Q E = Q (.int s.length) M := nr rfl
@[simp ↓] theorem w_lenL {k : Nat} : wp (fLen [.ref k] M) Q E = rdL M k (fun l => Q (.int l.length) M) := by
  show wp (match M[k]? with
    | some (.lst l) => .ok (.int l.length) M
    | _ => .bad) Q E = _
  unfold rdL
  cases M[k]? with
  | none => rfl
  | some o =>
    cases o with
    | lst l => rfl
    | _ => rfl
@[simp ↓] theorem w_str {i : Int} : wp (fStr [.int i] M) Q E = if i.natAbs.log2 < 1920 then Q (.str (numT i)) M else False := by unfold fStr; simp
@[simp ↓] theorem w_intI {i : Int} : wp (fIntOf [.int i] M) Q E = Q (.int i) M := nr rfl
theorem w_intB {b : Bool} : wp (fIntOf [.bl b] M) Q E = Q (.int (match b with | true => 1 | false => 0)) M := by cases b <;> rfl
@[simp ↓] theorem w_intBt : wp (fIntOf [.bl true] M) Q E = Q (.int 1) M := nr rfl
@[simp ↓] theorem w_intBf : wp (fIntOf [.bl false] M) Q E = Q (.int 0) M := nr rfl
@[simp ↓] theorem w_intS {s : Tx} : wp (fIntOf [.str s] M) Q E = if allDig s && !s.isEmpty && decide (s.length ≤ 640) then Q (.int (PySem.NumText.digitsVal s : Nat)) M else False := by
  unfold fIntOf
  simp only [wp_ite]
  rfl
@[simp ↓] theorem w_abs {i : Int} : wp (fAbs [.int i] M) Q E = Q (.int (i.natAbs : Int)) M := by
  have e : (i.natAbs : Int) = (if i < 0 then -i else i) := by split <;> omega
  rw [e]
  rfl
@[simp ↓] theorem w_ord {c : Nat} : wp (fOrd [.str [c]] M) Q E = Q (.int c) M := nr rfl
@[simp ↓] theorem w_tupT {l : List MV} : wp (fTuple [.tup l] M) Q E = Q (.tup l) M := nr rfl
@[simp ↓] theorem w_tupR {l : List MV} : wp (fTuple [.rol l] M) Q E = Q (.tup l) M := nr rfl
@[simp ↓] theorem w_tupL {k : Nat} : wp (fTuple [.ref k] M) Q E = rdL M k (fun l => Q (.tup l) M) := by
  show wp (match M[k]? with
    | some (.lst l) => .ok (.tup l) M
    | _ => .bad) Q E = _
  unfold rdL
  cases M[k]? with
  | none => rfl
  | some o =>
    cases o with
    | lst l => rfl
    | _ => rfl
@[simp ↓] theorem w_listT {l : List MV} : wp (fList [.tup l] M) Q E = Q (.ref M.length) (M ++ [.lst l]) := nr rfl
@[simp ↓] theorem w_listR {l : List MV} : wp (fList [.rol l] M) Q E = Q (.ref M.length) (M ++ [.lst l]) := nr rfl
@[simp ↓] theorem w_listL {k : Nat} : wp (fList [.ref k] M) Q E = rdL M k (fun l => Q (.ref M.length) (M ++ [.lst l])) := by
  show wp (match M[k]? with
    | some (.lst l) => .ok (.ref M.length) (M ++ [.lst l])
    | _ => .bad) Q E = _
  unfold rdL
  cases M[k]? with
  | none => rfl
  | some o =>
    cases o with
    | lst l => rfl
    | _ => rfl
@[simp ↓] theorem w_divmod {i j : Int} : wp (fDivmod [.int i, .int j] M) Q E = if cDiv i j then Q (.tup [.int (i / j), .int (i % j)]) M else False := by unfold fDivmod; simp
@[simp ↓] theorem w_append {k : Nat} {d : MV} : wp (fAppend (.ref k) [d] M) Q E = rdL M k (fun l => if l.length < SL then Q .non (M.set k (.lst (l ++ [d]))) else False) := by
  show wp (match M[k]? with
    | some (.lst l) => (if l.length < SL then .ok .non (M.set k (.lst (l ++ [d]))) else .bad)
    | _ => .bad) Q E = _
  unfold rdL
  cases M[k]? with
  | none => rfl
  | some o =>
    cases o with
    | lst l => exact wp_ite
    | _ => rfl
theorem w_mP {o : Option MV} {M' : Hm} : wp (match o with | some d => .ok d M' | none => .bad) Q E = rdO o (fun d => Q d M') := by cases o <;> rfl
@[simp ↓] theorem w_pop {k : Nat} : wp (fPop (.ref k) [] M) Q E = rdL M k (fun l => rdO l[l.length - 1]? fun d => Q d (M.set k (.lst l.dropLast))) := by
  show wp (match M[k]? with
    | some (.lst l) => (match l[l.length - 1]? with | some d => .ok d (M.set k (.lst l.dropLast)) | none => .bad)
    | _ => .bad) Q E = _
  unfold rdL
  cases M[k]? with
  | none => rfl
  | some o =>
    cases o with
    | lst l => exact w_mP
    | _ => rfl
theorem w_mJ {o : Option (List Tx)} {sep : Tx} : wp (match o with | some ss => if (ss.map (·.length)).sum + ss.length * sep.length ≤ SL then .ok (.str (joinT sep ss)) M else .bad | none => .bad) Q E = rdO o (fun ss => if (ss.map (·.length)).sum + ss.length * sep.length ≤ SL then Q (.str (joinT sep ss)) M else False) := by
  cases o with
  | none => rfl
  | some ss => exact wp_ite
@[simp ↓] theorem w_join {k : Nat} {sep : Tx} : wp (fJoin (.str sep) [.ref k] M) Q E = rdL M k (fun l => rdO (textsOf l) fun ss => if (ss.map (·.length)).sum + ss.length * sep.length ≤ SL then Q (.str (joinT sep ss)) M else False) := by
  show wp (match M[k]? with
    | some (.lst l) => (match textsOf l with | some ss => if (ss.map (·.length)).sum + ss.length * sep.length ≤ SL then .ok (.str (joinT sep ss)) M else .bad | none => .bad)
    | _ => .bad) Q E = _
  unfold rdL
  cases M[k]? with
  | none => rfl
  | some o =>
    cases o with
    | lst l => exact w_mJ
    | _ => rfl
@[simp ↓] theorem w_rev {k : Nat} : wp (fRev (.ref k) M) Q E = rdL M k (fun l => Q (.ref M.length) (M ++ [.lst l.reverse])) := by
  show wp (match M[k]? with
    | some (.lst l) => .ok (.ref M.length) (M ++ [.lst l.reverse])
    | _ => .bad) Q E = _
  unfold rdL
  cases M[k]? with
  | none => rfl
  | some o =>
    cases o with
    | lst l => rfl
    | _ => rfl
@[simp ↓] theorem w_revAT {l : List MV} : wp (fRevA (.tup l) M) Q E = Q (.tup l.reverse) M := nr rfl
@[simp ↓] theorem w_revAL {k : Nat} : wp (fRevA (.ref k) M) Q E = rdL M k (fun l => Q (.ref M.length) (M ++ [.lst l.reverse])) := by
  show wp (match M[k]? with
    | some (.lst l) => .ok (.ref M.length) (M ++ [.lst l.reverse])
    | _ => .bad) Q E = _
  unfold rdL
  cases M[k]? with
  | none => rfl
  | some o =>
    cases o with
    | lst l => rfl
    | _ => rfl
@[simp ↓] theorem w_slL {k : Nat} {lo hi : Option Int} : wp (fSl (.ref k) lo hi M) Q E = rdL M k (fun l => Q (.ref M.length) (M ++ [.lst (cut l lo hi)])) := by
  show wp (match M[k]? with
    | some (.lst l) => .ok (.ref M.length) (M ++ [.lst (cut l lo hi)])
    | _ => .bad) Q E = _
  unfold rdL
  cases M[k]? with
  | none => rfl
  | some o =>
    cases o with
    | lst l => rfl
    | _ => rfl
@[simp ↓] theorem w_listAS {s : Tx} : wp (fListA [.str s] M) Q E = if s.length ≤ SL then Q (.ref M.length) (M ++ [.lst (s.map fun c => .str [c])]) else False := by
  show wp (if s.length ≤ SL then .ok (.ref M.length) (M ++ [.lst (s.map fun c => .str [c])]) else .bad) Q E = _
  rw [wp_ite]
  rfl
@[simp ↓] theorem w_listAT {l : List MV} : wp (fListA [.tup l] M) Q E = Q (.ref M.length) (M ++ [.lst l]) := nr rfl
@[simp ↓] theorem w_listAR {l : List MV} : wp (fListA [.rol l] M) Q E = Q (.ref M.length) (M ++ [.lst l]) := nr rfl
@[simp ↓] theorem w_listAL {k : Nat} : wp (fListA [.ref k] M) Q E = rdL M k (fun l => Q (.ref M.length) (M ++ [.lst l])) := w_listL
@[simp ↓] theorem w_find3 {x y : Tx} {i : Int} : wp (fFind3 (.str x) [.str y, .int i] M) Q E = Q (.int (PySem.Txt.find3 (T x) (T y) i)) M := nr rfl
@[simp ↓] theorem w_zfill {x : Tx} {i : Int} : wp (fZfill (.str x) [.int i] M) Q E = if PySem.PadOk i && noSign x then Q (.str (List.replicate (i.toNat - x.length) 48 ++ x)) M else False := by
  unfold fZfill
  simp only [wp_ite]
  rfl
theorem w_mA {o : Option (List Bool)} {g : List Bool → Bool} : wp (match o with | some bs => .ok (.bl (g bs)) M | none => .bad) Q E = rdO o (fun bs => Q (.bl (g bs)) M) := by cases o <;> rfl
@[simp ↓] theorem w_all {k : Nat} {g : List Bool → Bool} : wp (fAllG g [.ref k] M) Q E = rdL M k (fun l => rdO (boolsOf l) fun bs => Q (.bl (g bs)) M) := by
  show wp (match M[k]? with
    | some (.lst l) => (match boolsOf l with | some bs => .ok (.bl (g bs)) M | none => .bad)
    | _ => .bad) Q E = _
  unfold rdL
  cases M[k]? with
  | none => rfl
  | some o =>
    cases o with
    | lst l => exact w_mA
    | _ => rfl
@[simp ↓] theorem w_gcR {r : R MV} : wp (gcR M r) Q E = wp r (fun d M' => gcQ M M' d Q) (fun x M' => gcE M M' x E) := by
  cases r with
  | ok d M' => show Q _ _ = gcQ M M' d Q; unfold gcQ; rfl
  | exc x M' => show E _ _ = gcE M M' x E; unfold gcE; rfl
  | bad => rfl
@[simp ↓] theorem w_gc {e : Fe} : wp (eGc e env M) Q E = wp (e env M) (fun d M' => gcQ M M' d Q) (fun x M' => gcE M M' x E) := w_gcR
@[simp ↓] theorem w_dic0 : wp (eDic0 env M) Q E = Q (.ref M.length) (M ++ [.dic []]) := nr rfl
@[simp ↓] theorem w_dic {ps : List (Fe × Fe)} : wp (eDic ps env M) Q E = wp (pPairs ps env M) (fun l M1 => Q (.ref M1.length) (M1 ++ [.dic (putAll [] l)])) (fun _ _ => False) := by unfold eDic; simp
@[simp ↓] theorem w_pNil {Qp : List (MV × MV) → Hm → Prop} : wp (pPairs [] env M) Qp E = Qp [] M := nr rfl
@[simp ↓] theorem w_pCons {Qp : List (MV × MV) → Hm → Prop} {k v : Fe} {r : List (Fe × Fe)} : wp (pPairs ((k, v) :: r) env M) Qp E = wp (k env M) (fun x M1 => wp (v env M1) (fun y M2 => wp (pPairs r env M2) (fun l M3 => if isKey x then Qp ((x, y) :: l) M3 else False) E) E) E := by
  show wp ((k env M).bind fun x M1 => (v env M1).bind fun y M2 => (pPairs r env M2).bind fun l M3 => if isKey x then .ok ((x, y) :: l) M3 else .bad) Qp E = _
  simp only [wp_bind, wp_ite, wp_ok, wp_bad]
theorem w_kdB {l : List (Tx × MV)} {x : MV} : wp (match x with | .str s => (match l.lookup s with | some d => .ok d M | none => .bad) | _ => .bad) Q E = (match x with | .str s => rdO (l.lookup s) fun d => Q d M | _ => False) := by
  cases x with
  | str s =>
    show wp (match l.lookup s with | some d => .ok d M | none => .bad) Q E = rdO (l.lookup s) fun d => Q d M
    cases l.lookup s <;> rfl
  | _ => rfl
@[simp ↓] theorem w_kd {l : List (Tx × MV)} : wp (eKd l a env M) Q E = wp (a env M) (fun x M1 => match x with | .str s => rdO (l.lookup s) fun d => Q d M1 | _ => False) E := by
  unfold eKd
  rw [wp_bind]
  congr 1
  funext x M1
  exact w_kdB
@[simp ↓] theorem w_ixAT {l : List MV} {i : Int} : wp (fIxA (.tup l) (.int i) M) Q E = rdI l i (fun d => Q d M) := w_mO
@[simp ↓] theorem w_ixAR {l : List MV} {i : Int} : wp (fIxA (.rol l) (.int i) M) Q E = rdI l i (fun d => Q d M) := w_mO
@[simp ↓] theorem w_ixAS {s : Tx} {i : Int} : wp (fIxA (.str s) (.int i) M) Q E = if s.length ≤ SL then rdI s i (fun c => Q (.str [c]) M) else False := w_ixS
@[simp ↓] theorem w_ixAL {k : Nat} {i : Int} : wp (fIxA (.ref k) (.int i) M) Q E = rdLD M k (fun l => rdI l i (fun d => Q d M)) (fun l => rdO (getD l (.int i)) fun d => Q d M) := by
  show wp (match M[k]? with
    | some (.dic l) => if isKey (.int i) then (match getD l (.int i) with
      | some d => .ok d M
      | none => .bad) else .bad
    | _ => fIx (.ref k) (.int i) M) Q E = _
  unfold rdLD
  cases h : M[k]? with
  | none => show wp (fIx (.ref k) (.int i) M) Q E = _; rw [w_ixL]; unfold rdL; rw [h]
  | some o =>
    cases o with
    | lst l => show wp (fIx (.ref k) (.int i) M) Q E = _; rw [w_ixL]; unfold rdL; rw [h]
    | dic l => exact w_mO
    | ins c l => show wp (fIx (.ref k) (.int i) M) Q E = _; rw [w_ixL]; unfold rdL; rw [h]
@[simp ↓] theorem w_ixAD {k : Nat} {s : Tx} : wp (fIxA (.ref k) (.str s) M) Q E = rdD M k (fun l => rdO (getD l (.str s)) fun d => Q d M) := by
  show wp (match M[k]? with
    | some (.dic l) => if isKey (.str s) then (match getD l (.str s) with
      | some d => .ok d M
      | none => .bad) else .bad
    | _ => fIx (.ref k) (.str s) M) Q E = _
  unfold rdD
  cases h : M[k]? with
  | none => rfl
  | some o =>
    cases o with
    | dic l => exact w_mO
    | _ => rfl
theorem w_inO {o : Option Bool} {g : Bool → Bool} : wp (match o with | some b => .ok (.bl (g b)) M | none => .bad) Q E = rdO o (fun b => Q (.bl (g b)) M) := by cases o <;> rfl
@[simp ↓] theorem w_inT {x : MV} {l : List MV} {g : Bool → Bool} : wp (fInG g x (.tup l) M) Q E = ((flatM x && l.all flatM) = true ∧ Q (.bl (g (l.any fun y => eqF y x))) M) := by
  show wp (match (if (flatM x && l.all flatM) = true then some (l.any fun y => eqF y x) else none) with | some b => .ok (.bl (g b)) M | none => .bad) Q E = _
  rw [w_inO, rdO_if]
@[simp ↓] theorem w_inAT {x : MV} {l : List MV} {g : Bool → Bool} : wp (fInGA g x (.tup l) M) Q E = ((flatM x && l.all flatM) = true ∧ Q (.bl (g (l.any fun y => eqF y x))) M) := w_inT
@[simp ↓] theorem w_inL {x : MV} {k : Nat} {g : Bool → Bool} : wp (fInG g x (.ref k) M) Q E = rdL M k (fun l => (flatM x && l.all flatM) = true ∧ Q (.bl (g (l.any fun y => eqF y x))) M) := by
  show wp (match (match M[k]? with
    | some (.lst l) => if (flatM x && l.all flatM) = true then some (l.any fun y => eqF y x) else none
    | _ => none) with | some b => .ok (.bl (g b)) M | none => .bad) Q E = _
  unfold rdL
  cases M[k]? with
  | none => rfl
  | some o =>
    cases o with
    | lst l => exact (w_inO).trans rdO_if
    | _ => rfl
@[simp ↓] theorem w_inALD {x : MV} {k : Nat} {g : Bool → Bool} : wp (fInGA g x (.ref k) M) Q E = rdLD M k (fun l => (flatM x && l.all flatM) = true ∧ Q (.bl (g (l.any fun y => eqF y x))) M) (fun l => isKey x = true ∧ Q (.bl (g (getD l x).isSome)) M) := by
  show wp (match M[k]? with
    | some (.dic l) => if isKey x then .ok (.bl (g (getD l x).isSome)) M else .bad
    | _ => fInG g x (.ref k) M) Q E = _
  unfold rdLD
  cases h : M[k]? with
  | none => show wp (fInG g x (.ref k) M) Q E = _; rw [w_inL]; unfold rdL; rw [h]
  | some o =>
    cases o with
    | lst l => show wp (fInG g x (.ref k) M) Q E = _; rw [w_inL]; unfold rdL; rw [h]
    | dic l => exact wp_ite.trans ite_and
    | ins c l => show wp (fInG g x (.ref k) M) Q E = _; rw [w_inL]; unfold rdL; rw [h]
/-- x in y, y a tuple or a list -/
theorem w_inF {x y : MV} {g : Bool → Bool} {b : Bool} (h : inM M x y = some b) : wp (fInG g x y M) Q E = Q (.bl (g b)) M := by
  unfold fInG
  rw [h]
  rfl
theorem w_inAF {x : MV} {l : List MV} {g : Bool → Bool} {b : Bool} (h : inM M x (.tup l) = some b) : wp (fInGA g x (.tup l) M) Q E = Q (.bl (g b)) M := w_inF h
@[simp ↓] theorem w_inAS {c : Nat} {t : Tx} {g : Bool → Bool} : wp (fInGA g (.str [c]) (.str t) M) Q E = Q (.bl (g (decide (c ∈ t)))) M := nr rfl
theorem w_inAD {k : Nat} {x : MV} {l : List (MV × MV)} {g : Bool → Bool} (h : M[k]? = some (.dic l)) (hk : isKey x = true) : wp (fInGA g x (.ref k) M) Q E = Q (.bl (g (getD l x).isSome)) M := by
  show wp (match M[k]? with
    | some (.dic l) => if isKey x then .ok (.bl (g (getD l x).isSome)) M else .bad
    | _ => fInG g x (.ref k) M) Q E = _
  rw [h]
  show wp (if isKey x then .ok (.bl (g (getD l x).isSome)) M else .bad) Q E = _
  rw [if_pos hk]
  rfl
theorem w_inAL {k : Nat} {x : MV} {l : List MV} {g : Bool → Bool} {b : Bool} (h : M[k]? = some (.lst l)) (hb : inM M x (.ref k) = some b) : wp (fInGA g x (.ref k) M) Q E = Q (.bl (g b)) M := by
  show wp (match M[k]? with
    | some (.dic l) => if isKey x then .ok (.bl (g (getD l x).isSome)) M else .bad
    | _ => fInG g x (.ref k) M) Q E = _
  rw [h]
  exact w_inF hb
@[simp ↓] theorem w_isB {i j : Bool} {g : Bool → Bool} : wp (fIsG g (.bl i) (.bl j) M) Q E = Q (.bl (g (decide (i = j)))) M := nr rfl
@[simp ↓] theorem w_isNN {g : Bool → Bool} : wp (fIsG g .non .non M) Q E = Q (.bl (g true)) M := nr rfl
@[simp ↓] theorem w_isBN {i : Bool} {g : Bool → Bool} : wp (fIsG g (.bl i) .non M) Q E = Q (.bl (g false)) M := nr rfl
@[simp ↓] theorem w_isIN {i : Int} {g : Bool → Bool} : wp (fIsG g (.int i) .non M) Q E = Q (.bl (g false)) M := nr rfl
@[simp ↓] theorem w_isSN {s : Tx} {g : Bool → Bool} : wp (fIsG g (.str s) .non M) Q E = Q (.bl (g false)) M := nr rfl
@[simp ↓] theorem w_isTN {l : List MV} {g : Bool → Bool} : wp (fIsG g (.tup l) .non M) Q E = Q (.bl (g false)) M := nr rfl
@[simp ↓] theorem w_isRN {k : Nat} {g : Bool → Bool} : wp (fIsG g (.ref k) .non M) Q E = Q (.bl (g false)) M := nr rfl
theorem w_chB {g : MV → MV → Hm → R MV} {cc : Fe} {y x : MV} : wp (match x with | .bl true => (cc env M).bind fun w M4 => g y w M4 | .bl false => .ok (.bl false) M | _ => .bad) Q E = (match x with | .bl k => if k then wp (cc env M) (fun w M4 => wp (g y w M4) Q E) E else Q (.bl false) M | _ => False) := by
  cases x with
  | bl k =>
    cases k with
    | false => rfl
    | true => exact wp_bind
  | _ => rfl
@[simp ↓] theorem w_chain {f g : MV → MV → Hm → R MV} {cc : Fe} : wp (eChain f g a b cc env M) Q E = wp (a env M) (fun x M1 => wp (b env M1) (fun y M2 => wp (f x y M2) (fun z M3 => match z with | .bl k => if k then wp (cc env M3) (fun w M4 => wp (g y w M4) Q E) E else Q (.bl false) M3 | _ => False) E) E) E := by
  unfold eChain
  rw [wp_bind]
  congr 1
  funext x M1
  rw [wp_bind]
  congr 1
  funext y M2
  rw [wp_bind]
  congr 1
  funext z M3
  exact w_chB
@[simp ↓] theorem w_extT {k : Nat} {t : List MV} : wp (fExtend (.ref k) [.tup t] M) Q E = rdL M k (fun s => if s.length + t.length ≤ SL then Q .non (M.set k (.lst (s ++ t))) else False) := by
  show wp (match M[k]? with
    | some (.lst s) => (if s.length + t.length ≤ SL then .ok .non (M.set k (.lst (s ++ t))) else .bad)
    | _ => .bad) Q E = _
  unfold rdL
  cases M[k]? with
  | none => rfl
  | some o =>
    cases o with
    | lst l => exact wp_ite
    | _ => rfl
theorem w_mE {s : List MV} {k j : Nat} : wp (match M[j]? with | some (.lst t) => (if s.length + t.length ≤ SL then .ok .non (M.set k (.lst (s ++ t))) else .bad) | _ => .bad) Q E = rdL M j (fun t => if s.length + t.length ≤ SL then Q .non (M.set k (.lst (s ++ t))) else False) := by
  unfold rdL
  cases M[j]? with
  | none => rfl
  | some o =>
    cases o with
    | lst l => exact wp_ite
    | _ => rfl
@[simp ↓] theorem w_extL {k j : Nat} : wp (fExtend (.ref k) [.ref j] M) Q E = rdL M k (fun s => rdL M j (fun t => if s.length + t.length ≤ SL then Q .non (M.set k (.lst (s ++ t))) else False)) := by
  have e : fExtend (.ref k) [.ref j] M = (match M[k]? with
    | some (.lst s) => (match M[j]? with | some (.lst t) => (if s.length + t.length ≤ SL then .ok .non (M.set k (.lst (s ++ t))) else .bad) | _ => .bad)
    | _ => .bad) := by
    show (match M[k]?, M[j]? with
      | some (.lst s), some (.lst t) => (if s.length + t.length ≤ SL then R.ok MV.non (M.set k (.lst (s ++ t))) else .bad)
      | _, _ => .bad) = _
    cases M[k]? with
    | none => rfl
    | some o =>
      cases o with
      | lst l =>
        cases M[j]? with
        | none => rfl
        | some o2 => cases o2 <;> rfl
      | _ => rfl
  rw [e]
  show _ = (match M[k]? with | some (.lst s) => rdL M j (fun t => if s.length + t.length ≤ SL then Q .non (M.set k (.lst (s ++ t))) else False) | _ => False)
  cases M[k]? with
  | none => rfl
  | some o =>
    cases o with
    | lst l => exact w_mE
    | _ => rfl
@[simp ↓] theorem w_insert {k : Nat} {i : Int} {y : MV} : wp (fInsert (.ref k) [.int i, y] M) Q E = rdL M k (fun s => if decide (s.length < SL) && decide (0 ≤ i) && decide (i.natAbs < 1073741824) then Q .non (M.set k (.lst (s.take i.toNat ++ [y] ++ s.drop i.toNat))) else False) := by
  show wp (match M[k]? with
    | some (.lst s) => (if decide (s.length < SL) && decide (0 ≤ i) && decide (i.natAbs < 1073741824) then .ok .non (M.set k (.lst (s.take i.toNat ++ [y] ++ s.drop i.toNat))) else .bad)
    | _ => .bad) Q E = _
  unfold rdL
  cases M[k]? with
  | none => rfl
  | some o =>
    cases o with
    | lst l => exact wp_ite
    | _ => rfl
@[simp ↓] theorem w_dict {k : Nat} : wp (fDict [.ref k] M) Q E = rdD M k (fun l => Q (.ref M.length) (M ++ [.dic l])) := by
  show wp (match M[k]? with
    | some (.dic l) => .ok (.ref M.length) (M ++ [.dic l])
    | _ => .bad) Q E = _
  unfold rdD
  cases M[k]? with
  | none => rfl
  | some o => cases o <;> rfl
theorem w_mT {o : Option (List Tx)} : wp (match o with | some ts => if ts.length < 64 then .ok (.ref M.length) (M ++ [.lst ((sortT ts).map MV.str)]) else .bad | none => .bad) Q E = rdO o (fun ts => if ts.length < 64 then Q (.ref M.length) (M ++ [.lst ((sortT ts).map MV.str)]) else False) := by
  cases o with
  | none => rfl
  | some ss => exact wp_ite
@[simp ↓] theorem w_sorted {k : Nat} : wp (fSorted [.ref k] M) Q E = rdLD M k (fun l => rdO (textsOf l) fun ts => if ts.length < 64 then Q (.ref M.length) (M ++ [.lst ((sortT ts).map MV.str)]) else False)
    (fun l => rdO (keysOf l) fun ts => if ts.length < 64 then Q (.ref M.length) (M ++ [.lst ((sortT ts).map MV.str)]) else False) := by
  show wp (match M[k]? with
    | some (.dic l) => (match keysOf l with
      | some ts => if ts.length < 64 then .ok (.ref M.length) (M ++ [.lst ((sortT ts).map MV.str)]) else .bad
      | none => .bad)
    | some (.lst l) => (match textsOf l with
      | some ts => if ts.length < 64 then .ok (.ref M.length) (M ++ [.lst ((sortT ts).map MV.str)]) else .bad
      | none => .bad)
    | _ => .bad) Q E = _
  unfold rdLD
  cases M[k]? with
  | none => rfl
  | some o =>
    cases o with
    | lst l => exact w_mT
    | dic l => exact w_mT
    | _ => rfl
theorem w_gB {cc : Fe} {y z : MV} {k : Nat} : wp (match M[k]? with
      | some (.dic l) => if isKey y then .ok ((getD l y).getD z) M else .bad
      | _ => .bad) Q E = rdD M k (fun l => if isKey y then Q ((getD l y).getD z) M else False) := by
  unfold rdD
  cases M[k]? with
  | none => rfl
  | some o =>
    cases o with
    | dic l => exact wp_ite
    | _ => rfl
theorem w_gA {cc : Fe} {x : MV} : wp (match x with
  | .ref k => (match M[k]? with
    | some (.dic _) => (b env M).bind fun y M2 => (cc env M2).bind fun z M3 => (match M3[k]? with
      | some (.dic l) => if isKey y then .ok ((getD l y).getD z) M3 else .bad
      | _ => .bad)
    | _ => .bad)
  | _ => .bad) Q E = (match x with
  | .ref k => rdD M k fun _ => wp (b env M) (fun y M2 => wp (cc env M2) (fun z M3 => rdD M3 k (fun l => if isKey y then Q ((getD l y).getD z) M3 else False)) E) E
  | _ => False) := by
  cases x with
  | ref k =>
    show wp (match M[k]? with
    | some (.dic _) => (b env M).bind fun y M2 => (cc env M2).bind fun z M3 => (match M3[k]? with
      | some (.dic l) => if isKey y then .ok ((getD l y).getD z) M3 else .bad
      | _ => .bad)
    | _ => .bad) Q E = rdD M k fun _ => wp (b env M) (fun y M2 => wp (cc env M2) (fun z M3 => rdD M3 k (fun l => if isKey y then Q ((getD l y).getD z) M3 else False)) E) E
    unfold rdD
    cases M[k]? with
    | none => rfl
    | some o =>
      cases o with
      | dic l =>
        show wp ((b env M).bind _) Q E = wp (b env M) _ E
        rw [wp_bind]
        congr 1
        funext y M2
        rw [wp_bind]
        congr 1
        funext z M3
        exact w_gB (cc := cc)
      | _ => rfl
  | _ => rfl
@[simp ↓] theorem w_get2 {cc : Fe} : wp (eGet2 a b cc env M) Q E = wp (a env M) (fun x M1 => match x with
  | .ref k => rdD M1 k fun _ => wp (b env M1) (fun y M2 => wp (cc env M2) (fun z M3 => rdD M3 k (fun l => if isKey y then Q ((getD l y).getD z) M3 else False)) E) E
  | _ => False) E := by
  unfold eGet2
  rw [wp_bind]
  congr 1
  funext x M1
  exact w_gA
theorem w_isi {x : MV} {c t : String} {k : Bool} (ht : tyN M x = some t) (hk : L2.kitB t c = some k) : wp (fIsi c [x] M) Q E = Q (.bl k) M := by
  unfold fIsi
  simp [ht, hk]
@[simp ↓] theorem w_isi_NoneType_tuple : wp (fIsi "tuple" [.non] M) Q E = Q (.bl false) M := w_isi (t := "NoneType") rfl (by decide +kernel)
@[simp ↓] theorem w_isi_NoneType_str : wp (fIsi "str" [.non] M) Q E = Q (.bl false) M := w_isi (t := "NoneType") rfl (by decide +kernel)
@[simp ↓] theorem w_isi_NoneType_int : wp (fIsi "int" [.non] M) Q E = Q (.bl false) M := w_isi (t := "NoneType") rfl (by decide +kernel)
@[simp ↓] theorem w_isi_NoneType_bool : wp (fIsi "bool" [.non] M) Q E = Q (.bl false) M := w_isi (t := "NoneType") rfl (by decide +kernel)
@[simp ↓] theorem w_isi_NoneType_list : wp (fIsi "list" [.non] M) Q E = Q (.bl false) M := w_isi (t := "NoneType") rfl (by decide +kernel)
@[simp ↓] theorem w_isi_NoneType_dict : wp (fIsi "dict" [.non] M) Q E = Q (.bl false) M := w_isi (t := "NoneType") rfl (by decide +kernel)
@[simp ↓] theorem w_isi_bool_tuple {b : Bool} : wp (fIsi "tuple" [(.bl b)] M) Q E = Q (.bl false) M := w_isi (t := "bool") rfl (by decide +kernel)
@[simp ↓] theorem w_isi_bool_str {b : Bool} : wp (fIsi "str" [(.bl b)] M) Q E = Q (.bl false) M := w_isi (t := "bool") rfl (by decide +kernel)
@[simp ↓] theorem w_isi_bool_int {b : Bool} : wp (fIsi "int" [(.bl b)] M) Q E = Q (.bl true) M := w_isi (t := "bool") rfl (by decide +kernel)
@[simp ↓] theorem w_isi_bool_bool {b : Bool} : wp (fIsi "bool" [(.bl b)] M) Q E = Q (.bl true) M := w_isi (t := "bool") rfl (by decide +kernel)
@[simp ↓] theorem w_isi_bool_list {b : Bool} : wp (fIsi "list" [(.bl b)] M) Q E = Q (.bl false) M := w_isi (t := "bool") rfl (by decide +kernel)
@[simp ↓] theorem w_isi_bool_dict {b : Bool} : wp (fIsi "dict" [(.bl b)] M) Q E = Q (.bl false) M := w_isi (t := "bool") rfl (by decide +kernel)
@[simp ↓] theorem w_isi_int_tuple {i : Int} : wp (fIsi "tuple" [(.int i)] M) Q E = Q (.bl false) M := w_isi (t := "int") rfl (by decide +kernel)
@[simp ↓] theorem w_isi_int_str {i : Int} : wp (fIsi "str" [(.int i)] M) Q E = Q (.bl false) M := w_isi (t := "int") rfl (by decide +kernel)
@[simp ↓] theorem w_isi_int_int {i : Int} : wp (fIsi "int" [(.int i)] M) Q E = Q (.bl true) M := w_isi (t := "int") rfl (by decide +kernel)
@[simp ↓] theorem w_isi_int_bool {i : Int} : wp (fIsi "bool" [(.int i)] M) Q E = Q (.bl false) M := w_isi (t := "int") rfl (by decide +kernel)
@[simp ↓] theorem w_isi_int_list {i : Int} : wp (fIsi "list" [(.int i)] M) Q E = Q (.bl false) M := w_isi (t := "int") rfl (by decide +kernel)
@[simp ↓] theorem w_isi_int_dict {i : Int} : wp (fIsi "dict" [(.int i)] M) Q E = Q (.bl false) M := w_isi (t := "int") rfl (by decide +kernel)
@[simp ↓] theorem w_isi_str_tuple {s : Tx} : wp (fIsi "tuple" [(.str s)] M) Q E = Q (.bl false) M := w_isi (t := "str") rfl (by decide +kernel)
@[simp ↓] theorem w_isi_str_str {s : Tx} : wp (fIsi "str" [(.str s)] M) Q E = Q (.bl true) M := w_isi (t := "str") rfl (by decide +kernel)
@[simp ↓] theorem w_isi_str_int {s : Tx} : wp (fIsi "int" [(.str s)] M) Q E = Q (.bl false) M := w_isi (t := "str") rfl (by decide +kernel)
@[simp ↓] theorem w_isi_str_bool {s : Tx} : wp (fIsi "bool" [(.str s)] M) Q E = Q (.bl false) M := w_isi (t := "str") rfl (by decide +kernel)
@[simp ↓] theorem w_isi_str_list {s : Tx} : wp (fIsi "list" [(.str s)] M) Q E = Q (.bl false) M := w_isi (t := "str") rfl (by decide +kernel)
@[simp ↓] theorem w_isi_str_dict {s : Tx} : wp (fIsi "dict" [(.str s)] M) Q E = Q (.bl false) M := w_isi (t := "str") rfl (by decide +kernel)
@[simp ↓] theorem w_isi_tuple_tuple {l : List MV} : wp (fIsi "tuple" [(.tup l)] M) Q E = Q (.bl true) M := w_isi (t := "tuple") rfl (by decide +kernel)
@[simp ↓] theorem w_isi_tuple_str {l : List MV} : wp (fIsi "str" [(.tup l)] M) Q E = Q (.bl false) M := w_isi (t := "tuple") rfl (by decide +kernel)
@[simp ↓] theorem w_isi_tuple_int {l : List MV} : wp (fIsi "int" [(.tup l)] M) Q E = Q (.bl false) M := w_isi (t := "tuple") rfl (by decide +kernel)
@[simp ↓] theorem w_isi_tuple_bool {l : List MV} : wp (fIsi "bool" [(.tup l)] M) Q E = Q (.bl false) M := w_isi (t := "tuple") rfl (by decide +kernel)
@[simp ↓] theorem w_isi_tuple_list {l : List MV} : wp (fIsi "list" [(.tup l)] M) Q E = Q (.bl false) M := w_isi (t := "tuple") rfl (by decide +kernel)
@[simp ↓] theorem w_isi_tuple_dict {l : List MV} : wp (fIsi "dict" [(.tup l)] M) Q E = Q (.bl false) M := w_isi (t := "tuple") rfl (by decide +kernel)
end

/-! ### targets -/
section
variable {Q : Env → Hm → Prop} {E : MX → Hm → Prop} {M : Hm} {env : Env}
@[simp ↓] theorem w_gN {i : Nat} {d : MV} : wp (gN i d env M) Q E = Q (env.set i (some d)) M := nr rfl
@[simp ↓] theorem w_gT {n : Nat} {r : Ftgs} {l : List MV} : wp (gT n r (.tup l) env M) Q E = if l.length = n then wp (r l env M) Q E else False := by unfold gT; simp
@[simp ↓] theorem w_gsNil : wp (gsNil [] env M) Q E = Q env M := nr rfl
@[simp ↓] theorem w_gsCons {g : Ftg} {r : Ftgs} {d : MV} {ds : List MV} : wp (gsCons g r (d :: ds) env M) Q E = wp (g d env M) (fun e1 M1 => wp (r ds e1 M1) Q E) E := by unfold gsCons; simp
@[simp ↓] theorem w_gIx {f : MV → MV → MV → Hm → R MV} {a b : Fe} {d : MV} : wp (gIx f a b d env M) Q E = wp (a env M) (fun x M1 => wp (b env M1) (fun y M2 => wp (f x y d M2) (fun _ M3 => Q env M3) (fun _ _ => False)) (fun _ _ => False)) (fun _ _ => False) := by unfold gIx; simp
theorem w_mX {o : Option Nat} {k : Nat} {l : List MV} {d : MV} {Q : MV → Hm → Prop} : wp (match o with | some j => .ok .non (M.set k (.lst (l.set j d))) | none => .bad) Q E = rdO o (fun j => Q .non (M.set k (.lst (l.set j d)))) := by cases o <;> rfl
section
variable {Q : MV → Hm → Prop}
@[simp ↓] theorem w_setL {k : Nat} {i : Int} {d : MV} : wp (fSetL (.ref k) (.int i) d M) Q E = rdL M k (fun l => rdX l.length i fun j => Q .non (M.set k (.lst (l.set j d)))) := by
  show wp (match M[k]? with
    | some (.lst l) => (match L2.ixN l.length i with | some j => .ok .non (M.set k (.lst (l.set j d))) | none => .bad)
    | _ => .bad) Q E = _
  unfold rdL
  cases M[k]? with
  | none => rfl
  | some o =>
    cases o with
    | lst l => exact w_mX
    | _ => rfl
end
end

/-! ### statements -/
section
variable {Q : O → Env → Hm → Prop} {E : MX → Env → Hm → Prop} {M : Hm} {env : Env} {a b : Fs} {e : Fe} {c : Ft}
@[simp ↓] theorem wS_ok {o : O} : wpS (.ok o env M) Q E = Q o env M := nr rfl
@[simp ↓] theorem wS_exc {x : MX} : wpS (.exc x env M) Q E = E x env M := nr rfl
@[simp ↓] theorem wS_bad : wpS .bad Q E = False := nr rfl
@[simp ↓] theorem wS_ite {c : Prop} [Decidable c] {a b : RS} : wpS (if c then a else b) Q E = if c then wpS a Q E else wpS b Q E := by split <;> rfl
@[simp ↓] theorem wS_st {α : Type} {r : R α} {f : α → Hm → RS} : wpS (r.st env f) Q E = wp r (fun a M1 => wpS (f a M1) Q E) (fun x M1 => E x env M1) := by cases r <;> rfl
@[simp ↓] theorem wS_nx : wpS (sNx env M) Q E = Q .nx env M := nr rfl
@[simp ↓] theorem wS_brk : wpS (sBrk env M) Q E = Q .brk env M := nr rfl
@[simp ↓] theorem wS_cnt : wpS (sCnt env M) Q E = Q .cnt env M := nr rfl
@[simp ↓] theorem wS_seq : wpS (sSeq a b env M) Q E = wpS (a env M) (fun o e1 M1 => match o with | .nx => wpS (b e1 M1) Q E | o => Q o e1 M1) E := by
  unfold sSeq
  cases a env M with
  | ok o e1 M1 => cases o <;> rfl
  | _ => rfl
@[simp ↓] theorem wS_set {i : Nat} : wpS (sSet i e env M) Q E = wp (e env M) (fun d M1 => Q .nx (env.set i (some d)) M1) (fun x M1 => E x env M1) := by unfold sSet; simp
@[simp ↓] theorem wS_asg {g : Ftg} : wpS (sAsg g e env M) Q E = wp (e env M) (fun d M1 => wp (g d env M1) (fun e1 M2 => Q .nx e1 M2) (fun x M2 => E x env M2)) (fun x M1 => E x env M1) := by unfold sAsg; simp
@[simp ↓] theorem wS_aug {f : MV → MV → Hm → R MV} {i : Nat} : wpS (sAug f i e env M) Q E = rdE env i (fun x => wp (e env M) (fun y M1 => wp (f x y M1) (fun z M2 => Q .nx (env.set i (some z)) M2) (fun x M2 => E x env M2)) (fun x M1 => E x env M1)) := by
  rw [rdE_eq]
  unfold sAug
  rcases h : env[i]? with _ | _ | x
  · rfl
  · rfl
  · simp
@[simp ↓] theorem wS_ex : wpS (sEx e env M) Q E = wp (e env M) (fun _ M1 => Q .nx env M1) (fun x M1 => E x env M1) := by unfold sEx; simp
@[simp ↓] theorem wS_ret : wpS (sRet e env M) Q E = wp (e env M) (fun d M1 => Q (.ret d) env M1) (fun x M1 => E x env M1) := by unfold sRet; simp
@[simp ↓] theorem wS_retN : wpS (sRetN env M) Q E = Q (.ret .non) env M := nr rfl
@[simp ↓] theorem wS_if : wpS (sIf c a b env M) Q E = wp (c env M) (fun k M1 => if k then wpS (a env M1) Q E else wpS (b env M1) Q E) (fun x M1 => E x env M1) := by unfold sIf; simp
theorem wS_pA {x y z : MV} : wpS (match x with
  | .ref k => (match M[k]? with
    | some (.dic l) => if isKey y && decide (l.length < SL) then .ok .nx env (M.set k (.dic (putD l y z))) else .bad
    | _ => .bad)
  | _ => .bad) Q E = (match x with
  | .ref k => rdD M k fun l => if isKey y && decide (l.length < SL) then Q .nx env (M.set k (.dic (putD l y z))) else False
  | _ => False) := by
  cases x with
  | ref k =>
    show wpS (match M[k]? with
    | some (.dic l) => if isKey y && decide (l.length < SL) then .ok .nx env (M.set k (.dic (putD l y z))) else .bad
    | _ => .bad) Q E = rdD M k fun l => if isKey y && decide (l.length < SL) then Q .nx env (M.set k (.dic (putD l y z))) else False
    unfold rdD
    cases M[k]? with
    | none => rfl
    | some o =>
      cases o with
      | dic l => exact wS_ite
      | _ => rfl
  | _ => rfl
@[simp ↓] theorem wS_putA {x y v : Fe} : wpS (sPutA x y v env M) Q E = wp (v env M) (fun z M1 => wp (x env M1) (fun d M2 => wp (y env M2) (fun k M3 => match d with
  | .ref j => rdD M3 j fun l => if isKey k && decide (l.length < SL) then Q .nx env (M3.set j (.dic (putD l k z))) else False
  | _ => False) (fun x M => E x env M)) (fun x M => E x env M)) (fun x M => E x env M) := by
  unfold sPutA
  rw [wS_st]
  congr 1
  funext z M1
  rw [wS_st]
  congr 1
  funext d M2
  rw [wS_st]
  congr 1
  funext k M3
  exact wS_pA
@[simp ↓] theorem wS_raise {c : Nat} : wpS (sRaiseC c env M) Q E = E ⟨c, none⟩ env M := nr rfl
@[simp ↓] theorem wS_while : wpS (sWhl c b env M) Q E = wpS (whlGo c b WL env M) Q E := nr rfl
@[simp ↓] theorem wS_for {it : Fi} {g : Ftg} : wpS (sFor it g b env M) Q E = wp (it env M) (fun p M1 => wpS (forGo p.1 g b p.2 0 env M1) Q E) (fun x M1 => E x env M1) := by unfold sFor; simp
theorem wS_try {sub : Nat → Option Bool} {i : Nat} {su : MX → Fs} : wpS (sTryAs a sub i su env M) Q E = wpS (a env M) Q (fun x e1 M1 => match sub x.cls with
    | some true => if i < e1.length then wpS (su x (e1.set i none) M1) (fun o e2 M2 => Q o (e2.set i none) M2) (fun _ _ _ => False) else False
    | some false => E x e1 M1
    | none => False) := by
  unfold sTryAs
  cases a env M with
  | ok o e1 M1 => rfl
  | exc x e1 M1 =>
    show wpS (match sub x.cls with
      | some true => if i < e1.length then (match su x (e1.set i none) M1 with
        | .ok o env2 M2 => .ok o (env2.set i none) M2
        | _ => .bad) else .bad
      | some false => .exc x e1 M1
      | none => .bad) Q E = (match sub x.cls with
      | some true => if i < e1.length then wpS (su x (e1.set i none) M1) (fun o e2 M2 => Q o (e2.set i none) M2) (fun _ _ _ => False) else False
      | some false => E x e1 M1
      | none => False)
    cases sub x.cls with
    | none => rfl
    | some k =>
      cases k with
      | false => rfl
      | true =>
        by_cases hl : i < e1.length
        · simp only [if_pos hl]
          cases su x (e1.set i none) M1 <;> rfl
        · simp only [if_neg hl]
          rfl
  | bad => rfl
/-- a while: Inv k, at most k turns to go -/
theorem wS_whl {Q : O → Env → Hm → Prop} {E : MX → Env → Hm → Prop} (Inv : Nat → Env → Hm → Prop)
    (step : ∀ k env M, Inv k env M → wp (c env M) (fun t M1 => if t then wpS (b env M1) (fun o e2 M2 => match o with
      | .nx => ∃ k', k' < k ∧ Inv k' e2 M2
      | .cnt => ∃ k', k' < k ∧ Inv k' e2 M2
      | .brk => Q .nx e2 M2
      | .ret d => Q (.ret d) e2 M2) E else Q .nx env M1) (fun x M1 => E x env M1)) :
    ∀ (n k : Nat) env M, k < n → Inv k env M → wpS (whlGo c b n env M) Q E := by
  intro n
  induction n with
  | zero => intro k env M hk; exact absurd hk (Nat.not_lt_zero _)
  | succ n ih =>
    intro k env M hk hi
    have h := step k env M hi
    show wpS ((c env M).st env fun k M1 => if k then
      match b env M1 with
      | .ok .nx env2 M2 => whlGo c b n env2 M2
      | .ok .cnt env2 M2 => whlGo c b n env2 M2
      | .ok .brk env2 M2 => .ok .nx env2 M2
      | r => r
    else .ok .nx env M1) Q E
    rw [wS_st]
    refine wp_mono h (fun t M1 h1 => ?_) fun _ _ h1 => h1
    cases t with
    | false => exact h1
    | true =>
      have h1 : wpS (b env M1) _ E := h1
      show wpS (match b env M1 with
      | .ok .nx env2 M2 => whlGo c b n env2 M2
      | .ok .cnt env2 M2 => whlGo c b n env2 M2
      | .ok .brk env2 M2 => .ok .nx env2 M2
      | r => r) Q E
      cases hb : b env M1 with
      | bad => rw [hb] at h1; exact h1
      | exc x e2 M2 => rw [hb] at h1; exact h1
      | ok o e2 M2 =>
        rw [hb] at h1
        cases o with
        | nx => obtain ⟨k', hk', hi'⟩ := h1; exact ih k' e2 M2 (by omega) hi'
        | cnt => obtain ⟨k', hk', hi'⟩ := h1; exact ih k' e2 M2 (by omega) hi'
        | brk => exact h1
        | ret d => exact h1
/-- a for over what is told from k on -/
theorem wS_for0 {Q : O → Env → Hm → Prop} {E : MX → Env → Hm → Prop} {g : Ftg} {ni : Ni} (Inv : Nat → Env → Hm → Prop) (N : Nat)
    (hn : ∀ k env M, Inv k env M → k ≤ N → ∃ o, ni M k = some o ∧ (o = none ↔ k = N))
    (step : ∀ k d env M, k < N → ni M k = some (some d) → Inv k env M → wp (g d env M) (fun e1 M1 => wpS (b e1 M1) (fun o e2 M2 => match o with
      | .nx => Inv (k + 1) e2 M2
      | .cnt => Inv (k + 1) e2 M2
      | .brk => Q .nx e2 M2
      | .ret d => Q (.ret d) e2 M2) E) (fun x M1 => E x env M1))
    (hend : ∀ env M, Inv N env M → Q .nx env M) :
    ∀ (n k : Nat) env M, k + n = N + 1 → k ≤ N → Inv k env M → wpS (forGo ni g b n k env M) Q E := by
  intro n
  induction n with
  | zero => intro k env M h1 h2 _; omega
  | succ n ih =>
    intro k env M h1 h2 hi
    obtain ⟨o, ho, hk⟩ := hn k env M hi h2
    show wpS (match ni M k with
      | none => .bad
      | some none => .ok .nx env M
      | some (some x) => (g x env M).st env fun env1 M1 => match b env1 M1 with
        | .ok .nx env2 M2 => forGo ni g b n (k + 1) env2 M2
        | .ok .cnt env2 M2 => forGo ni g b n (k + 1) env2 M2
        | .ok .brk env2 M2 => .ok .nx env2 M2
        | r => r) Q E
    rw [ho]
    cases o with
    | none =>
      have e := hk.mp rfl
      subst e
      exact hend env M hi
    | some d =>
      have hlt : k < N := by
        rcases Nat.lt_or_ge k N with z | z
        · exact z
        · have := hk.mpr (by omega)
          cases this
      have h := step k d env M hlt ho hi
      show wpS ((g d env M).st env fun env1 M1 => match b env1 M1 with
        | .ok .nx env2 M2 => forGo ni g b n (k + 1) env2 M2
        | .ok .cnt env2 M2 => forGo ni g b n (k + 1) env2 M2
        | .ok .brk env2 M2 => .ok .nx env2 M2
        | r => r) Q E
      rw [wS_st]
      refine wp_mono h (fun e1 M1 h1 => ?_) fun _ _ h1 => h1
      cases hb : b e1 M1 with
      | bad => rw [hb] at h1; exact h1
      | exc x e2 M2 => rw [hb] at h1; exact h1
      | ok o e2 M2 =>
        rw [hb] at h1
        cases o with
        | nx => exact ih (k + 1) e2 M2 (by omega) (by omega) h1
        | cnt => exact ih (k + 1) e2 M2 (by omega) (by omega) h1
        | brk => exact h1
        | ret d => exact h1
theorem wS_forT {Q : O → Env → Hm → Prop} {E : MX → Env → Hm → Prop} {g : Ftg} {l : List MV} (Inv : Nat → Env → Hm → Prop) (h0 : Inv 0 env M)
    (step : ∀ k d env M, l[k]? = some d → Inv k env M → wp (g d env M) (fun e1 M1 => wpS (b e1 M1) (fun o e2 M2 => match o with
      | .nx => Inv (k + 1) e2 M2
      | .cnt => Inv (k + 1) e2 M2
      | .brk => Q .nx e2 M2
      | .ret d => Q (.ret d) e2 M2) E) (fun x M1 => E x env M1))
    (hend : ∀ env M, Inv l.length env M → Q .nx env M) : wpS (forGo (nT l) g b (l.length + 1) 0 env M) Q E := by
  refine wS_for0 Inv l.length (fun k env M _ hk => ⟨l[k]?, rfl, ?_⟩) (fun k d env M _ hd hi => step k d env M (Option.some.inj hd) hi) hend _ 0 env M (by omega) (by omega) h0
  rw [List.getElem?_eq_none_iff]
  omega
theorem wS_forR {Q : O → Env → Hm → Prop} {E : MX → Env → Hm → Prop} {g : Ftg} {lo c : Int} {n : Nat} (Inv : Nat → Env → Hm → Prop) (h0 : Inv 0 env M)
    (step : ∀ k env M, k < n → Inv k env M → wp (g (.int (lo + k * c)) env M) (fun e1 M1 => wpS (b e1 M1) (fun o e2 M2 => match o with
      | .nx => Inv (k + 1) e2 M2
      | .cnt => Inv (k + 1) e2 M2
      | .brk => Q .nx e2 M2
      | .ret d => Q (.ret d) e2 M2) E) (fun x M1 => E x env M1))
    (hend : ∀ env M, Inv n env M → Q .nx env M) : wpS (forGo (nR lo c n) g b (n + 1) 0 env M) Q E := by
  refine wS_for0 Inv n (fun k env M _ hk => ⟨_, rfl, ?_⟩) (fun k d env M hk hd hi => ?_) hend _ 0 env M (by omega) (by omega) h0
  · by_cases h : k < n
    · rw [if_pos h]
      constructor
      · intro z; cases z
      · intro z; omega
    · rw [if_neg h]
      constructor
      · intro _; omega
      · intro _; rfl
  · unfold nR at hd
    rw [if_pos hk] at hd
    cases hd
    exact step k env M hk hi
end
/-! ### what is walked -/
section
variable {Q : Ni × Nat → Hm → Prop} {E : MX → Hm → Prop} {M : Hm} {env : Env} {a : Fe} {t : Fa}
@[simp ↓] theorem w_iRg {f : List MV → Hm → R (Ni × Nat)} : wp (iRg f t env M) Q E = wp (t env M) (fun xs M1 => wp (f xs M1) Q E) E := by unfold iRg; simp
@[simp ↓] theorem w_rg1 {j : Int} : wp (rg1 [.int j] M) Q E = if in62 j then Q (nR 0 1 j.toNat, j.toNat + 1) M else False := by unfold rg1; simp
@[simp ↓] theorem w_rg2 {i j : Int} : wp (rg2 [.int i, .int j] M) Q E = if in62 i && in62 j then Q (nR i 1 (j - i).toNat, (j - i).toNat + 1) M else False := by unfold rg2; simp
@[simp ↓] theorem w_iA : wp (iA a env M) Q E = wp (a env M) (fun x M1 => rdIt M1 x fun p => Q p M1) E := by
  unfold iA
  rw [wp_bind]
  congr 1
  funext x M1
  cases x with
  | ref i =>
    show wp (match M1[i]? with
      | some (.lst l) => .ok (nL i, l.length + 1) M1
      | _ => .bad) Q E = rdL M1 i fun l => Q (nL i, l.length + 1) M1
    unfold rdL
    cases M1[i]? with
    | none => rfl
    | some o => cases o <;> rfl
  | _ => rfl
end
/-! ### comprehensions -/
section
variable {Q : MV → Hm → Prop} {E : MX → Hm → Prop} {M : Hm} {env : Env} {e : Fe} {c : Ft} {g : Ftg} {it : Fi} {vs : List Nat}
@[simp ↓] theorem w_lc : wp (eLc it g c e vs env M) Q E = wp (it env M) (fun p M1 => wp (lcGo p.1 g c e (wipeE env vs) p.2 0 [] M1) (fun l M2 => Q (.ref M2.length) (M2 ++ [.lst l])) E) E := by unfold eLc; simp
theorem w_lc0 {Ql : List MV → Hm → Prop} {ni : Ni} (Inv : Nat → List MV → Hm → Prop) (N : Nat)
    (hn : ∀ k acc M, Inv k acc M → k ≤ N → ∃ o, ni M k = some o ∧ (o = none ↔ k = N))
    (step : ∀ k d acc M, k < N → ni M k = some (some d) → Inv k acc M → wp (g d env M) (fun e1 M1 => wp (c e1 M1) (fun t M2 => if t then wp (e e1 M2) (fun y M3 => acc.length < SL ∧ Inv (k + 1) (acc ++ [y]) M3) (fun _ _ => False) else Inv (k + 1) acc M2) (fun _ _ => False)) (fun _ _ => False))
    (hend : ∀ acc M, Inv N acc M → Ql acc M) :
    ∀ (n k : Nat) acc M, k + n = N + 1 → k ≤ N → Inv k acc M → wp (lcGo ni g c e env n k acc M) Ql E := by
  intro n
  induction n with
  | zero => intro k acc M h1 h2 _; omega
  | succ n ih =>
    intro k acc M h1 h2 hi
    obtain ⟨o, ho, hk⟩ := hn k acc M hi h2
    show wp (match ni M k with
      | none => .bad
      | some none => .ok acc M
      | some (some x) => (g x env M).bindN fun env1 M1 => (c env1 M1).bindN fun b M2 =>
        if b then (e env1 M2).bindN fun y M3 => if acc.length < SL then lcGo ni g c e env n (k + 1) (acc ++ [y]) M3 else .bad
        else lcGo ni g c e env n (k + 1) acc M2) Ql E
    rw [ho]
    cases o with
    | none =>
      have z := hk.mp rfl
      subst z
      exact hend acc M hi
    | some d =>
      have hlt : k < N := by
        rcases Nat.lt_or_ge k N with z | z
        · exact z
        · have := hk.mpr (by omega)
          cases this
      have h := step k d acc M hlt ho hi
      show wp ((g d env M).bindN fun env1 M1 => (c env1 M1).bindN fun b M2 =>
        if b then (e env1 M2).bindN fun y M3 => if acc.length < SL then lcGo ni g c e env n (k + 1) (acc ++ [y]) M3 else .bad
        else lcGo ni g c e env n (k + 1) acc M2) Ql E
      simp only [wp_bindN, wp_ite]
      refine wp_mono h (fun e1 M1 h1 => wp_mono h1 (fun t M2 h2' => ?_) fun _ _ z => z) fun _ _ z => z
      cases t with
      | false => exact ih (k + 1) acc M2 (by omega) (by omega) h2'
      | true =>
        refine wp_mono h2' (fun y M3 h3 => ?_) fun _ _ z => z
        rw [if_pos h3.1]
        exact ih (k + 1) _ M3 (by omega) (by omega) h3.2
theorem w_lcT {Ql : List MV → Hm → Prop} {l : List MV} (Inv : Nat → List MV → Hm → Prop) (h0 : Inv 0 [] M)
    (step : ∀ k d acc M, l[k]? = some d → Inv k acc M → wp (g d env M) (fun e1 M1 => wp (c e1 M1) (fun t M2 => if t then wp (e e1 M2) (fun y M3 => acc.length < SL ∧ Inv (k + 1) (acc ++ [y]) M3) (fun _ _ => False) else Inv (k + 1) acc M2) (fun _ _ => False)) (fun _ _ => False))
    (hend : ∀ acc M, Inv l.length acc M → Ql acc M) : wp (lcGo (nT l) g c e env (l.length + 1) 0 [] M) Ql E := by
  refine w_lc0 Inv l.length (fun k acc M _ hk => ⟨l[k]?, rfl, ?_⟩) (fun k d acc M _ hd hi => step k d acc M (Option.some.inj hd) hi) hend _ 0 [] M (by omega) (by omega) h0
  rw [List.getElem?_eq_none_iff]
  omega
theorem w_lcR {Ql : List MV → Hm → Prop} {lo cc : Int} {n : Nat} (Inv : Nat → List MV → Hm → Prop) (h0 : Inv 0 [] M)
    (step : ∀ k acc M, k < n → Inv k acc M → wp (g (.int (lo + k * cc)) env M) (fun e1 M1 => wp (c e1 M1) (fun t M2 => if t then wp (e e1 M2) (fun y M3 => acc.length < SL ∧ Inv (k + 1) (acc ++ [y]) M3) (fun _ _ => False) else Inv (k + 1) acc M2) (fun _ _ => False)) (fun _ _ => False))
    (hend : ∀ acc M, Inv n acc M → Ql acc M) : wp (lcGo (nR lo cc n) g c e env (n + 1) 0 [] M) Ql E := by
  refine w_lc0 Inv n (fun k acc M _ hk => ⟨_, rfl, ?_⟩) (fun k d acc M hk hd hi => ?_) hend _ 0 [] M (by omega) (by omega) h0
  · by_cases h : k < n
    · rw [if_pos h]
      constructor
      · intro z; cases z
      · intro z; omega
    · rw [if_neg h]
      constructor
      · intro _; omega
      · intro _; rfl
  · unfold nR at hd
    rw [if_pos hk] at hd
    cases hd
    exact step k acc M hk hi
end
/-! ### defs -/
theorem w_run {tab : Nat → Option Df} {n f : Nat} {ds : List MV} {M : Hm} {Q : MV → Hm → Prop} {E : MX → Hm → Prop} {d : Df} (h : tab f = some d) (hl : ds.length = d.np)
    (hb : wpS (d.bd (run tab n) (ds.map some ++ List.replicate (d.ns - d.np) none) M) (fun o _ M1 => match o with
      | .nx => gcQ M M1 .non Q
      | .ret v => gcQ M M1 v Q
      | _ => False) (fun x _ M1 => gcE M M1 x E)) : wp (run tab (n + 1) f ds M) Q E := by
  show wp (match tab f with
    | some d => callD d (run tab n) ds M
    | none => .bad) Q E
  rw [h]
  show wp (callD d (run tab n) ds M) Q E
  unfold callD
  rw [if_pos hl, w_gcR]
  cases hr : d.bd (run tab n) (ds.map some ++ List.replicate (d.ns - d.np) none) M with
  | ok o e1 M1 =>
    rw [hr] at hb
    cases o <;> exact hb
  | exc x e1 M1 => rw [hr] at hb; exact hb
  | bad => rw [hr] at hb; exact hb
/-! ### the heap grows -/
/-- a block by what stands behind its first statement -/
theorem wS_cut {Q : O → Env → Hm → Prop} {E : MX → Env → Hm → Prop} {M : Hm} {env : Env} {a b : Fs} (P : Env → Hm → Prop) (h1 : wpS (a env M) (fun o e1 M1 => match o with | .nx => P e1 M1 | o => Q o e1 M1) E)
    (h2 : ∀ e1 M1, P e1 M1 → wpS (b e1 M1) Q E) : wpS (sSeq a b env M) Q E := by
  rw [wS_seq]
  refine wpS_mono h1 (fun o e1 M1 h => ?_) fun _ _ _ h => h
  cases o <;> first | exact h2 _ _ h | exact h
/-! ### limits -/
end D
/-- what must hold ahead: not to be seen through -/
structure wp {α : Type} (r : R α) (Q : α → Hm → Prop) (E : MX → Hm → Prop) : Prop where
  out : D.wp r Q E
structure wpS (r : RS) (Q : O → Env → Hm → Prop) (E : MX → Env → Hm → Prop) : Prop where
  out : D.wpS r Q E
theorem wp_eq {α : Type} {r : R α} {Q : α → Hm → Prop} {E : MX → Hm → Prop} : wp r Q E = D.wp r Q E := propext ⟨fun h => h.out, fun h => ⟨h⟩⟩
theorem wpS_eq {r : RS} {Q : O → Env → Hm → Prop} {E : MX → Env → Hm → Prop} : wpS r Q E = D.wpS r Q E := propext ⟨fun h => h.out, fun h => ⟨h⟩⟩
section
variable {α β : Type}
theorem wp_mono {r : R α} {Q Q' : α → Hm → Prop} {E E' : MX → Hm → Prop} (h : wp r Q E) (hq : ∀ a M, Q a M → Q' a M) (he : ∀ x M, E x M → E' x M) : wp r Q' E' := by
  simp only [wp_eq, wpS_eq] at *
  first | exact D.wp_mono | (apply D.wp_mono <;> assumption)
theorem wpS_mono {r : RS} {Q Q' : O → Env → Hm → Prop} {E E' : MX → Env → Hm → Prop} (h : wpS r Q E) (hq : ∀ o e M, Q o e M → Q' o e M) (he : ∀ x e M, E x e M → E' x e M) : wpS r Q' E' := by
  simp only [wp_eq, wpS_eq] at *
  first | exact D.wpS_mono | (apply D.wpS_mono <;> assumption)
theorem wp_ok_of {r : R α} {Q : α → Hm → Prop} (h : wp r Q fun _ _ => False) : ∃ a M, r = .ok a M ∧ Q a M := by
  simp only [wp_eq, wpS_eq] at *
  exact D.wp_ok_of h
variable {Q : α → Hm → Prop} {Qb : β → Hm → Prop} {E : MX → Hm → Prop} {M : Hm} {env : Env}
@[simp ↓] theorem wp_ok {a : α} : wp (.ok a M) Q E = Q a M := by
  simp only [wp_eq, wpS_eq] at *
  first | exact D.wp_ok | (apply D.wp_ok <;> assumption)
@[simp ↓] theorem wp_exc {x : MX} : wp (.exc x M) Q E = E x M := by
  simp only [wp_eq, wpS_eq] at *
  first | exact D.wp_exc | (apply D.wp_exc <;> assumption)
@[simp ↓] theorem wp_bad : wp .bad Q E = False := by
  simp only [wp_eq, wpS_eq] at *
  first | exact D.wp_bad | (apply D.wp_bad <;> assumption)
@[simp ↓] theorem wp_bind {r : R α} {f : α → Hm → R β} : wp (r.bind f) Qb E = wp r (fun a M => wp (f a M) Qb E) E := by
  simp only [wp_eq, wpS_eq] at *
  first | exact D.wp_bind | (apply D.wp_bind <;> assumption)
@[simp ↓] theorem wp_bindN {r : R α} {f : α → Hm → R β} : wp (r.bindN f) Qb E = wp r (fun a M => wp (f a M) Qb E) (fun _ _ => False) := by
  simp only [wp_eq, wpS_eq] at *
  first | exact D.wp_bindN | (apply D.wp_bindN <;> assumption)
theorem wp_ite {c : Prop} [Decidable c] {a b : R α} : wp (if c then a else b) Q E = if c then wp a Q E else wp b Q E := by
  simp only [wp_eq, wpS_eq]
  exact D.wp_ite
end
/-! ### readers: one step at the head, the rest unseen -/
/-! dicts -/
section
variable {M : Hm} {F : Bool → Prop}
end
section
variable {Q : MV → Hm → Prop} {Qb : Bool → Hm → Prop} {Ql : List MV → Hm → Prop} {E : MX → Hm → Prop} {M : Hm} {env : Env} {a b : Fe} {t : Fa} {c d : Ft}
@[simp ↓] theorem w_var {i : Nat} : wp (eVar i env M) Q E = rdE env i (fun d => Q d M) := by
  simp only [wp_eq, wpS_eq] at *
  first | exact D.w_var | (apply D.w_var <;> assumption)
@[simp ↓] theorem w_c {d : MV} : wp (eC d env M) Q E = Q d M := by
  simp only [wp_eq, wpS_eq] at *
  first | exact D.w_c | (apply D.w_c <;> assumption)
@[simp ↓] theorem w_op {f : MV → MV → Hm → R MV} : wp (eOp f a b env M) Q E = wp (a env M) (fun x M1 => wp (b env M1) (fun y M2 => wp (f x y M2) Q E) E) E := by
  simp only [wp_eq, wpS_eq] at *
  first | exact D.w_op | (apply D.w_op <;> assumption)
@[simp ↓] theorem w_un {f : MV → Hm → R MV} : wp (eUn f a env M) Q E = wp (a env M) (fun x M1 => wp (f x M1) Q E) E := by
  simp only [wp_eq, wpS_eq] at *
  first | exact D.w_un | (apply D.w_un <;> assumption)
@[simp ↓] theorem w_aNil : wp (aNil env M) Ql E = Ql [] M := by
  simp only [wp_eq, wpS_eq] at *
  first | exact D.w_aNil | (apply D.w_aNil <;> assumption)
@[simp ↓] theorem w_aCons : wp (aCons a t env M) Ql E = wp (a env M) (fun x M1 => wp (t env M1) (fun xs M2 => Ql (x :: xs) M2) E) E := by
  simp only [wp_eq, wpS_eq] at *
  first | exact D.w_aCons | (apply D.w_aCons <;> assumption)
@[simp ↓] theorem w_tup : wp (eTup t env M) Q E = wp (t env M) (fun xs M1 => ((xs.length ≤ SL) ∧ (Q (.tup xs) M1))) E := by
  simp only [wp_eq, wpS_eq, ifB_eq] at *
  first | exact D.w_tup | exact (D.w_tup).trans (by simp only [ite_and]) | (rw [D.w_tup]; simp only [ite_and]; done) | (apply D.w_tup <;> assumption)
@[simp ↓] theorem w_lst : wp (eLst t env M) Q E = wp (t env M) (fun xs M1 => ((xs.length ≤ SL) ∧ (Q (.ref M1.length) (M1 ++ [.lst xs])))) E := by
  simp only [wp_eq, wpS_eq, ifB_eq] at *
  first | exact D.w_lst | exact (D.w_lst).trans (by simp only [ite_and]) | (rw [D.w_lst]; simp only [ite_and]; done) | (apply D.w_lst <;> assumption)
@[simp ↓] theorem w_fn {f : List MV → Hm → R MV} : wp (eFn f t env M) Q E = wp (t env M) (fun xs M1 => wp (f xs M1) Q E) E := by
  simp only [wp_eq, wpS_eq] at *
  first | exact D.w_fn | (apply D.w_fn <;> assumption)
@[simp ↓] theorem w_call {G : Ga} {f : Nat} : wp (eCall G f t env M) Q E = wp (t env M) (fun xs M1 => wp (G f xs M1) Q E) E := by
  simp only [wp_eq, wpS_eq] at *
  first | exact D.w_call | (apply D.w_call <;> assumption)
@[simp ↓] theorem w_met {ty : Ty} {f : MV → List MV → Hm → R MV} : wp (eMet ty f a t env M) Q E = wp (a env M) (fun x M1 => rdTy M1 ty x (wp (t env M1) (fun xs M2 => wp (f x xs M2) Q E) E)) E := by
  simp only [wp_eq, wpS_eq] at *
  first | exact D.w_met | (apply D.w_met <;> assumption)
@[simp ↓] theorem w_if : wp (eIf c a b env M) Q E = wp (c env M) (fun k M1 => ifB (k) (wp (a env M1) Q E) (wp (b env M1) Q E)) E := by
  simp only [wp_eq, wpS_eq, ifB_eq] at *
  first | exact D.w_if | exact (D.w_if).trans (by simp only [ite_and]) | (rw [D.w_if]; simp only [ite_and]; done) | (apply D.w_if <;> assumption)
@[simp ↓] theorem w_and : wp (eAnd a b env M) Q E = wp (a env M) (fun x M1 => match x with | .bl k => ifB (k) (wp (b env M1) Q E) (Q (.bl false) M1) | _ => False) E := by
  simp only [wp_eq, wpS_eq, ifB_eq] at *
  first | exact D.w_and | exact (D.w_and).trans (by simp only [ite_and]) | (rw [D.w_and]; simp only [ite_and]; done) | (apply D.w_and <;> assumption)
@[simp ↓] theorem w_or : wp (eOr a b env M) Q E = wp (a env M) (fun x M1 => match x with | .bl k => ifB (k) (Q (.bl true) M1) (wp (b env M1) Q E) | _ => False) E := by
  simp only [wp_eq, wpS_eq, ifB_eq] at *
  first | exact D.w_or | exact (D.w_or).trans (by simp only [ite_and]) | (rw [D.w_or]; simp only [ite_and]; done) | (apply D.w_or <;> assumption)
@[simp ↓] theorem w_t : wp (eT c env M) Q E = wp (c env M) (fun k M1 => Q (.bl k) M1) E := by
  simp only [wp_eq, wpS_eq] at *
  first | exact D.w_t | (apply D.w_t <;> assumption)
@[simp ↓] theorem w_v : wp (cV a env M) Qb E = wp (a env M) (fun x M1 => rdT M1 x fun k => Qb k M1) E := by
  simp only [wp_eq, wpS_eq] at *
  first | exact D.w_v | (apply D.w_v <;> assumption)
@[simp ↓] theorem w_b : wp (cB a env M) Qb E = wp (a env M) (fun x M1 => match x with | .bl k => Qb k M1 | _ => False) E := by
  simp only [wp_eq, wpS_eq] at *
  first | exact D.w_b | (apply D.w_b <;> assumption)
@[simp ↓] theorem w_cAnd : wp (cAnd c d env M) Qb E = wp (c env M) (fun k M1 => ifB (k) (wp (d env M1) Qb E) (Qb false M1)) E := by
  simp only [wp_eq, wpS_eq, ifB_eq] at *
  first | exact D.w_cAnd | exact (D.w_cAnd).trans (by simp only [ite_and]) | (rw [D.w_cAnd]; simp only [ite_and]; done) | (apply D.w_cAnd <;> assumption)
@[simp ↓] theorem w_cOr : wp (cOr c d env M) Qb E = wp (c env M) (fun k M1 => ifB (k) (Qb true M1) (wp (d env M1) Qb E)) E := by
  simp only [wp_eq, wpS_eq, ifB_eq] at *
  first | exact D.w_cOr | exact (D.w_cOr).trans (by simp only [ite_and]) | (rw [D.w_cOr]; simp only [ite_and]; done) | (apply D.w_cOr <;> assumption)
@[simp ↓] theorem w_cNot : wp (cNot c env M) Qb E = wp (c env M) (fun k M1 => Qb (!k) M1) E := by
  simp only [wp_eq, wpS_eq] at *
  first | exact D.w_cNot | (apply D.w_cNot <;> assumption)
@[simp ↓] theorem w_cYes : wp (cYes env M) Qb E = Qb true M := by
  simp only [wp_eq, wpS_eq] at *
  first | exact D.w_cYes | (apply D.w_cYes <;> assumption)
/-! operations -/
@[simp ↓] theorem w_addI {i j : Int} : wp (fAdd (.int i) (.int j) M) Q E = Q (.int (i + j)) M := by
  simp only [wp_eq, wpS_eq] at *
  first | exact D.w_addI | (apply D.w_addI <;> assumption)
@[simp ↓] theorem w_addS {s t : Tx} : wp (fAdd (.str s) (.str t) M) Q E = ((s.length + t.length ≤ SL) ∧ (Q (.str (s ++ t)) M)) := by
  simp only [wp_eq, wpS_eq, ifB_eq] at *
  first | exact D.w_addS | exact (D.w_addS).trans (by simp only [ite_and]) | (rw [D.w_addS]; simp only [ite_and]; done) | (apply D.w_addS <;> assumption)
@[simp ↓] theorem w_addT {s t : List MV} : wp (fAdd (.tup s) (.tup t) M) Q E = ((s.length + t.length ≤ SL) ∧ (Q (.tup (s ++ t)) M)) := by
  simp only [wp_eq, wpS_eq, ifB_eq] at *
  first | exact D.w_addT | exact (D.w_addT).trans (by simp only [ite_and]) | (rw [D.w_addT]; simp only [ite_and]; done) | (apply D.w_addT <;> assumption)
theorem w_addL {i j : Nat} {s t : List MV} (hi : M[i]? = some (.lst s)) (hj : M[j]? = some (.lst t)) : wp (fAdd (.ref i) (.ref j) M) Q E = ((s.length + t.length ≤ SL) ∧ (Q (.ref M.length) (M ++ [.lst (s ++ t)]))) := by
  simp only [wp_eq]
  rw [D.w_addL hi hj, ite_and]
@[simp ↓] theorem w_iaddI {i j : Int} : wp (fIAdd (.int i) (.int j) M) Q E = Q (.int (i + j)) M := by
  simp only [wp_eq, wpS_eq] at *
  first | exact D.w_iaddI | (apply D.w_iaddI <;> assumption)
@[simp ↓] theorem w_iaddS {s t : Tx} : wp (fIAdd (.str s) (.str t) M) Q E = ((s.length + t.length ≤ SL) ∧ (Q (.str (s ++ t)) M)) := by
  simp only [wp_eq, wpS_eq, ifB_eq] at *
  first | exact D.w_iaddS | exact (D.w_iaddS).trans (by simp only [ite_and]) | (rw [D.w_iaddS]; simp only [ite_and]; done) | (apply D.w_iaddS <;> assumption)
@[simp ↓] theorem w_subI {i j : Int} : wp (fSub (.int i) (.int j) M) Q E = Q (.int (i - j)) M := by
  simp only [wp_eq, wpS_eq] at *
  first | exact D.w_subI | (apply D.w_subI <;> assumption)
@[simp ↓] theorem w_mulI {i j : Int} : wp (fMul (.int i) (.int j) M) Q E = ((cMul i j) ∧ (Q (.int (i * j)) M)) := by
  simp only [wp_eq, wpS_eq, ifB_eq] at *
  first | exact D.w_mulI | exact (D.w_mulI).trans (by simp only [ite_and]) | (rw [D.w_mulI]; simp only [ite_and]; done) | (apply D.w_mulI <;> assumption)
@[simp ↓] theorem w_divI {i j : Int} : wp (fDiv (.int i) (.int j) M) Q E = ((cDiv i j) ∧ (Q (.int (i / j)) M)) := by
  simp only [wp_eq, wpS_eq, ifB_eq] at *
  first | exact D.w_divI | exact (D.w_divI).trans (by simp only [ite_and]) | (rw [D.w_divI]; simp only [ite_and]; done) | (apply D.w_divI <;> assumption)
@[simp ↓] theorem w_modI {i j : Int} : wp (fMod (.int i) (.int j) M) Q E = ((cMod i j) ∧ (Q (.int (i % j)) M)) := by
  simp only [wp_eq, wpS_eq, ifB_eq] at *
  first | exact D.w_modI | exact (D.w_modI).trans (by simp only [ite_and]) | (rw [D.w_modI]; simp only [ite_and]; done) | (apply D.w_modI <;> assumption)
@[simp ↓] theorem w_powI {i j : Int} : wp (fPow (.int i) (.int j) M) Q E = ((cPow i j) ∧ (Q (.int (i ^ j.toNat)) M)) := by
  simp only [wp_eq, wpS_eq, ifB_eq] at *
  first | exact D.w_powI | exact (D.w_powI).trans (by simp only [ite_and]) | (rw [D.w_powI]; simp only [ite_and]; done) | (apply D.w_powI <;> assumption)
@[simp ↓] theorem w_negI {i : Int} : wp (fNeg (.int i) M) Q E = Q (.int (-i)) M := by
  simp only [wp_eq, wpS_eq] at *
  first | exact D.w_negI | (apply D.w_negI <;> assumption)
@[simp ↓] theorem w_ltI {i j : Int} : wp (fLt (.int i) (.int j) M) Q E = Q (.bl (decide (i < j))) M := by
  simp only [wp_eq, wpS_eq] at *
  first | exact D.w_ltI | (apply D.w_ltI <;> assumption)
@[simp ↓] theorem w_leI {i j : Int} : wp (fLe (.int i) (.int j) M) Q E = Q (.bl (decide (i ≤ j))) M := by
  simp only [wp_eq, wpS_eq] at *
  first | exact D.w_leI | (apply D.w_leI <;> assumption)
@[simp ↓] theorem w_gtI {i j : Int} : wp (fGt (.int i) (.int j) M) Q E = Q (.bl (decide (j < i))) M := by
  simp only [wp_eq, wpS_eq] at *
  first | exact D.w_gtI | (apply D.w_gtI <;> assumption)
@[simp ↓] theorem w_geI {i j : Int} : wp (fGe (.int i) (.int j) M) Q E = Q (.bl (decide (j ≤ i))) M := by
  simp only [wp_eq, wpS_eq] at *
  first | exact D.w_geI | (apply D.w_geI <;> assumption)
@[simp ↓] theorem w_ltS {i j : Tx} : wp (fLt (.str i) (.str j) M) Q E = Q (.bl (decide (i < j))) M := by
  simp only [wp_eq, wpS_eq] at *
  first | exact D.w_ltS | (apply D.w_ltS <;> assumption)
@[simp ↓] theorem w_gtS {i j : Tx} : wp (fGt (.str i) (.str j) M) Q E = Q (.bl (decide (j < i))) M := by
  simp only [wp_eq, wpS_eq] at *
  first | exact D.w_gtS | (apply D.w_gtS <;> assumption)
@[simp ↓] theorem w_eqI {i j : Int} {g : Bool → Bool} : wp (fEqG g (.int i) (.int j) M) Q E = Q (.bl (g (decide (i = j)))) M := by
  simp only [wp_eq, wpS_eq] at *
  first | exact D.w_eqI | (apply D.w_eqI <;> assumption)
@[simp ↓] theorem w_eqS {i j : Tx} {g : Bool → Bool} : wp (fEqG g (.str i) (.str j) M) Q E = Q (.bl (g (decide (i = j)))) M := by
  simp only [wp_eq, wpS_eq] at *
  first | exact D.w_eqS | (apply D.w_eqS <;> assumption)
@[simp ↓] theorem w_eqB {i j : Bool} {g : Bool → Bool} : wp (fEqG g (.bl i) (.bl j) M) Q E = Q (.bl (g (decide (i = j)))) M := by
  simp only [wp_eq, wpS_eq] at *
  first | exact D.w_eqB | (apply D.w_eqB <;> assumption)
@[simp ↓] theorem w_eqIS {i : Int} {j : Tx} {g : Bool → Bool} : wp (fEqG g (.int i) (.str j) M) Q E = Q (.bl (g false)) M := by
  simp only [wp_eq, wpS_eq] at *
  first | exact D.w_eqIS | (apply D.w_eqIS <;> assumption)
@[simp ↓] theorem w_eqSI {i : Int} {j : Tx} {g : Bool → Bool} : wp (fEqG g (.str j) (.int i) M) Q E = Q (.bl (g false)) M := by
  simp only [wp_eq, wpS_eq] at *
  first | exact D.w_eqSI | (apply D.w_eqSI <;> assumption)
theorem w_eq {x y : MV} {g : Bool → Bool} {b : Bool} (h : eqM M x y = some b) : wp (fEqG g x y M) Q E = Q (.bl (g b)) M := by
  simp only [wp_eq, wpS_eq] at *
  first | exact D.w_eq | (apply D.w_eq <;> assumption)
@[simp ↓] theorem w_inS {c : Nat} {t : Tx} {g : Bool → Bool} : wp (fInG g (.str [c]) (.str t) M) Q E = Q (.bl (g (decide (c ∈ t)))) M := by
  simp only [wp_eq, wpS_eq] at *
  first | exact D.w_inS | (apply D.w_inS <;> assumption)
@[simp ↓] theorem w_ixT {l : List MV} {i : Int} : wp (fIx (.tup l) (.int i) M) Q E = rdI l i (fun d => Q d M) := by
  simp only [wp_eq, wpS_eq] at *
  first | exact D.w_ixT | (apply D.w_ixT <;> assumption)
@[simp ↓] theorem w_ixR {l : List MV} {i : Int} : wp (fIx (.rol l) (.int i) M) Q E = rdI l i (fun d => Q d M) := by
  simp only [wp_eq, wpS_eq] at *
  first | exact D.w_ixR | (apply D.w_ixR <;> assumption)
@[simp ↓] theorem w_ixS {s : Tx} {i : Int} : wp (fIx (.str s) (.int i) M) Q E = ((s.length ≤ SL) ∧ (rdI s i (fun c => Q (.str [c]) M))) := by
  simp only [wp_eq, wpS_eq, ifB_eq] at *
  first | exact D.w_ixS | exact (D.w_ixS).trans (by simp only [ite_and]) | (rw [D.w_ixS]; simp only [ite_and]; done) | (apply D.w_ixS <;> assumption)
@[simp ↓] theorem w_ixL {k : Nat} {i : Int} : wp (fIx (.ref k) (.int i) M) Q E = rdL M k (fun l => rdI l i (fun d => Q d M)) := by
  simp only [wp_eq, wpS_eq] at *
  first | exact D.w_ixL | (apply D.w_ixL <;> assumption)
@[simp ↓] theorem w_sl {f : MV → Option Int → Option Int → Hm → R MV} {lo hi : Fo} : wp (eSl f a lo hi env M) Q E = wp (a env M) (fun x M1 => wp (lo env M1) (fun l M2 => wp (hi env M2) (fun u M3 => wp (f x l u M3) Q E) E) E) E := by
  simp only [wp_eq, wpS_eq] at *
  first | exact D.w_sl | (apply D.w_sl <;> assumption)
@[simp ↓] theorem w_oN {Qo : Option Int → Hm → Prop} : wp (oNone env M) Qo E = Qo none M := by
  simp only [wp_eq, wpS_eq] at *
  first | exact D.w_oN | (apply D.w_oN <;> assumption)
@[simp ↓] theorem w_oS {Qo : Option Int → Hm → Prop} : wp (oSome a env M) Qo E = wp (a env M) (fun x M1 => match x with | .int i => Qo (some i) M1 | _ => False) E := by
  simp only [wp_eq, wpS_eq] at *
  first | exact D.w_oS | (apply D.w_oS <;> assumption)
@[simp ↓] theorem w_slT {l : List MV} {lo hi : Option Int} : wp (fSl (.tup l) lo hi M) Q E = Q (.tup (cut l lo hi)) M := by
  simp only [wp_eq, wpS_eq] at *
  first | exact D.w_slT | (apply D.w_slT <;> assumption)
@[simp ↓] theorem w_slS {s : Tx} {lo hi : Option Int} : wp (fSl (.str s) lo hi M) Q E = ((s.length ≤ SL) ∧ (Q (.str (cut s lo hi)) M)) := by
  simp only [wp_eq, wpS_eq, ifB_eq] at *
  first | exact D.w_slS | exact (D.w_slS).trans (by simp only [ite_and]) | (rw [D.w_slS]; simp only [ite_and]; done) | (apply D.w_slS <;> assumption)
@[simp ↓] theorem w_lenS {s : Tx} : wp (fLen [.str s] M) Q E = ((s.length ≤ SL) ∧ (Q (.int s.length) M)) := by
  simp only [wp_eq, wpS_eq, ifB_eq] at *
  first | exact D.w_lenS | exact (D.w_lenS).trans (by simp only [ite_and]) | (rw [D.w_lenS]; simp only [ite_and]; done) | (apply D.w_lenS <;> assumption)
@[simp ↓] theorem w_lenT {s : List MV} : wp (fLen [.tup s] M) Q E = Q (.int s.length) M := by
  simp only [wp_eq, wpS_eq] at *
  first | exact D.w_lenT | (apply D.w_lenT <;> assumption)
@[simp ↓] theorem w_lenR {s : List MV} : wp (fLen [.rol s] M) Q E = Q (.int s.length) M := by
  simp only [wp_eq, wpS_eq] at *
  first | exact D.w_lenR | (apply D.w_lenR <;> assumption)
@[simp ↓] theorem w_lenL {k : Nat} : wp (fLen [.ref k] M) Q E = rdL M k (fun l => Q (.int l.length) M) := by
  simp only [wp_eq, wpS_eq] at *
  first | exact D.w_lenL | (apply D.w_lenL <;> assumption)
@[simp ↓] theorem w_str {i : Int} : wp (fStr [.int i] M) Q E = ((i.natAbs.log2 < 1920) ∧ (Q (.str (numT i)) M)) := by
  simp only [wp_eq, wpS_eq, ifB_eq] at *
  first | exact D.w_str | exact (D.w_str).trans (by simp only [ite_and]) | (rw [D.w_str]; simp only [ite_and]; done) | (apply D.w_str <;> assumption)
@[simp ↓] theorem w_intI {i : Int} : wp (fIntOf [.int i] M) Q E = Q (.int i) M := by
  simp only [wp_eq, wpS_eq] at *
  first | exact D.w_intI | (apply D.w_intI <;> assumption)
theorem w_intB {b : Bool} : wp (fIntOf [.bl b] M) Q E = Q (.int (match b with | true => 1 | false => 0)) M := by
  simp only [wp_eq, wpS_eq] at *
  first | exact D.w_intB | (apply D.w_intB <;> assumption)
@[simp ↓] theorem w_intBt : wp (fIntOf [.bl true] M) Q E = Q (.int 1) M := by
  simp only [wp_eq, wpS_eq] at *
  first | exact D.w_intBt | (apply D.w_intBt <;> assumption)
@[simp ↓] theorem w_intBf : wp (fIntOf [.bl false] M) Q E = Q (.int 0) M := by
  simp only [wp_eq, wpS_eq] at *
  first | exact D.w_intBf | (apply D.w_intBf <;> assumption)
@[simp ↓] theorem w_intS {s : Tx} : wp (fIntOf [.str s] M) Q E = ((allDig s && !s.isEmpty && decide (s.length ≤ 640)) ∧ (Q (.int (PySem.NumText.digitsVal s : Nat)) M)) := by
  simp only [wp_eq, wpS_eq, ifB_eq] at *
  first | exact D.w_intS | exact (D.w_intS).trans (by simp only [ite_and]) | (rw [D.w_intS]; simp only [ite_and]; done) | (apply D.w_intS <;> assumption)
@[simp ↓] theorem w_abs {i : Int} : wp (fAbs [.int i] M) Q E = Q (.int (i.natAbs : Int)) M := by
  simp only [wp_eq, wpS_eq] at *
  first | exact D.w_abs | (apply D.w_abs <;> assumption)
@[simp ↓] theorem w_ord {c : Nat} : wp (fOrd [.str [c]] M) Q E = Q (.int c) M := by
  simp only [wp_eq, wpS_eq] at *
  first | exact D.w_ord | (apply D.w_ord <;> assumption)
@[simp ↓] theorem w_tupT {l : List MV} : wp (fTuple [.tup l] M) Q E = Q (.tup l) M := by
  simp only [wp_eq, wpS_eq] at *
  first | exact D.w_tupT | (apply D.w_tupT <;> assumption)
@[simp ↓] theorem w_tupR {l : List MV} : wp (fTuple [.rol l] M) Q E = Q (.tup l) M := by
  simp only [wp_eq, wpS_eq] at *
  first | exact D.w_tupR | (apply D.w_tupR <;> assumption)
@[simp ↓] theorem w_tupL {k : Nat} : wp (fTuple [.ref k] M) Q E = rdL M k (fun l => Q (.tup l) M) := by
  simp only [wp_eq, wpS_eq] at *
  first | exact D.w_tupL | (apply D.w_tupL <;> assumption)
@[simp ↓] theorem w_listT {l : List MV} : wp (fList [.tup l] M) Q E = Q (.ref M.length) (M ++ [.lst l]) := by
  simp only [wp_eq, wpS_eq] at *
  first | exact D.w_listT | (apply D.w_listT <;> assumption)
@[simp ↓] theorem w_listR {l : List MV} : wp (fList [.rol l] M) Q E = Q (.ref M.length) (M ++ [.lst l]) := by
  simp only [wp_eq, wpS_eq] at *
  first | exact D.w_listR | (apply D.w_listR <;> assumption)
@[simp ↓] theorem w_listL {k : Nat} : wp (fList [.ref k] M) Q E = rdL M k (fun l => Q (.ref M.length) (M ++ [.lst l])) := by
  simp only [wp_eq, wpS_eq] at *
  first | exact D.w_listL | (apply D.w_listL <;> assumption)
@[simp ↓] theorem w_divmod {i j : Int} : wp (fDivmod [.int i, .int j] M) Q E = ((cDiv i j) ∧ (Q (.tup [.int (i / j), .int (i % j)]) M)) := by
  simp only [wp_eq, wpS_eq, ifB_eq] at *
  first | exact D.w_divmod | exact (D.w_divmod).trans (by simp only [ite_and]) | (rw [D.w_divmod]; simp only [ite_and]; done) | (apply D.w_divmod <;> assumption)
@[simp ↓] theorem w_append {k : Nat} {d : MV} : wp (fAppend (.ref k) [d] M) Q E = rdL M k (fun l => ((l.length < SL) ∧ (Q .non (M.set k (.lst (l ++ [d])))))) := by
  simp only [wp_eq, wpS_eq, ifB_eq] at *
  first | exact D.w_append | exact (D.w_append).trans (by simp only [ite_and]) | (rw [D.w_append]; simp only [ite_and]; done) | (apply D.w_append <;> assumption)
@[simp ↓] theorem w_pop {k : Nat} : wp (fPop (.ref k) [] M) Q E = rdL M k (fun l => rdO l[l.length - 1]? fun d => Q d (M.set k (.lst l.dropLast))) := by
  simp only [wp_eq, wpS_eq] at *
  first | exact D.w_pop | (apply D.w_pop <;> assumption)
@[simp ↓] theorem w_join {k : Nat} {sep : Tx} : wp (fJoin (.str sep) [.ref k] M) Q E = rdL M k (fun l => rdO (textsOf l) fun ss => (((ss.map (·.length)).sum + ss.length * sep.length ≤ SL) ∧ (Q (.str (joinT sep ss)) M))) := by
  simp only [wp_eq, wpS_eq, ifB_eq] at *
  first | exact D.w_join | exact (D.w_join).trans (by simp only [ite_and]) | (rw [D.w_join]; simp only [ite_and]; done) | (apply D.w_join <;> assumption)
@[simp ↓] theorem w_rev {k : Nat} : wp (fRev (.ref k) M) Q E = rdL M k (fun l => Q (.ref M.length) (M ++ [.lst l.reverse])) := by
  simp only [wp_eq, wpS_eq] at *
  first | exact D.w_rev | (apply D.w_rev <;> assumption)
@[simp ↓] theorem w_revAT {l : List MV} : wp (fRevA (.tup l) M) Q E = Q (.tup l.reverse) M := by
  simp only [wp_eq, wpS_eq] at *
  first | exact D.w_revAT | (apply D.w_revAT <;> assumption)
@[simp ↓] theorem w_revAL {k : Nat} : wp (fRevA (.ref k) M) Q E = rdL M k (fun l => Q (.ref M.length) (M ++ [.lst l.reverse])) := by
  simp only [wp_eq, wpS_eq] at *
  first | exact D.w_revAL | (apply D.w_revAL <;> assumption)
@[simp ↓] theorem w_slL {k : Nat} {lo hi : Option Int} : wp (fSl (.ref k) lo hi M) Q E = rdL M k (fun l => Q (.ref M.length) (M ++ [.lst (cut l lo hi)])) := by
  simp only [wp_eq, wpS_eq] at *
  first | exact D.w_slL | (apply D.w_slL <;> assumption)
@[simp ↓] theorem w_listAS {s : Tx} : wp (fListA [.str s] M) Q E = ((s.length ≤ SL) ∧ (Q (.ref M.length) (M ++ [.lst (s.map fun c => .str [c])]))) := by
  simp only [wp_eq, wpS_eq, ifB_eq] at *
  first | exact D.w_listAS | exact (D.w_listAS).trans (by simp only [ite_and]) | (rw [D.w_listAS]; simp only [ite_and]; done) | (apply D.w_listAS <;> assumption)
@[simp ↓] theorem w_listAT {l : List MV} : wp (fListA [.tup l] M) Q E = Q (.ref M.length) (M ++ [.lst l]) := by
  simp only [wp_eq, wpS_eq] at *
  first | exact D.w_listAT | (apply D.w_listAT <;> assumption)
@[simp ↓] theorem w_listAR {l : List MV} : wp (fListA [.rol l] M) Q E = Q (.ref M.length) (M ++ [.lst l]) := by
  simp only [wp_eq, wpS_eq] at *
  first | exact D.w_listAR | (apply D.w_listAR <;> assumption)
@[simp ↓] theorem w_listAL {k : Nat} : wp (fListA [.ref k] M) Q E = rdL M k (fun l => Q (.ref M.length) (M ++ [.lst l])) := by
  simp only [wp_eq, wpS_eq] at *
  first | exact D.w_listAL | (apply D.w_listAL <;> assumption)
@[simp ↓] theorem w_find3 {x y : Tx} {i : Int} : wp (fFind3 (.str x) [.str y, .int i] M) Q E = Q (.int (PySem.Txt.find3 (T x) (T y) i)) M := by
  simp only [wp_eq, wpS_eq] at *
  first | exact D.w_find3 | (apply D.w_find3 <;> assumption)
@[simp ↓] theorem w_zfill {x : Tx} {i : Int} : wp (fZfill (.str x) [.int i] M) Q E = ((PySem.PadOk i && noSign x) ∧ (Q (.str (List.replicate (i.toNat - x.length) 48 ++ x)) M)) := by
  simp only [wp_eq, wpS_eq, ifB_eq] at *
  first | exact D.w_zfill | exact (D.w_zfill).trans (by simp only [ite_and]) | (rw [D.w_zfill]; simp only [ite_and]; done) | (apply D.w_zfill <;> assumption)
@[simp ↓] theorem w_all {k : Nat} {g : List Bool → Bool} : wp (fAllG g [.ref k] M) Q E = rdL M k (fun l => rdO (boolsOf l) fun bs => Q (.bl (g bs)) M) := by
  simp only [wp_eq, wpS_eq] at *
  first | exact D.w_all | (apply D.w_all <;> assumption)
@[simp ↓] theorem w_gcR {r : R MV} : wp (gcR M r) Q E = wp r (fun d M' => gcQ M M' d Q) (fun x M' => gcE M M' x E) := by
  simp only [wp_eq, wpS_eq] at *
  first | exact D.w_gcR | (apply D.w_gcR <;> assumption)
@[simp ↓] theorem w_gc {e : Fe} : wp (eGc e env M) Q E = wp (e env M) (fun d M' => gcQ M M' d Q) (fun x M' => gcE M M' x E) := by
  simp only [wp_eq, wpS_eq] at *
  first | exact D.w_gc | (apply D.w_gc <;> assumption)
@[simp ↓] theorem w_dic0 : wp (eDic0 env M) Q E = Q (.ref M.length) (M ++ [.dic []]) := by
  simp only [wp_eq, wpS_eq] at *
  first | exact D.w_dic0 | (apply D.w_dic0 <;> assumption)
@[simp ↓] theorem w_dic {ps : List (Fe × Fe)} : wp (eDic ps env M) Q E = wp (pPairs ps env M) (fun l M1 => Q (.ref M1.length) (M1 ++ [.dic (putAll [] l)])) (fun _ _ => False) := by
  simp only [wp_eq, wpS_eq] at *
  first | exact D.w_dic | (apply D.w_dic <;> assumption)
@[simp ↓] theorem w_pNil {Qp : List (MV × MV) → Hm → Prop} : wp (pPairs [] env M) Qp E = Qp [] M := by
  simp only [wp_eq, wpS_eq] at *
  first | exact D.w_pNil | (apply D.w_pNil <;> assumption)
@[simp ↓] theorem w_pCons {Qp : List (MV × MV) → Hm → Prop} {k v : Fe} {r : List (Fe × Fe)} : wp (pPairs ((k, v) :: r) env M) Qp E = wp (k env M) (fun x M1 => wp (v env M1) (fun y M2 => wp (pPairs r env M2) (fun l M3 => ((isKey x) ∧ (Qp ((x, y) :: l) M3))) E) E) E := by
  simp only [wp_eq, wpS_eq, ifB_eq] at *
  first | exact D.w_pCons | exact (D.w_pCons).trans (by simp only [ite_and]) | (rw [D.w_pCons]; simp only [ite_and]; done) | (apply D.w_pCons <;> assumption)
@[simp ↓] theorem w_kd {l : List (Tx × MV)} : wp (eKd l a env M) Q E = wp (a env M) (fun x M1 => match x with | .str s => rdO (l.lookup s) fun d => Q d M1 | _ => False) E := by
  simp only [wp_eq, wpS_eq] at *
  first | exact D.w_kd | (apply D.w_kd <;> assumption)
@[simp ↓] theorem w_ixAT {l : List MV} {i : Int} : wp (fIxA (.tup l) (.int i) M) Q E = rdI l i (fun d => Q d M) := by
  simp only [wp_eq, wpS_eq] at *
  first | exact D.w_ixAT | (apply D.w_ixAT <;> assumption)
@[simp ↓] theorem w_ixAR {l : List MV} {i : Int} : wp (fIxA (.rol l) (.int i) M) Q E = rdI l i (fun d => Q d M) := by
  simp only [wp_eq, wpS_eq] at *
  first | exact D.w_ixAR | (apply D.w_ixAR <;> assumption)
@[simp ↓] theorem w_ixAS {s : Tx} {i : Int} : wp (fIxA (.str s) (.int i) M) Q E = ((s.length ≤ SL) ∧ (rdI s i (fun c => Q (.str [c]) M))) := by
  simp only [wp_eq, wpS_eq, ifB_eq] at *
  first | exact D.w_ixAS | exact (D.w_ixAS).trans (by simp only [ite_and]) | (rw [D.w_ixAS]; simp only [ite_and]; done) | (apply D.w_ixAS <;> assumption)
@[simp ↓] theorem w_ixAL {k : Nat} {i : Int} : wp (fIxA (.ref k) (.int i) M) Q E = rdLD M k (fun l => rdI l i (fun d => Q d M)) (fun l => rdO (getD l (.int i)) fun d => Q d M) := by
  simp only [wp_eq, wpS_eq] at *
  first | exact D.w_ixAL | (apply D.w_ixAL <;> assumption)
@[simp ↓] theorem w_ixAD {k : Nat} {s : Tx} : wp (fIxA (.ref k) (.str s) M) Q E = rdD M k (fun l => rdO (getD l (.str s)) fun d => Q d M) := by
  simp only [wp_eq, wpS_eq] at *
  first | exact D.w_ixAD | (apply D.w_ixAD <;> assumption)
@[simp ↓] theorem w_inT {x : MV} {l : List MV} {g : Bool → Bool} : wp (fInG g x (.tup l) M) Q E = ((flatM x && l.all flatM) = true ∧ Q (.bl (g (l.any fun y => eqF y x))) M) := by
  simp only [wp_eq, wpS_eq] at *
  first | exact D.w_inT | (apply D.w_inT <;> assumption)
@[simp ↓] theorem w_inAT {x : MV} {l : List MV} {g : Bool → Bool} : wp (fInGA g x (.tup l) M) Q E = ((flatM x && l.all flatM) = true ∧ Q (.bl (g (l.any fun y => eqF y x))) M) := by
  simp only [wp_eq, wpS_eq] at *
  first | exact D.w_inAT | (apply D.w_inAT <;> assumption)
@[simp ↓] theorem w_inL {x : MV} {k : Nat} {g : Bool → Bool} : wp (fInG g x (.ref k) M) Q E = rdL M k (fun l => (flatM x && l.all flatM) = true ∧ Q (.bl (g (l.any fun y => eqF y x))) M) := by
  simp only [wp_eq, wpS_eq] at *
  first | exact D.w_inL | (apply D.w_inL <;> assumption)
@[simp ↓] theorem w_inALD {x : MV} {k : Nat} {g : Bool → Bool} : wp (fInGA g x (.ref k) M) Q E = rdLD M k (fun l => (flatM x && l.all flatM) = true ∧ Q (.bl (g (l.any fun y => eqF y x))) M) (fun l => isKey x = true ∧ Q (.bl (g (getD l x).isSome)) M) := by
  simp only [wp_eq, wpS_eq] at *
  first | exact D.w_inALD | (apply D.w_inALD <;> assumption)
theorem w_inF {x y : MV} {g : Bool → Bool} {b : Bool} (h : inM M x y = some b) : wp (fInG g x y M) Q E = Q (.bl (g b)) M := by
  simp only [wp_eq, wpS_eq] at *
  first | exact D.w_inF | (apply D.w_inF <;> assumption)
theorem w_inAF {x : MV} {l : List MV} {g : Bool → Bool} {b : Bool} (h : inM M x (.tup l) = some b) : wp (fInGA g x (.tup l) M) Q E = Q (.bl (g b)) M := by
  simp only [wp_eq, wpS_eq] at *
  first | exact D.w_inAF | (apply D.w_inAF <;> assumption)
@[simp ↓] theorem w_inAS {c : Nat} {t : Tx} {g : Bool → Bool} : wp (fInGA g (.str [c]) (.str t) M) Q E = Q (.bl (g (decide (c ∈ t)))) M := by
  simp only [wp_eq, wpS_eq] at *
  first | exact D.w_inAS | (apply D.w_inAS <;> assumption)
theorem w_inAD {k : Nat} {x : MV} {l : List (MV × MV)} {g : Bool → Bool} (h : M[k]? = some (.dic l)) (hk : isKey x = true) : wp (fInGA g x (.ref k) M) Q E = Q (.bl (g (getD l x).isSome)) M := by
  simp only [wp_eq, wpS_eq] at *
  first | exact D.w_inAD | (apply D.w_inAD <;> assumption)
theorem w_inAL {k : Nat} {x : MV} {l : List MV} {g : Bool → Bool} {b : Bool} (h : M[k]? = some (.lst l)) (hb : inM M x (.ref k) = some b) : wp (fInGA g x (.ref k) M) Q E = Q (.bl (g b)) M := by
  simp only [wp_eq, wpS_eq] at *
  first | exact D.w_inAL | (apply D.w_inAL <;> assumption)
@[simp ↓] theorem w_isB {i j : Bool} {g : Bool → Bool} : wp (fIsG g (.bl i) (.bl j) M) Q E = Q (.bl (g (decide (i = j)))) M := by
  simp only [wp_eq, wpS_eq] at *
  first | exact D.w_isB | (apply D.w_isB <;> assumption)
@[simp ↓] theorem w_isNN {g : Bool → Bool} : wp (fIsG g .non .non M) Q E = Q (.bl (g true)) M := by
  simp only [wp_eq, wpS_eq] at *
  first | exact D.w_isNN | (apply D.w_isNN <;> assumption)
@[simp ↓] theorem w_isBN {i : Bool} {g : Bool → Bool} : wp (fIsG g (.bl i) .non M) Q E = Q (.bl (g false)) M := by
  simp only [wp_eq, wpS_eq] at *
  first | exact D.w_isBN | (apply D.w_isBN <;> assumption)
@[simp ↓] theorem w_isIN {i : Int} {g : Bool → Bool} : wp (fIsG g (.int i) .non M) Q E = Q (.bl (g false)) M := by
  simp only [wp_eq, wpS_eq] at *
  first | exact D.w_isIN | (apply D.w_isIN <;> assumption)
@[simp ↓] theorem w_isSN {s : Tx} {g : Bool → Bool} : wp (fIsG g (.str s) .non M) Q E = Q (.bl (g false)) M := by
  simp only [wp_eq, wpS_eq] at *
  first | exact D.w_isSN | (apply D.w_isSN <;> assumption)
@[simp ↓] theorem w_isTN {l : List MV} {g : Bool → Bool} : wp (fIsG g (.tup l) .non M) Q E = Q (.bl (g false)) M := by
  simp only [wp_eq, wpS_eq] at *
  first | exact D.w_isTN | (apply D.w_isTN <;> assumption)
@[simp ↓] theorem w_isRN {k : Nat} {g : Bool → Bool} : wp (fIsG g (.ref k) .non M) Q E = Q (.bl (g false)) M := by
  simp only [wp_eq, wpS_eq] at *
  first | exact D.w_isRN | (apply D.w_isRN <;> assumption)
@[simp ↓] theorem w_chain {f g : MV → MV → Hm → R MV} {cc : Fe} : wp (eChain f g a b cc env M) Q E = wp (a env M) (fun x M1 => wp (b env M1) (fun y M2 => wp (f x y M2) (fun z M3 => match z with | .bl k => ifB (k) (wp (cc env M3) (fun w M4 => wp (g y w M4) Q E) E) (Q (.bl false) M3) | _ => False) E) E) E := by
  simp only [wp_eq, wpS_eq, ifB_eq] at *
  first | exact D.w_chain | exact (D.w_chain).trans (by simp only [ite_and]) | (rw [D.w_chain]; simp only [ite_and]; done) | (apply D.w_chain <;> assumption)
@[simp ↓] theorem w_extT {k : Nat} {t : List MV} : wp (fExtend (.ref k) [.tup t] M) Q E = rdL M k (fun s => ((s.length + t.length ≤ SL) ∧ (Q .non (M.set k (.lst (s ++ t)))))) := by
  simp only [wp_eq, wpS_eq, ifB_eq] at *
  first | exact D.w_extT | exact (D.w_extT).trans (by simp only [ite_and]) | (rw [D.w_extT]; simp only [ite_and]; done) | (apply D.w_extT <;> assumption)
@[simp ↓] theorem w_extL {k j : Nat} : wp (fExtend (.ref k) [.ref j] M) Q E = rdL M k (fun s => rdL M j (fun t => ((s.length + t.length ≤ SL) ∧ (Q .non (M.set k (.lst (s ++ t))))))) := by
  simp only [wp_eq, wpS_eq, ifB_eq] at *
  first | exact D.w_extL | exact (D.w_extL).trans (by simp only [ite_and]) | (rw [D.w_extL]; simp only [ite_and]; done) | (apply D.w_extL <;> assumption)
@[simp ↓] theorem w_insert {k : Nat} {i : Int} {y : MV} : wp (fInsert (.ref k) [.int i, y] M) Q E = rdL M k (fun s => ((decide (s.length < SL) && decide (0 ≤ i) && decide (i.natAbs < 1073741824)) ∧ (Q .non (M.set k (.lst (s.take i.toNat ++ [y] ++ s.drop i.toNat)))))) := by
  simp only [wp_eq, wpS_eq, ifB_eq] at *
  first | exact D.w_insert | exact (D.w_insert).trans (by simp only [ite_and]) | (rw [D.w_insert]; simp only [ite_and]; done) | (apply D.w_insert <;> assumption)
@[simp ↓] theorem w_dict {k : Nat} : wp (fDict [.ref k] M) Q E = rdD M k (fun l => Q (.ref M.length) (M ++ [.dic l])) := by
  simp only [wp_eq, wpS_eq] at *
  first | exact D.w_dict | (apply D.w_dict <;> assumption)
@[simp ↓] theorem w_sorted {k : Nat} : wp (fSorted [.ref k] M) Q E = rdLD M k (fun l => rdO (textsOf l) fun ts => ((ts.length < 64) ∧ (Q (.ref M.length) (M ++ [.lst ((sortT ts).map MV.str)]))))
    (fun l => rdO (keysOf l) fun ts => ((ts.length < 64) ∧ (Q (.ref M.length) (M ++ [.lst ((sortT ts).map MV.str)])))) := by
  simp only [wp_eq, wpS_eq, ifB_eq] at *
  first | exact D.w_sorted | exact (D.w_sorted).trans (by simp only [ite_and]) | (rw [D.w_sorted]; simp only [ite_and]; done) | (apply D.w_sorted <;> assumption)
@[simp ↓] theorem w_get2 {cc : Fe} : wp (eGet2 a b cc env M) Q E = wp (a env M) (fun x M1 => match x with
  | .ref k => rdD M1 k fun _ => wp (b env M1) (fun y M2 => wp (cc env M2) (fun z M3 => rdD M3 k (fun l => ((isKey y) ∧ (Q ((getD l y).getD z) M3)))) E) E
  | _ => False) E := by
  simp only [wp_eq, wpS_eq, ifB_eq] at *
  first | exact D.w_get2 | exact (D.w_get2).trans (by simp only [ite_and]) | (rw [D.w_get2]; simp only [ite_and]; done) | (apply D.w_get2 <;> assumption)
theorem w_isi {x : MV} {c t : String} {k : Bool} (ht : tyN M x = some t) (hk : L2.kitB t c = some k) : wp (fIsi c [x] M) Q E = Q (.bl k) M := by
  simp only [wp_eq, wpS_eq] at *
  first | exact D.w_isi | (apply D.w_isi <;> assumption)
@[simp ↓] theorem w_isi_NoneType_tuple : wp (fIsi "tuple" [.non] M) Q E = Q (.bl false) M := by
  simp only [wp_eq, wpS_eq] at *
  first | exact D.w_isi_NoneType_tuple | (apply D.w_isi_NoneType_tuple <;> assumption)
@[simp ↓] theorem w_isi_NoneType_str : wp (fIsi "str" [.non] M) Q E = Q (.bl false) M := by
  simp only [wp_eq, wpS_eq] at *
  first | exact D.w_isi_NoneType_str | (apply D.w_isi_NoneType_str <;> assumption)
@[simp ↓] theorem w_isi_NoneType_int : wp (fIsi "int" [.non] M) Q E = Q (.bl false) M := by
  simp only [wp_eq, wpS_eq] at *
  first | exact D.w_isi_NoneType_int | (apply D.w_isi_NoneType_int <;> assumption)
@[simp ↓] theorem w_isi_NoneType_bool : wp (fIsi "bool" [.non] M) Q E = Q (.bl false) M := by
  simp only [wp_eq, wpS_eq] at *
  first | exact D.w_isi_NoneType_bool | (apply D.w_isi_NoneType_bool <;> assumption)
@[simp ↓] theorem w_isi_NoneType_list : wp (fIsi "list" [.non] M) Q E = Q (.bl false) M := by
  simp only [wp_eq, wpS_eq] at *
  first | exact D.w_isi_NoneType_list | (apply D.w_isi_NoneType_list <;> assumption)
@[simp ↓] theorem w_isi_NoneType_dict : wp (fIsi "dict" [.non] M) Q E = Q (.bl false) M := by
  simp only [wp_eq, wpS_eq] at *
  first | exact D.w_isi_NoneType_dict | (apply D.w_isi_NoneType_dict <;> assumption)
@[simp ↓] theorem w_isi_bool_tuple {b : Bool} : wp (fIsi "tuple" [(.bl b)] M) Q E = Q (.bl false) M := by
  simp only [wp_eq, wpS_eq] at *
  first | exact D.w_isi_bool_tuple | (apply D.w_isi_bool_tuple <;> assumption)
@[simp ↓] theorem w_isi_bool_str {b : Bool} : wp (fIsi "str" [(.bl b)] M) Q E = Q (.bl false) M := by
  simp only [wp_eq, wpS_eq] at *
  first | exact D.w_isi_bool_str | (apply D.w_isi_bool_str <;> assumption)
@[simp ↓] theorem w_isi_bool_int {b : Bool} : wp (fIsi "int" [(.bl b)] M) Q E = Q (.bl true) M := by
  simp only [wp_eq, wpS_eq] at *
  first | exact D.w_isi_bool_int | (apply D.w_isi_bool_int <;> assumption)
@[simp ↓] theorem w_isi_bool_bool {b : Bool} : wp (fIsi "bool" [(.bl b)] M) Q E = Q (.bl true) M := by
  simp only [wp_eq, wpS_eq] at *
  first | exact D.w_isi_bool_bool | (apply D.w_isi_bool_bool <;> assumption)
@[simp ↓] theorem w_isi_bool_list {b : Bool} : wp (fIsi "list" [(.bl b)] M) Q E = Q (.bl false) M := by
  simp only [wp_eq, wpS_eq] at *
  first | exact D.w_isi_bool_list | (apply D.w_isi_bool_list <;> assumption)
@[simp ↓] theorem w_isi_bool_dict {b : Bool} : wp (fIsi "dict" [(.bl b)] M) Q E = Q (.bl false) M := by
  simp only [wp_eq, wpS_eq] at *
  first | exact D.w_isi_bool_dict | (apply D.w_isi_bool_dict <;> assumption)
@[simp ↓] theorem w_isi_int_tuple {i : Int} : wp (fIsi "tuple" [(.int i)] M) Q E = Q (.bl false) M := by
  simp only [wp_eq, wpS_eq] at *
  first | exact D.w_isi_int_tuple | (apply D.w_isi_int_tuple <;> assumption)
@[simp ↓] theorem w_isi_int_str {i : Int} : wp (fIsi "str" [(.int i)] M) Q E = Q (.bl false) M := by
  simp only [wp_eq, wpS_eq] at *
  first | exact D.w_isi_int_str | (apply D.w_isi_int_str <;> assumption)
@[simp ↓] theorem w_isi_int_int {i : Int} : wp (fIsi "int" [(.int i)] M) Q E = Q (.bl true) M := by
  simp only [wp_eq, wpS_eq] at *
  first | exact D.w_isi_int_int | (apply D.w_isi_int_int <;> assumption)
@[simp ↓] theorem w_isi_int_bool {i : Int} : wp (fIsi "bool" [(.int i)] M) Q E = Q (.bl false) M := by
  simp only [wp_eq, wpS_eq] at *
  first | exact D.w_isi_int_bool | (apply D.w_isi_int_bool <;> assumption)
@[simp ↓] theorem w_isi_int_list {i : Int} : wp (fIsi "list" [(.int i)] M) Q E = Q (.bl false) M := by
  simp only [wp_eq, wpS_eq] at *
  first | exact D.w_isi_int_list | (apply D.w_isi_int_list <;> assumption)
@[simp ↓] theorem w_isi_int_dict {i : Int} : wp (fIsi "dict" [(.int i)] M) Q E = Q (.bl false) M := by
  simp only [wp_eq, wpS_eq] at *
  first | exact D.w_isi_int_dict | (apply D.w_isi_int_dict <;> assumption)
@[simp ↓] theorem w_isi_str_tuple {s : Tx} : wp (fIsi "tuple" [(.str s)] M) Q E = Q (.bl false) M := by
  simp only [wp_eq, wpS_eq] at *
  first | exact D.w_isi_str_tuple | (apply D.w_isi_str_tuple <;> assumption)
@[simp ↓] theorem w_isi_str_str {s : Tx} : wp (fIsi "str" [(.str s)] M) Q E = Q (.bl true) M := by
  simp only [wp_eq, wpS_eq] at *
  first | exact D.w_isi_str_str | (apply D.w_isi_str_str <;> assumption)
@[simp ↓] theorem w_isi_str_int {s : Tx} : wp (fIsi "int" [(.str s)] M) Q E = Q (.bl false) M := by
  simp only [wp_eq, wpS_eq] at *
  first | exact D.w_isi_str_int | (apply D.w_isi_str_int <;> assumption)
@[simp ↓] theorem w_isi_str_bool {s : Tx} : wp (fIsi "bool" [(.str s)] M) Q E = Q (.bl false) M := by
  simp only [wp_eq, wpS_eq] at *
  first | exact D.w_isi_str_bool | (apply D.w_isi_str_bool <;> assumption)
@[simp ↓] theorem w_isi_str_list {s : Tx} : wp (fIsi "list" [(.str s)] M) Q E = Q (.bl false) M := by
  simp only [wp_eq, wpS_eq] at *
  first | exact D.w_isi_str_list | (apply D.w_isi_str_list <;> assumption)
@[simp ↓] theorem w_isi_str_dict {s : Tx} : wp (fIsi "dict" [(.str s)] M) Q E = Q (.bl false) M := by
  simp only [wp_eq, wpS_eq] at *
  first | exact D.w_isi_str_dict | (apply D.w_isi_str_dict <;> assumption)
@[simp ↓] theorem w_isi_tuple_tuple {l : List MV} : wp (fIsi "tuple" [(.tup l)] M) Q E = Q (.bl true) M := by
  simp only [wp_eq, wpS_eq] at *
  first | exact D.w_isi_tuple_tuple | (apply D.w_isi_tuple_tuple <;> assumption)
@[simp ↓] theorem w_isi_tuple_str {l : List MV} : wp (fIsi "str" [(.tup l)] M) Q E = Q (.bl false) M := by
  simp only [wp_eq, wpS_eq] at *
  first | exact D.w_isi_tuple_str | (apply D.w_isi_tuple_str <;> assumption)
@[simp ↓] theorem w_isi_tuple_int {l : List MV} : wp (fIsi "int" [(.tup l)] M) Q E = Q (.bl false) M := by
  simp only [wp_eq, wpS_eq] at *
  first | exact D.w_isi_tuple_int | (apply D.w_isi_tuple_int <;> assumption)
@[simp ↓] theorem w_isi_tuple_bool {l : List MV} : wp (fIsi "bool" [(.tup l)] M) Q E = Q (.bl false) M := by
  simp only [wp_eq, wpS_eq] at *
  first | exact D.w_isi_tuple_bool | (apply D.w_isi_tuple_bool <;> assumption)
@[simp ↓] theorem w_isi_tuple_list {l : List MV} : wp (fIsi "list" [(.tup l)] M) Q E = Q (.bl false) M := by
  simp only [wp_eq, wpS_eq] at *
  first | exact D.w_isi_tuple_list | (apply D.w_isi_tuple_list <;> assumption)
@[simp ↓] theorem w_isi_tuple_dict {l : List MV} : wp (fIsi "dict" [(.tup l)] M) Q E = Q (.bl false) M := by
  simp only [wp_eq, wpS_eq] at *
  first | exact D.w_isi_tuple_dict | (apply D.w_isi_tuple_dict <;> assumption)
end

/-! ### targets -/
section
variable {Q : Env → Hm → Prop} {E : MX → Hm → Prop} {M : Hm} {env : Env}
@[simp ↓] theorem w_gN {i : Nat} {d : MV} : wp (gN i d env M) Q E = Q (env.set i (some d)) M := by
  simp only [wp_eq, wpS_eq] at *
  first | exact D.w_gN | (apply D.w_gN <;> assumption)
@[simp ↓] theorem w_gT {n : Nat} {r : Ftgs} {l : List MV} : wp (gT n r (.tup l) env M) Q E = ((l.length = n) ∧ (wp (r l env M) Q E)) := by
  simp only [wp_eq, wpS_eq, ifB_eq] at *
  first | exact D.w_gT | exact (D.w_gT).trans (by simp only [ite_and]) | (rw [D.w_gT]; simp only [ite_and]; done) | (apply D.w_gT <;> assumption)
@[simp ↓] theorem w_gsNil : wp (gsNil [] env M) Q E = Q env M := by
  simp only [wp_eq, wpS_eq] at *
  first | exact D.w_gsNil | (apply D.w_gsNil <;> assumption)
@[simp ↓] theorem w_gsCons {g : Ftg} {r : Ftgs} {d : MV} {ds : List MV} : wp (gsCons g r (d :: ds) env M) Q E = wp (g d env M) (fun e1 M1 => wp (r ds e1 M1) Q E) E := by
  simp only [wp_eq, wpS_eq] at *
  first | exact D.w_gsCons | (apply D.w_gsCons <;> assumption)
@[simp ↓] theorem w_gIx {f : MV → MV → MV → Hm → R MV} {a b : Fe} {d : MV} : wp (gIx f a b d env M) Q E = wp (a env M) (fun x M1 => wp (b env M1) (fun y M2 => wp (f x y d M2) (fun _ M3 => Q env M3) (fun _ _ => False)) (fun _ _ => False)) (fun _ _ => False) := by
  simp only [wp_eq, wpS_eq] at *
  first | exact D.w_gIx | (apply D.w_gIx <;> assumption)
section
variable {Q : MV → Hm → Prop}
@[simp ↓] theorem w_setL {k : Nat} {i : Int} {d : MV} : wp (fSetL (.ref k) (.int i) d M) Q E = rdL M k (fun l => rdX l.length i fun j => Q .non (M.set k (.lst (l.set j d)))) := by
  simp only [wp_eq, wpS_eq] at *
  first | exact D.w_setL | (apply D.w_setL <;> assumption)
end
end

/-! ### statements -/
section
variable {Q : O → Env → Hm → Prop} {E : MX → Env → Hm → Prop} {M : Hm} {env : Env} {a b : Fs} {e : Fe} {c : Ft}
@[simp ↓] theorem wS_ok {o : O} : wpS (.ok o env M) Q E = Q o env M := by
  simp only [wp_eq, wpS_eq] at *
  first | exact D.wS_ok | (apply D.wS_ok <;> assumption)
@[simp ↓] theorem wS_exc {x : MX} : wpS (.exc x env M) Q E = E x env M := by
  simp only [wp_eq, wpS_eq] at *
  first | exact D.wS_exc | (apply D.wS_exc <;> assumption)
@[simp ↓] theorem wS_bad : wpS .bad Q E = False := by
  simp only [wp_eq, wpS_eq] at *
  first | exact D.wS_bad | (apply D.wS_bad <;> assumption)
theorem wS_ite {c : Prop} [Decidable c] {a b : RS} : wpS (if c then a else b) Q E = if c then wpS a Q E else wpS b Q E := by
  simp only [wp_eq, wpS_eq]
  exact D.wS_ite
@[simp ↓] theorem wS_st {α : Type} {r : R α} {f : α → Hm → RS} : wpS (r.st env f) Q E = wp r (fun a M1 => wpS (f a M1) Q E) (fun x M1 => E x env M1) := by
  simp only [wp_eq, wpS_eq] at *
  first | exact D.wS_st | (apply D.wS_st <;> assumption)
@[simp ↓] theorem wS_nx : wpS (sNx env M) Q E = Q .nx env M := by
  simp only [wp_eq, wpS_eq] at *
  first | exact D.wS_nx | (apply D.wS_nx <;> assumption)
@[simp ↓] theorem wS_brk : wpS (sBrk env M) Q E = Q .brk env M := by
  simp only [wp_eq, wpS_eq] at *
  first | exact D.wS_brk | (apply D.wS_brk <;> assumption)
@[simp ↓] theorem wS_cnt : wpS (sCnt env M) Q E = Q .cnt env M := by
  simp only [wp_eq, wpS_eq] at *
  first | exact D.wS_cnt | (apply D.wS_cnt <;> assumption)
@[simp ↓] theorem wS_seq : wpS (sSeq a b env M) Q E = wpS (a env M) (fun o e1 M1 => match o with | .nx => wpS (b e1 M1) Q E | o => Q o e1 M1) E := by
  simp only [wp_eq, wpS_eq] at *
  first | exact D.wS_seq | (apply D.wS_seq <;> assumption)
@[simp ↓] theorem wS_set {i : Nat} : wpS (sSet i e env M) Q E = wp (e env M) (fun d M1 => Q .nx (env.set i (some d)) M1) (fun x M1 => E x env M1) := by
  simp only [wp_eq, wpS_eq] at *
  first | exact D.wS_set | (apply D.wS_set <;> assumption)
@[simp ↓] theorem wS_asg {g : Ftg} : wpS (sAsg g e env M) Q E = wp (e env M) (fun d M1 => wp (g d env M1) (fun e1 M2 => Q .nx e1 M2) (fun x M2 => E x env M2)) (fun x M1 => E x env M1) := by
  simp only [wp_eq, wpS_eq] at *
  first | exact D.wS_asg | (apply D.wS_asg <;> assumption)
@[simp ↓] theorem wS_aug {f : MV → MV → Hm → R MV} {i : Nat} : wpS (sAug f i e env M) Q E = rdE env i (fun x => wp (e env M) (fun y M1 => wp (f x y M1) (fun z M2 => Q .nx (env.set i (some z)) M2) (fun x M2 => E x env M2)) (fun x M1 => E x env M1)) := by
  simp only [wp_eq, wpS_eq] at *
  first | exact D.wS_aug | (apply D.wS_aug <;> assumption)
@[simp ↓] theorem wS_ex : wpS (sEx e env M) Q E = wp (e env M) (fun _ M1 => Q .nx env M1) (fun x M1 => E x env M1) := by
  simp only [wp_eq, wpS_eq] at *
  first | exact D.wS_ex | (apply D.wS_ex <;> assumption)
@[simp ↓] theorem wS_ret : wpS (sRet e env M) Q E = wp (e env M) (fun d M1 => Q (.ret d) env M1) (fun x M1 => E x env M1) := by
  simp only [wp_eq, wpS_eq] at *
  first | exact D.wS_ret | (apply D.wS_ret <;> assumption)
@[simp ↓] theorem wS_retN : wpS (sRetN env M) Q E = Q (.ret .non) env M := by
  simp only [wp_eq, wpS_eq] at *
  first | exact D.wS_retN | (apply D.wS_retN <;> assumption)
@[simp ↓] theorem wS_if : wpS (sIf c a b env M) Q E = wp (c env M) (fun k M1 => ifB (k) (wpS (a env M1) Q E) (wpS (b env M1) Q E)) (fun x M1 => E x env M1) := by
  simp only [wp_eq, wpS_eq, ifB_eq] at *
  first | exact D.wS_if | exact (D.wS_if).trans (by simp only [ite_and]) | (rw [D.wS_if]; simp only [ite_and]; done) | (apply D.wS_if <;> assumption)
@[simp ↓] theorem wS_putA {x y v : Fe} : wpS (sPutA x y v env M) Q E = wp (v env M) (fun z M1 => wp (x env M1) (fun d M2 => wp (y env M2) (fun k M3 => match d with
  | .ref j => rdD M3 j fun l => ((isKey k && decide (l.length < SL)) ∧ (Q .nx env (M3.set j (.dic (putD l k z))))) | _ => False) (fun x M => E x env M)) (fun x M => E x env M)) (fun x M => E x env M) := by
  simp only [wp_eq, wpS_eq, ifB_eq] at *
  first | exact D.wS_putA | exact (D.wS_putA).trans (by simp only [ite_and]) | (rw [D.wS_putA]; simp only [ite_and]; done) | (apply D.wS_putA <;> assumption)
@[simp ↓] theorem wS_raise {c : Nat} : wpS (sRaiseC c env M) Q E = E ⟨c, none⟩ env M := by
  simp only [wp_eq, wpS_eq] at *
  first | exact D.wS_raise | (apply D.wS_raise <;> assumption)
@[simp ↓] theorem wS_while : wpS (sWhl c b env M) Q E = wpS (whlGo c b WL env M) Q E := by
  simp only [wp_eq, wpS_eq] at *
  first | exact D.wS_while | (apply D.wS_while <;> assumption)
@[simp ↓] theorem wS_for {it : Fi} {g : Ftg} : wpS (sFor it g b env M) Q E = wp (it env M) (fun p M1 => wpS (forGo p.1 g b p.2 0 env M1) Q E) (fun x M1 => E x env M1) := by
  simp only [wp_eq, wpS_eq] at *
  first | exact D.wS_for | (apply D.wS_for <;> assumption)
theorem wS_try {sub : Nat → Option Bool} {i : Nat} {su : MX → Fs} : wpS (sTryAs a sub i su env M) Q E = wpS (a env M) Q (fun x e1 M1 => match sub x.cls with
    | some true => i < e1.length ∧ wpS (su x (e1.set i none) M1) (fun o e2 M2 => Q o (e2.set i none) M2) (fun _ _ _ => False)
    | some false => E x e1 M1
    | none => False) := by
  simp only [wpS_eq]
  rw [D.wS_try]
  simp only [ite_and]
theorem wS_whl {Q : O → Env → Hm → Prop} {E : MX → Env → Hm → Prop} (Inv : Nat → Env → Hm → Prop)
    (step : ∀ k env M, Inv k env M → wp (c env M) (fun t M1 => ifB (t) (wpS (b env M1) (fun o e2 M2 => match o with
      | .nx => ∃ k', k' < k ∧ Inv k' e2 M2
      | .cnt => ∃ k', k' < k ∧ Inv k' e2 M2
      | .brk => Q .nx e2 M2
      | .ret d => Q (.ret d) e2 M2) E) (Q .nx env M1)) (fun x M1 => E x env M1)) :
    ∀ (n k : Nat) env M, k < n → Inv k env M → wpS (whlGo c b n env M) Q E := by
  simp only [wp_eq, wpS_eq, ifB_eq] at *
  first | exact D.wS_whl | exact (D.wS_whl).trans (by simp only [ite_and]) | (rw [D.wS_whl]; simp only [ite_and]; done) | (apply D.wS_whl <;> assumption)
theorem wS_for0 {Q : O → Env → Hm → Prop} {E : MX → Env → Hm → Prop} {g : Ftg} {ni : Ni} (Inv : Nat → Env → Hm → Prop) (N : Nat)
    (hn : ∀ k env M, Inv k env M → k ≤ N → ∃ o, ni M k = some o ∧ (o = none ↔ k = N))
    (step : ∀ k d env M, k < N → ni M k = some (some d) → Inv k env M → wp (g d env M) (fun e1 M1 => wpS (b e1 M1) (fun o e2 M2 => match o with
      | .nx => Inv (k + 1) e2 M2
      | .cnt => Inv (k + 1) e2 M2
      | .brk => Q .nx e2 M2
      | .ret d => Q (.ret d) e2 M2) E) (fun x M1 => E x env M1))
    (hend : ∀ env M, Inv N env M → Q .nx env M) :
    ∀ (n k : Nat) env M, k + n = N + 1 → k ≤ N → Inv k env M → wpS (forGo ni g b n k env M) Q E := by
  simp only [wp_eq, wpS_eq] at *
  first | exact D.wS_for0 | (apply D.wS_for0 <;> assumption)
theorem wS_forT {Q : O → Env → Hm → Prop} {E : MX → Env → Hm → Prop} {g : Ftg} {l : List MV} (Inv : Nat → Env → Hm → Prop) (h0 : Inv 0 env M)
    (step : ∀ k d env M, l[k]? = some d → Inv k env M → wp (g d env M) (fun e1 M1 => wpS (b e1 M1) (fun o e2 M2 => match o with
      | .nx => Inv (k + 1) e2 M2
      | .cnt => Inv (k + 1) e2 M2
      | .brk => Q .nx e2 M2
      | .ret d => Q (.ret d) e2 M2) E) (fun x M1 => E x env M1))
    (hend : ∀ env M, Inv l.length env M → Q .nx env M) : wpS (forGo (nT l) g b (l.length + 1) 0 env M) Q E := by
  simp only [wp_eq, wpS_eq] at *
  first | exact D.wS_forT | (apply D.wS_forT <;> assumption)
theorem wS_forR {Q : O → Env → Hm → Prop} {E : MX → Env → Hm → Prop} {g : Ftg} {lo c : Int} {n : Nat} (Inv : Nat → Env → Hm → Prop) (h0 : Inv 0 env M)
    (step : ∀ k env M, k < n → Inv k env M → wp (g (.int (lo + k * c)) env M) (fun e1 M1 => wpS (b e1 M1) (fun o e2 M2 => match o with
      | .nx => Inv (k + 1) e2 M2
      | .cnt => Inv (k + 1) e2 M2
      | .brk => Q .nx e2 M2
      | .ret d => Q (.ret d) e2 M2) E) (fun x M1 => E x env M1))
    (hend : ∀ env M, Inv n env M → Q .nx env M) : wpS (forGo (nR lo c n) g b (n + 1) 0 env M) Q E := by
  simp only [wp_eq, wpS_eq] at *
  first | exact D.wS_forR | (apply D.wS_forR <;> assumption)
end
/-! ### what is walked -/
section
variable {Q : Ni × Nat → Hm → Prop} {E : MX → Hm → Prop} {M : Hm} {env : Env} {a : Fe} {t : Fa}
@[simp ↓] theorem w_iRg {f : List MV → Hm → R (Ni × Nat)} : wp (iRg f t env M) Q E = wp (t env M) (fun xs M1 => wp (f xs M1) Q E) E := by
  simp only [wp_eq, wpS_eq] at *
  first | exact D.w_iRg | (apply D.w_iRg <;> assumption)
@[simp ↓] theorem w_rg1 {j : Int} : wp (rg1 [.int j] M) Q E = ((in62 j) ∧ (Q (nR 0 1 j.toNat, j.toNat + 1) M)) := by
  simp only [wp_eq, wpS_eq, ifB_eq] at *
  first | exact D.w_rg1 | exact (D.w_rg1).trans (by simp only [ite_and]) | (rw [D.w_rg1]; simp only [ite_and]; done) | (apply D.w_rg1 <;> assumption)
@[simp ↓] theorem w_rg2 {i j : Int} : wp (rg2 [.int i, .int j] M) Q E = ((in62 i && in62 j) ∧ (Q (nR i 1 (j - i).toNat, (j - i).toNat + 1) M)) := by
  simp only [wp_eq, wpS_eq, ifB_eq] at *
  first | exact D.w_rg2 | exact (D.w_rg2).trans (by simp only [ite_and]) | (rw [D.w_rg2]; simp only [ite_and]; done) | (apply D.w_rg2 <;> assumption)
@[simp ↓] theorem w_iA : wp (iA a env M) Q E = wp (a env M) (fun x M1 => rdIt M1 x fun p => Q p M1) E := by
  simp only [wp_eq, wpS_eq] at *
  first | exact D.w_iA | (apply D.w_iA <;> assumption)
end
/-! ### comprehensions -/
section
variable {Q : MV → Hm → Prop} {E : MX → Hm → Prop} {M : Hm} {env : Env} {e : Fe} {c : Ft} {g : Ftg} {it : Fi} {vs : List Nat}
@[simp ↓] theorem w_lc : wp (eLc it g c e vs env M) Q E = wp (it env M) (fun p M1 => wp (lcGo p.1 g c e (wipeE env vs) p.2 0 [] M1) (fun l M2 => Q (.ref M2.length) (M2 ++ [.lst l])) E) E := by
  simp only [wp_eq, wpS_eq] at *
  first | exact D.w_lc | (apply D.w_lc <;> assumption)
theorem w_lc0 {Ql : List MV → Hm → Prop} {ni : Ni} (Inv : Nat → List MV → Hm → Prop) (N : Nat)
    (hn : ∀ k acc M, Inv k acc M → k ≤ N → ∃ o, ni M k = some o ∧ (o = none ↔ k = N))
    (step : ∀ k d acc M, k < N → ni M k = some (some d) → Inv k acc M → wp (g d env M) (fun e1 M1 => wp (c e1 M1) (fun t M2 => ifB (t) (wp (e e1 M2) (fun y M3 => acc.length < SL ∧ Inv (k + 1) (acc ++ [y]) M3) (fun _ _ => False)) (Inv (k + 1) acc M2)) (fun _ _ => False)) (fun _ _ => False))
    (hend : ∀ acc M, Inv N acc M → Ql acc M) :
    ∀ (n k : Nat) acc M, k + n = N + 1 → k ≤ N → Inv k acc M → wp (lcGo ni g c e env n k acc M) Ql E := by
  simp only [wp_eq, wpS_eq, ifB_eq] at *
  first | exact D.w_lc0 | exact (D.w_lc0).trans (by simp only [ite_and]) | (rw [D.w_lc0]; simp only [ite_and]; done) | (apply D.w_lc0 <;> assumption)
theorem w_lcT {Ql : List MV → Hm → Prop} {l : List MV} (Inv : Nat → List MV → Hm → Prop) (h0 : Inv 0 [] M)
    (step : ∀ k d acc M, l[k]? = some d → Inv k acc M → wp (g d env M) (fun e1 M1 => wp (c e1 M1) (fun t M2 => ifB (t) (wp (e e1 M2) (fun y M3 => acc.length < SL ∧ Inv (k + 1) (acc ++ [y]) M3) (fun _ _ => False)) (Inv (k + 1) acc M2)) (fun _ _ => False)) (fun _ _ => False))
    (hend : ∀ acc M, Inv l.length acc M → Ql acc M) : wp (lcGo (nT l) g c e env (l.length + 1) 0 [] M) Ql E := by
  simp only [wp_eq, wpS_eq, ifB_eq] at *
  first | exact D.w_lcT | exact (D.w_lcT).trans (by simp only [ite_and]) | (rw [D.w_lcT]; simp only [ite_and]; done) | (apply D.w_lcT <;> assumption)
theorem w_lcR {Ql : List MV → Hm → Prop} {lo cc : Int} {n : Nat} (Inv : Nat → List MV → Hm → Prop) (h0 : Inv 0 [] M)
    (step : ∀ k acc M, k < n → Inv k acc M → wp (g (.int (lo + k * cc)) env M) (fun e1 M1 => wp (c e1 M1) (fun t M2 => ifB (t) (wp (e e1 M2) (fun y M3 => acc.length < SL ∧ Inv (k + 1) (acc ++ [y]) M3) (fun _ _ => False)) (Inv (k + 1) acc M2)) (fun _ _ => False)) (fun _ _ => False))
    (hend : ∀ acc M, Inv n acc M → Ql acc M) : wp (lcGo (nR lo cc n) g c e env (n + 1) 0 [] M) Ql E := by
  simp only [wp_eq, wpS_eq, ifB_eq] at *
  first | exact D.w_lcR | exact (D.w_lcR).trans (by simp only [ite_and]) | (rw [D.w_lcR]; simp only [ite_and]; done) | (apply D.w_lcR <;> assumption)
end
/-! ### defs -/
theorem w_run {tab : Nat → Option Df} {n f : Nat} {ds : List MV} {M : Hm} {Q : MV → Hm → Prop} {E : MX → Hm → Prop} {d : Df} (h : tab f = some d) (hl : ds.length = d.np)
    (hb : wpS (d.bd (run tab n) (ds.map some ++ List.replicate (d.ns - d.np) none) M) (fun o _ M1 => match o with
      | .nx => gcQ M M1 .non Q
      | .ret v => gcQ M M1 v Q
      | _ => False) (fun x _ M1 => gcE M M1 x E)) : wp (run tab (n + 1) f ds M) Q E := by
  simp only [wp_eq, wpS_eq] at *
  first | exact D.w_run | (apply D.w_run <;> assumption)
/-! ### the heap grows -/
theorem wS_cut {Q : O → Env → Hm → Prop} {E : MX → Env → Hm → Prop} {M : Hm} {env : Env} {a b : Fs} (P : Env → Hm → Prop) (h1 : wpS (a env M) (fun o e1 M1 => match o with | .nx => P e1 M1 | o => Q o e1 M1) E)
    (h2 : ∀ e1 M1, P e1 M1 → wpS (b e1 M1) Q E) : wpS (sSeq a b env M) Q E := by
  simp only [wp_eq, wpS_eq] at *
  first | exact D.wS_cut | (apply D.wS_cut <;> assumption)
/-! ### limits -/
end Mi
set_option maxRecDepth 100000
/-! Digits and texts. -/
namespace Mi
open PySem PySem.NumText TL L2 PyProof.Rows
theorem snocRec {α : Type} {m : List α → Prop} (h0 : m []) (h1 : ∀ l x, m l → m (l ++ [x])) : ∀ l, m l := fun l => by
  have key : ∀ r : List α, m r.reverse := by
    intro r
    induction r with
    | nil => exact h0
    | cons x r ih => rw [List.reverse_cons]; exact h1 _ _ ih
  have := key l.reverse
  rwa [List.reverse_reverse] at this
theorem dv_snoc (cs : Tx) (c : Nat) : digitsVal (cs ++ [c]) = digitsVal cs * 10 + (c - 48) := digitsVal_snoc cs c
theorem dv_app (a : Tx) : ∀ b : Tx, digitsVal (a ++ b) = digitsVal a * 10 ^ b.length + digitsVal b := by
  intro b
  induction b using snocRec with
  | h0 => simp [digitsVal]
  | h1 b c ih =>
    rw [← List.append_assoc, dv_snoc, dv_snoc, ih, List.length_append, List.length_singleton, Nat.pow_succ, Nat.add_mul]
    simp only [Nat.mul_assoc, Nat.add_assoc]
theorem numL_head : ∀ n : Nat, 1 ≤ n → ∃ c r, numL n = c :: r ∧ 49 ≤ c := by
  intro n
  induction n using Nat.strongRecOn with
  | ind n ih =>
    intro h
    rcases Nat.lt_or_ge n 10 with z | z
    · exact ⟨48 + n, [], numL_lt z, by omega⟩
    · obtain ⟨c, r, e, hc⟩ := ih (n / 10) (by omega) (by omega)
      exact ⟨c, r ++ [48 + n % 10], by rw [numL_step z, e]; rfl, hc⟩
/-- digits without needless zeros in front are a number's -/
theorem numL_unique : ∀ cs : Tx, AllDigits cs → (∃ c r, cs = c :: r ∧ (49 ≤ c ∨ r = [])) → numL (digitsVal cs) = cs := by
  intro cs
  induction cs using snocRec with
  | h0 => intro _ ⟨c, r, e, _⟩; cases e
  | h1 b c ih =>
    intro hd ⟨c0, r0, e, h0⟩
    have hc : 48 ≤ c ∧ c ≤ 57 := hd c (by simp)
    rw [dv_snoc]
    cases b with
    | nil =>
      simp only [List.nil_append] at e
      cases e
      have : digitsVal [] = 0 := rfl
      rw [List.nil_append, this, numL_lt (by omega)]
      congr 1
      omega
    | cons b0 b =>
      have e1 : b0 = c0 := by simp at e; exact e.1
      have hb : AllDigits (b0 :: b) := fun d hd' => hd d (List.mem_append_left _ hd')
      have h49 : 49 ≤ b0 := by
        rcases h0 with h0 | h0
        · rw [e1]; exact h0
        · subst h0
          simp at e
      have hv : 0 < digitsVal (b0 :: b) := digitsVal_pos h49
      have ih' := ih hb ⟨b0, b, rfl, .inl h49⟩
      rw [numL_step (by omega)]
      have e2 : (digitsVal (b0 :: b) * 10 + (c - 48)) / 10 = digitsVal (b0 :: b) := by omega
      have e3 : 48 + (digitsVal (b0 :: b) * 10 + (c - 48)) % 10 = c := by omega
      rw [e2, e3, ih']
/-- a number's digits, zeros in front up to k signs -/
def padN (k n : Nat) : Tx := List.replicate (k - (numL n).length) 48 ++ numL n
theorem dv_zeros : ∀ k : Nat, digitsVal (List.replicate k 48) = 0 := by
  intro k
  induction k with
  | zero => rfl
  | succ k ih =>
    rw [List.replicate_succ]
    exact ih
theorem dv_pad (k n : Nat) : digitsVal (padN k n) = n := by
  unfold padN
  rw [dv_app, dv_zeros, numL_val]
  omega
theorem digits_pad (k n : Nat) : AllDigits (padN k n) := fun c hc => by
  rcases List.mem_append.mp hc with h | h
  · have := (List.mem_replicate.mp h).2
    omega
  · exact numL_digits n c h
theorem len_pad {k n : Nat} (hk : 0 < k) (h : n < 10 ^ k) : (padN k n).length = k := by
  unfold padN
  have := numL_len hk h
  rw [List.length_append, List.length_replicate]
  omega
/-- a number's digits by chunks -/
theorem numL_chunk {k q r : Nat} (hk : 0 < k) (hr : r < 10 ^ k) (hq : 1 ≤ q) : numL (q * 10 ^ k + r) = numL q ++ padN k r := by
  have e : digitsVal (numL q ++ padN k r) = q * 10 ^ k + r := by
    rw [dv_app, numL_val, dv_pad, len_pad hk hr]
  rw [← e]
  refine numL_unique _ (fun c hc => ?_) ?_
  · rcases List.mem_append.mp hc with h | h
    · exact numL_digits q c h
    · exact digits_pad k r c h
  · obtain ⟨c, t, e, h⟩ := numL_head q hq
    exact ⟨c, t ++ padN k r, by rw [e]; rfl, .inl h⟩
theorem allDig_iff {s : Tx} : allDig s = true ↔ AllDigits s := by
  unfold allDig AllDigits
  simp [List.all_eq_true]
theorem numL_pos_len (n : Nat) : 0 < (numL n).length := List.length_pos_iff.mpr (numL_ne n)
theorem dv_lt : ∀ s : Tx, AllDigits s → digitsVal s < 10 ^ s.length := by
  intro s
  induction s using snocRec with
  | h0 => intro _; decide
  | h1 b c ih =>
    intro h
    have h1 := ih fun d hd => h d (List.mem_append_left _ hd)
    have hc : 48 ≤ c ∧ c ≤ 57 := h c (by simp)
    rw [dv_snoc, List.length_append, List.length_singleton, Nat.pow_succ]
    omega
theorem numL_len_ge {n k : Nat} (h : 10 ^ k ≤ n) : k < (numL n).length := by
  rcases Nat.lt_or_ge k (numL n).length with z | z
  · exact z
  · have h1 := dv_lt (numL n) (numL_digits n)
    rw [numL_val] at h1
    have := Nat.pow_le_pow_right (by decide : 0 < 10) z
    omega
/-- cut by places -/
theorem cut_from {α : Type} (l : List α) (i : Nat) : cut l (some (i : Int)) none = l.drop i := by
  unfold cut
  rw [HT.sIx_nat, HT.sIx_none]
  rcases Nat.le_total i l.length with h | h
  · rw [Nat.min_eq_left h, List.take_of_length_le (by rw [List.length_drop]; exact Nat.le_refl _)]
  · rw [Nat.min_eq_right h, List.drop_eq_nil_of_le (Nat.le_refl _), List.drop_eq_nil_of_le h, List.take_nil]
theorem cut_to {α : Type} (l : List α) (i : Nat) : cut l none (some (i : Int)) = l.take i := by
  unfold cut
  rw [HT.sIx_nat, HT.sIx_none, List.drop_zero, Nat.sub_zero]
  rcases Nat.le_total i l.length with h | h
  · rw [Nat.min_eq_left h]
  · rw [Nat.min_eq_right h, List.take_of_length_le (Nat.le_refl _), List.take_of_length_le h]
theorem cut_mid {α : Type} (l : List α) (i j : Nat) : cut l (some (i : Int)) (some (j : Int)) = (l.drop i).take (j - i) := by
  unfold cut
  rw [HT.sIx_nat, HT.sIx_nat]
  rcases Nat.le_total i l.length with h | h
  · rw [Nat.min_eq_left h]
    rcases Nat.le_total j l.length with h2 | h2
    · rw [Nat.min_eq_left h2]
    · rw [Nat.min_eq_right h2, List.take_of_length_le (by rw [List.length_drop]; exact Nat.le_refl _), List.take_of_length_le (by rw [List.length_drop]; omega)]
  · rw [Nat.min_eq_right h, List.drop_eq_nil_of_le (Nat.le_refl _), List.drop_eq_nil_of_le h, List.take_nil, List.take_nil]
/-- where c comes first from i on -/
theorem getD_T (s : Tx) (k : Nat) : (T s).cps.getD k 0 = s.getD k 0 := by
  show s.toArray.getD k 0 = s.getD k 0
  simp [Array.getD_eq_getD_getElem?, List.getD_eq_getElem?_getD]
theorem fromIndex_nat (n i : Nat) : fromIndex n (i : Int) = i := by
  unfold fromIndex
  rw [if_neg (by omega)]
  omega
theorem find3_first {s u v : Tx} {c : Nat} {i : Nat} (hs : s.drop i = u ++ c :: v) (hu : c ∉ u) : Txt.find3 (T s) (T [c]) (i : Int) = ((i + u.length : Nat) : Int) := by
  have hg : ∀ k : Nat, s.getD (i + k) 0 = (u ++ c :: v).getD k 0 := fun k => by
    rw [← hs]
    simp [List.getD_eq_getElem?_getD, List.getElem?_drop]
  have hl : s.length = i + (u.length + (v.length + 1)) := by
    have := congrArg List.length hs
    rw [List.length_drop, List.length_append, List.length_cons] at this
    omega
  have hlT := T_len s
  have at0 : s.getD (i + u.length) 0 = c := by
    rw [hg]
    simp [List.getD_eq_getElem?_getD]
  have ahead : ∀ k, k < u.length → s.getD (i + k) 0 ≠ c := fun k hk e => by
    rw [hg, List.getD_eq_getElem?_getD, List.getElem?_append_left hk, List.getElem?_eq_getElem hk] at e
    exact hu (by rw [← e]; exact List.getElem_mem hk)
  rcases StrLaws.find3_spec (T s) c (i : Int) with ⟨_, h⟩ | ⟨k, h1, h2, h3, h4, h5⟩
  · rw [fromIndex_nat] at h
    exact absurd (by rw [getD_T]; exact at0) (h (i + u.length) (by omega) (by omega))
  · rw [fromIndex_nat] at h2 h5
    have e : k = i + u.length := by
      rcases Nat.lt_trichotomy k (i + u.length) with z | z | z
      · have := ahead (k - i) (by omega)
        rw [getD_T] at h4
        rw [show i + (k - i) = k by omega] at this
        exact absurd h4 this
      · exact z
      · exact absurd (by rw [getD_T]; exact at0) (h5 (i + u.length) (by omega) z)
    rw [← e]
    exact h1
theorem find3_none {s : Tx} {c : Nat} {i : Nat} (hu : c ∉ s.drop i) : Txt.find3 (T s) (T [c]) (i : Int) = -1 := by
  have hlT := T_len s
  rcases StrLaws.find3_spec (T s) c (i : Int) with ⟨h, _⟩ | ⟨k, h1, h2, h3, h4, h5⟩
  · exact h
  · rw [fromIndex_nat] at h2
    rw [getD_T] at h4
    refine absurd ?_ hu
    have hk : k < s.length := by omega
    rw [List.getD_eq_getElem?_getD, List.getElem?_eq_getElem hk] at h4
    have e : (s.drop i)[k - i]? = some c := by
      rw [List.getElem?_drop, show i + (k - i) = k by omega, List.getElem?_eq_getElem hk]
      exact congrArg some h4
    exact List.mem_of_getElem? e
theorem numT_nat (n : Nat) : numT (n : Int) = numL n := by
  unfold numT
  rw [if_neg (by omega), Int.natAbs_natCast]
theorem numT_neg {i : Int} (h : i < 0) : numT i = 45 :: numL i.natAbs := by
  unfold numT
  rw [if_pos h]
theorem numT_pos {i : Int} (h : ¬ i < 0) : numT i = numL i.natAbs := by
  unfold numT
  rw [if_neg h]
theorem log2_few {n k : Nat} (h : n < 2 ^ k) (hk : 0 < k) : n.log2 < k := by
  by_cases h0 : n = 0
  · subst h0
    exact hk
  · exact (Nat.log2_lt h0).mpr h
theorem log2_64 {n : Nat} (h : n < 18446744073709551616) : n.log2 < 1920 := Nat.lt_of_lt_of_le (log2_few (k := 64) h (by decide)) (by decide)
theorem num_1 : numL 1 = [49] := numL_lt (by decide)
end Mi
set_option maxRecDepth 100000
/-! Loops over what stands still. -/
namespace Mi
theorem ifB_np {c : Prop} [Decidable c] {A B : Prop} (h1 : ¬ c → A) (h2 : c → B) : ifB (!decide c) A B := ⟨fun h => h1 (by simpa using h), fun h => h2 (by simpa using h)⟩
/-- what is walked is l -/
def Wk (ni : Ni) (l : List MV) (M : Hm) : Prop := ∀ k, ni M k = some l[k]?
theorem wk_T {l : List MV} {M : Hm} : Wk (nT l) l M := fun _ => rfl
theorem wk_L {l : List MV} {M : Hm} {i : Nat} (h : M[i]? = some (.lst l)) : Wk (nL i) l M := fun k => by
  unfold nL
  rw [h]
theorem wk_R {lo c : Int} {n : Nat} {M : Hm} : Wk (nR lo c n) ((List.range n).map fun k : Nat => .int (lo + k * c)) M := fun k => by
  unfold nR
  rw [List.getElem?_map]
  by_cases h : k < n
  · rw [if_pos h, List.getElem?_range h]
    rfl
  · rw [if_neg h, List.getElem?_eq_none (by simp; omega)]
    rfl
section
variable {E : MX → Hm → Prop} {M : Hm} {env : Env} {e ek ev : Fe} {c c1 : Ft} {g g1 : Ftg} {it1 : Fi} {vs1 : List Nat}
abbrev FF : MX → Hm → Prop := fun _ _ => False
theorem w_lcF0 {Ql : List MV → Hm → Prop} {ni : Ni} {l : List MV} (f : MV → Option MV) (acc0 : List MV) (hw : Wk ni l M) (hl : acc0.length + l.length ≤ SL)
    (step : ∀ d ∈ l, wp (g d env M) (fun e1 M1 => wp (c e1 M1) (fun t M2 => ifB t (wp (e e1 M2) (fun y M3 => f d = some y ∧ M3 = M) FF) (f d = none ∧ M2 = M)) FF) FF)
    (h : Ql (acc0 ++ l.filterMap f) M) : wp (lcGo ni g c e env (l.length + 1) 0 acc0 M) Ql E := by
  refine w_lc0 (fun k acc M' => acc = acc0 ++ (l.take k).filterMap f ∧ M' = M) l.length (fun k acc M' hi hk => ⟨l[k]?, ?_, ?_⟩) (fun k d acc M' hk hd hi => ?_) (fun acc M' hi => ?_) _ 0 _ M (by omega) (by omega) ⟨by simp, rfl⟩
  · rw [hi.2]; exact hw k
  · rw [List.getElem?_eq_none_iff]; omega
  · obtain ⟨rfl, rfl⟩ := hi
    have hd : l[k]? = some d := by
      have := (hw k).symm.trans hd
      exact Option.some.inj this
    have hs := step d (List.mem_of_getElem? hd)
    have ht : l.take (k + 1) = l.take k ++ [d] := by
      rw [List.take_add_one, hd]
      rfl
    have hlen : (acc0 ++ (l.take k).filterMap f).length < SL := by
      have h1 := List.length_filterMap_le f (l.take k)
      have h2 : (l.take k).length = k := by rw [List.length_take]; omega
      rw [List.length_append]
      omega
    refine wp_mono hs (fun e1 M1 h1 => wp_mono h1 (fun t M2 h2 => ⟨fun ht1 => ?_, fun ht0 => ?_⟩) fun _ _ z => z) fun _ _ z => z
    · refine wp_mono (h2.t ht1) (fun y M3 h3 => ?_) fun _ _ z => z
      refine ⟨hlen, ?_, h3.2⟩
      rw [ht, List.filterMap_append, List.filterMap_cons, h3.1]
      simp
    · obtain ⟨h3, h4⟩ := h2.f ht0
      refine ⟨?_, h4⟩
      rw [ht, List.filterMap_append, List.filterMap_cons, h3]
      simp
  · obtain ⟨rfl, rfl⟩ := hi
    rw [List.take_length]
    exact h
theorem w_lcF {Ql : List MV → Hm → Prop} {ni : Ni} {l : List MV} (f : MV → Option MV) (hw : Wk ni l M) (hl : l.length ≤ SL)
    (step : ∀ d ∈ l, wp (g d env M) (fun e1 M1 => wp (c e1 M1) (fun t M2 => ifB t (wp (e e1 M2) (fun y M3 => f d = some y ∧ M3 = M) FF) (f d = none ∧ M2 = M)) FF) FF)
    (h : Ql (l.filterMap f) M) : wp (lcGo ni g c e env (l.length + 1) 0 [] M) Ql E := w_lcF0 f [] hw (by simpa using hl) step (by simpa using h)
theorem w_lcM {Ql : List MV → Hm → Prop} {ni : Ni} {l : List MV} (f : MV → MV) (hw : Wk ni l M) (hl : l.length ≤ SL)
    (step : ∀ d ∈ l, wp (g d env M) (fun e1 M1 => wp (e e1 M1) (fun y M3 => y = f d ∧ M3 = M) FF) FF)
    (h : Ql (l.map f) M) : wp (lcGo ni g cYes e env (l.length + 1) 0 [] M) Ql E := by
  refine w_lcF (fun d => some (f d)) hw hl (fun d hd => wp_mono (step d hd) (fun e1 M1 h1 => ?_) fun _ _ z => z) ?_
  · rw [w_cYes, ifB_true rfl]
    refine wp_mono h1 (fun y M3 h3 => ⟨by rw [h3.1], h3.2⟩) fun _ _ z => z
  · have : l.filterMap (fun d => some (f d)) = l.map f := by
      rw [List.filterMap_eq_map']
    rw [this]
    exact h
theorem w_lcM0 {Ql : List MV → Hm → Prop} {ni : Ni} {l acc0 : List MV} (f : MV → MV) (hw : Wk ni l M) (hl : acc0.length + l.length ≤ SL)
    (step : ∀ d ∈ l, wp (g d env M) (fun e1 M1 => wp (e e1 M1) (fun y M3 => y = f d ∧ M3 = M) FF) FF)
    (h : Ql (acc0 ++ l.map f) M) : wp (lcGo ni g cYes e env (l.length + 1) 0 acc0 M) Ql E := by
  refine w_lcF0 (fun d => some (f d)) acc0 hw hl (fun d hd => wp_mono (step d hd) (fun e1 M1 h1 => ?_) fun _ _ z => z) ?_
  · rw [w_cYes, ifB_true rfl]
    refine wp_mono h1 (fun y M3 h3 => ⟨by rw [h3.1], h3.2⟩) fun _ _ z => z
  · have : l.filterMap (fun d => some (f d)) = l.map f := by
      rw [List.filterMap_eq_map']
    rw [this]
    exact h
@[simp ↓] theorem w_lc2 {Q : MV → Hm → Prop} {it : Fi} {vs : List Nat} : wp (eLc2 it g c it1 g1 c1 e vs vs1 env M) Q E = wp (it env M) (fun p M1 => wp (lc2Go p.1 g c it1 g1 c1 e vs1 (wipeE env vs) p.2 0 [] M1) (fun l M2 => Q (.ref M2.length) (M2 ++ [.lst l])) E) E := by unfold eLc2; simp
/-- two clauses without tests, each source a list that is told: flat -/
theorem w_lc2M {Ql : List MV → Hm → Prop} {ni : Ni} {l : List MV} (f : MV → List MV) (hw : Wk ni l M)
    (step : ∀ d ∈ l, ∀ (acc : List MV) (K : List MV → Hm → Prop), K (acc ++ f d) M → acc.length + (f d).length ≤ SL → wp (g d env M) (fun e1 M1 => wp (it1 e1 M1) (fun p M3 => wp (lcGo p.1 g1 c1 e (wipeE e1 vs1) p.2 0 acc M3) K FF) FF) FF)
    (hl : (l.flatMap f).length ≤ SL) (h : Ql (l.flatMap f) M) : wp (lc2Go ni g cYes it1 g1 c1 e vs1 env (l.length + 1) 0 [] M) Ql E := by
  have key : ∀ (n k : Nat), k + n = l.length + 1 → k ≤ l.length → wp (lc2Go ni g cYes it1 g1 c1 e vs1 env n k ((l.take k).flatMap f) M) Ql E := by
    intro n
    induction n with
    | zero => intro k h1 h2; omega
    | succ n ih =>
      intro k h1 h2
      show wp (match ni M k with
        | none => .bad
        | some none => .ok ((l.take k).flatMap f) M
        | some (some x) => (g x env M).bindN fun env1 M1 => (cYes env1 M1).bindN fun b M2 =>
          if b then (it1 env1 M2).bindN fun p M3 => (lcGo p.1 g1 c1 e (wipeE env1 vs1) p.2 0 ((l.take k).flatMap f) M3).bindN fun acc' M4 => lc2Go ni g cYes it1 g1 c1 e vs1 env n (k + 1) acc' M4
          else lc2Go ni g cYes it1 g1 c1 e vs1 env n (k + 1) ((l.take k).flatMap f) M2) Ql E
      rw [hw k]
      by_cases hk : k < l.length
      · rw [List.getElem?_eq_getElem hk]
        have ht : l.take (k + 1) = l.take k ++ [l[k]] := by
          rw [List.take_add_one, List.getElem?_eq_getElem hk]
          rfl
        have ih' := ih (k + 1) (by omega) (by omega)
        rw [ht, List.flatMap_append] at ih'
        have hlen : ((l.take k).flatMap f).length + (f l[k]).length ≤ SL := by
          have e1 : l = l.take k ++ l[k] :: l.drop (k + 1) := by
            rw [List.getElem_cons_drop, List.take_append_drop]
          have : (l.flatMap f).length = ((l.take k).flatMap f).length + ((f l[k]).length + ((l.drop (k + 1)).flatMap f).length) := by
            have := congrArg (fun z => (z.flatMap f).length) e1
            simp only [List.flatMap_append, List.flatMap_cons, List.length_append] at this
            exact this
          omega
        have hs := step l[k] (List.getElem_mem hk) ((l.take k).flatMap f) (fun acc' M4 => wp (lc2Go ni g cYes it1 g1 c1 e vs1 env n (k + 1) acc' M4) Ql E) (by simpa using ih') hlen
        show wp ((g l[k] env M).bindN fun env1 M1 => (cYes env1 M1).bindN fun b M2 =>
          if b then (it1 env1 M2).bindN fun p M3 => (lcGo p.1 g1 c1 e (wipeE env1 vs1) p.2 0 ((l.take k).flatMap f) M3).bindN fun acc' M4 => lc2Go ni g cYes it1 g1 c1 e vs1 env n (k + 1) acc' M4
          else lc2Go ni g cYes it1 g1 c1 e vs1 env n (k + 1) ((l.take k).flatMap f) M2) Ql E
        rw [wp_bindN]
        refine wp_mono hs (fun e1 M1 h1 => ?_) fun _ _ z => z
        rw [wp_bindN, w_cYes]
        show wp ((it1 e1 M1).bindN fun p M3 => (lcGo p.1 g1 c1 e (wipeE e1 vs1) p.2 0 ((l.take k).flatMap f) M3).bindN fun acc' M4 => lc2Go ni g cYes it1 g1 c1 e vs1 env n (k + 1) acc' M4) Ql E
        rw [wp_bindN]
        refine wp_mono h1 (fun p M3 h3 => ?_) fun _ _ z => z
        rw [wp_bindN]
        exact h3
      · have e0 : k = l.length := by omega
        subst e0
        rw [List.getElem?_eq_none (Nat.le_refl _)]
        show wp (.ok ((l.take l.length).flatMap f) M) Ql E
        rw [wp_ok, List.take_length]
        exact h
  exact key (l.length + 1) 0 (by omega) (by omega)
@[simp ↓] theorem w_dc {Q : MV → Hm → Prop} {it : Fi} {vs : List Nat} : wp (eDc it g c ek ev vs env M) Q E = wp (it env M) (fun p M1 => wp (dcGo p.1 g c ek ev (wipeE env vs) p.2 0 [] M1) (fun l M2 => Q (.ref M2.length) (M2 ++ [.dic l])) E) E := by unfold eDc; simp
/-- a dict of what stands still, without tests -/
theorem w_dcM {Ql : List (MV × MV) → Hm → Prop} {ni : Ni} {l : List MV} (f : MV → MV × MV) (hw : Wk ni l M) (hl : l.length ≤ SL)
    (step : ∀ d ∈ l, wp (g d env M) (fun e1 M1 => wp (ek e1 M1) (fun y M3 => wp (ev e1 M3) (fun z M4 => y = (f d).1 ∧ isKey y = true ∧ z = (f d).2 ∧ M4 = M) FF) FF) FF)
    (h : Ql (putAll [] (l.map f)) M) : wp (dcGo ni g cYes ek ev env (l.length + 1) 0 [] M) Ql E := by
  have app : ∀ (a b l0 : List (MV × MV)), putAll l0 (a ++ b) = putAll (putAll l0 a) b := by
    intro a
    induction a with
    | nil => intro b l0; rfl
    | cons p a ih => intro b l0; obtain ⟨k, d⟩ := p; exact ih b _
  have len : ∀ (a l0 : List (MV × MV)), (putAll l0 a).length ≤ l0.length + a.length := by
    intro a
    induction a with
    | nil => intro l0; exact Nat.le_refl _
    | cons p a ih =>
      intro l0
      obtain ⟨k, d⟩ := p
      have h1 := ih (putD l0 k d)
      have h2 : (putD l0 k d).length ≤ l0.length + 1 := by
        unfold putD
        split <;> simp
      show (putAll (putD l0 k d) a).length ≤ _
      rw [List.length_cons]
      omega
  have key : ∀ (n k : Nat), k + n = l.length + 1 → k ≤ l.length → wp (dcGo ni g cYes ek ev env n k (putAll [] ((l.take k).map f)) M) Ql E := by
    intro n
    induction n with
    | zero => intro k h1 h2; omega
    | succ n ih =>
      intro k h1 h2
      show wp (match ni M k with
        | none => .bad
        | some none => .ok (putAll [] ((l.take k).map f)) M
        | some (some x) => (g x env M).bindN fun env1 M1 => (cYes env1 M1).bindN fun b M2 =>
          if b then (ek env1 M2).bindN fun y M3 => (ev env1 M3).bindN fun z M4 => if isKey y && decide ((putAll [] ((l.take k).map f)).length < SL) then dcGo ni g cYes ek ev env n (k + 1) (putD (putAll [] ((l.take k).map f)) y z) M4 else .bad
          else dcGo ni g cYes ek ev env n (k + 1) (putAll [] ((l.take k).map f)) M2) Ql E
      rw [hw k]
      by_cases hk : k < l.length
      · rw [List.getElem?_eq_getElem hk]
        have ht : l.take (k + 1) = l.take k ++ [l[k]] := by
          rw [List.take_add_one, List.getElem?_eq_getElem hk]
          rfl
        have ih' := ih (k + 1) (by omega) (by omega)
        rw [ht, List.map_append, app] at ih'
        have hlen : (putAll [] ((l.take k).map f)).length < SL := by
          have := len ((l.take k).map f) []
          rw [List.length_map, List.length_take] at this
          simp only [List.length_nil] at this
          omega
        have hs := step l[k] (List.getElem_mem hk)
        show wp ((g l[k] env M).bindN fun env1 M1 => (cYes env1 M1).bindN fun b M2 =>
          if b then (ek env1 M2).bindN fun y M3 => (ev env1 M3).bindN fun z M4 => if isKey y && decide ((putAll [] ((l.take k).map f)).length < SL) then dcGo ni g cYes ek ev env n (k + 1) (putD (putAll [] ((l.take k).map f)) y z) M4 else .bad
          else dcGo ni g cYes ek ev env n (k + 1) (putAll [] ((l.take k).map f)) M2) Ql E
        rw [wp_bindN]
        refine wp_mono hs (fun e1 M1 h1 => ?_) fun _ _ z => z
        rw [wp_bindN, w_cYes]
        show wp ((ek e1 M1).bindN fun y M3 => (ev e1 M3).bindN fun z M4 => if isKey y && decide ((putAll [] ((l.take k).map f)).length < SL) then dcGo ni g cYes ek ev env n (k + 1) (putD (putAll [] ((l.take k).map f)) y z) M4 else .bad) Ql E
        rw [wp_bindN]
        refine wp_mono h1 (fun y M3 h3 => ?_) fun _ _ z => z
        rw [wp_bindN]
        refine wp_mono h3 (fun z M4 h4 => ?_) fun _ _ z => z
        obtain ⟨r1, r2, r3, r4⟩ := h4
        rw [if_pos (by rw [r2, decide_eq_true hlen]; rfl), r1, r3, r4]
        exact ih'
      · have e0 : k = l.length := by omega
        subst e0
        rw [List.getElem?_eq_none (Nat.le_refl _)]
        show wp (.ok (putAll [] ((l.take l.length).map f)) M) Ql E
        rw [wp_ok, List.take_length]
        exact h
  exact key (l.length + 1) 0 (by omega) (by omega)
end
/-- a for, by what has been walked -/
theorem wS_forP {Q : O → Env → Hm → Prop} {E : MX → Env → Hm → Prop} {M : Hm} {env : Env} {b : Fs} {g : Ftg} {ni : Ni} {l : List MV} (Inv : List MV → Env → Hm → Prop) (h0 : Inv [] env M)
    (hw : ∀ p env M, Inv p env M → Wk ni l M)
    (step : ∀ p d r env M, l = p ++ d :: r → Inv p env M → wp (g d env M) (fun e1 M1 => wpS (b e1 M1) (fun o e2 M2 => match o with
      | .nx => Inv (p ++ [d]) e2 M2
      | .cnt => Inv (p ++ [d]) e2 M2
      | .brk => Q .nx e2 M2
      | .ret d => Q (.ret d) e2 M2) E) (fun x M1 => E x env M1))
    (hend : ∀ env M, Inv l env M → Q .nx env M) : wpS (forGo ni g b (l.length + 1) 0 env M) Q E := by
  refine wS_for0 (fun k env M => Inv (l.take k) env M) l.length (fun k env M hi hk => ⟨l[k]?, hw _ _ _ hi k, ?_⟩) (fun k d env M hk hd hi => ?_) (fun env M hi => hend env M (by rwa [List.take_length] at hi)) _ 0 env M (by omega) (by omega) (by simpa using h0)
  · rw [List.getElem?_eq_none_iff]; omega
  · have hd : l[k]? = some d := by
      have := (hw _ _ _ hi k).symm.trans hd
      exact Option.some.inj this
    have ht : l.take (k + 1) = l.take k ++ [d] := by
      rw [List.take_add_one, hd]
      rfl
    have hl : l = l.take k ++ d :: l.drop (k + 1) := by
      have e : l[k] = d := Option.some.inj (by rw [← List.getElem?_eq_getElem hk]; exact hd)
      rw [← e, List.getElem_cons_drop, List.take_append_drop]
    rw [ht]
    exact step _ _ _ _ _ hl hi
/-- a for over the images of a list -/
theorem wS_forM {α : Type} {F : α → MV} {Q : O → Env → Hm → Prop} {E : MX → Env → Hm → Prop} {M : Hm} {env : Env} {b : Fs} {g : Ftg} {ni : Ni} {l : List α} {m : Nat} (Inv : List α → Env → Hm → Prop) (h0 : Inv [] env M)
    (hw : ∀ p env M, Inv p env M → Wk ni (l.map F) M)
    (step : ∀ p d r env M, l = p ++ d :: r → Inv p env M → wp (g (F d) env M) (fun e1 M1 => wpS (b e1 M1) (fun o e2 M2 => match o with
      | .nx => Inv (p ++ [d]) e2 M2
      | .cnt => Inv (p ++ [d]) e2 M2
      | .brk => Q .nx e2 M2
      | .ret d => Q (.ret d) e2 M2) E) (fun x M1 => E x env M1))
    (hend : ∀ env M, Inv l env M → Q .nx env M) (hm : m = l.length + 1 := by simp) : wpS (forGo ni g b m 0 env M) Q E := by
  rw [hm]
  refine wS_for0 (fun k env M => Inv (l.take k) env M) l.length (fun k env M hi hk => ⟨(l.map F)[k]?, hw _ _ _ hi k, ?_⟩) (fun k d env M hk hd hi => ?_) (fun env M hi => hend env M (by rwa [List.take_length] at hi)) _ 0 env M (by omega) (by omega) (by simpa using h0)
  · rw [List.getElem?_eq_none_iff, List.length_map]; omega
  · have hd : (l.map F)[k]? = some d := by
      have := (hw _ _ _ hi k).symm.trans hd
      exact Option.some.inj this
    have e : F l[k] = d := by
      rw [List.getElem?_map, List.getElem?_eq_getElem hk] at hd
      exact Option.some.inj hd
    subst e
    have ht : l.take (k + 1) = l.take k ++ [l[k]] := by
      rw [List.take_add_one, List.getElem?_eq_getElem hk]
      rfl
    have hl : l = l.take k ++ l[k] :: l.drop (k + 1) := by
      rw [List.getElem_cons_drop, List.take_append_drop]
    rw [ht]
    exact step _ _ _ _ _ hl hi
section
variable {E : MX → Hm → Prop} {M : Hm} {env : Env} {e ek ev : Fe} {c c1 : Ft} {g g1 : Ftg} {it1 : Fi} {vs1 : List Nat}
theorem w_lcMm {α : Type} {F : α → MV} {Ql : List MV → Hm → Prop} {ni : Ni} {l : List α} {m : Nat} (f : α → MV) (hw : Wk ni (l.map F) M) (hl : l.length ≤ SL)
    (step : ∀ d ∈ l, wp (g (F d) env M) (fun e1 M1 => wp (e e1 M1) (fun y M3 => y = f d ∧ M3 = M) FF) FF)
    (h : Ql (l.map f) M) (hm : m = l.length + 1 := by simp) : wp (lcGo ni g cYes e env m 0 [] M) Ql E := by
  have e0 : l.length + 1 = (l.map F).length + 1 := by rw [List.length_map]
  rw [hm, e0]
  refine w_lc0 (fun k acc M' => acc = (l.take k).map f ∧ M' = M) (l.map F).length (fun k acc M' hi hk => ⟨(l.map F)[k]?, ?_, ?_⟩) (fun k d acc M' hk hd hi => ?_) (fun acc M' hi => ?_) _ 0 _ M (by omega) (by omega) ⟨by simp, rfl⟩
  · rw [hi.2]; exact hw k
  · rw [List.getElem?_eq_none_iff]; omega
  · obtain ⟨rfl, rfl⟩ := hi
    have hd : (l.map F)[k]? = some d := Option.some.inj ((hw k).symm.trans hd)
    have hk' : k < l.length := by simpa using hk
    have e1 : F l[k] = d := by
      rw [List.getElem?_map, List.getElem?_eq_getElem hk'] at hd
      exact Option.some.inj hd
    subst e1
    have ht : l.take (k + 1) = l.take k ++ [l[k]] := by
      rw [List.take_add_one, List.getElem?_eq_getElem hk']
      rfl
    refine wp_mono (step l[k] (List.getElem_mem hk')) (fun e1 M1 h1 => ?_) fun _ _ z => z
    rw [w_cYes, ifB_true rfl]
    refine wp_mono h1 (fun y M3 h3 => ⟨?_, ?_, h3.2⟩) fun _ _ z => z
    · rw [List.length_map, List.length_take]
      omega
    · rw [ht, List.map_append, h3.1]
      rfl
  · obtain ⟨rfl, rfl⟩ := hi
    rw [List.length_map, List.take_length]
    exact h
theorem w_lcFm {α : Type} {F : α → MV} {Ql : List MV → Hm → Prop} {ni : Ni} {l : List α} {m : Nat} (f : α → Option MV) (hw : Wk ni (l.map F) M) (hl : l.length ≤ SL)
    (step : ∀ d ∈ l, wp (g (F d) env M) (fun e1 M1 => wp (c e1 M1) (fun t M2 => ifB t (wp (e e1 M2) (fun y M3 => f d = some y ∧ M3 = M) FF) (f d = none ∧ M2 = M)) FF) FF)
    (h : Ql (l.filterMap f) M) (hm : m = l.length + 1 := by simp) : wp (lcGo ni g c e env m 0 [] M) Ql E := by
  have e0 : l.length + 1 = (l.map F).length + 1 := by rw [List.length_map]
  rw [hm, e0]
  refine w_lc0 (fun k acc M' => acc = (l.take k).filterMap f ∧ M' = M) (l.map F).length (fun k acc M' hi hk => ⟨(l.map F)[k]?, ?_, ?_⟩) (fun k d acc M' hk hd hi => ?_) (fun acc M' hi => ?_) _ 0 _ M (by omega) (by omega) ⟨by simp, rfl⟩
  · rw [hi.2]; exact hw k
  · rw [List.getElem?_eq_none_iff]; omega
  · obtain ⟨rfl, rfl⟩ := hi
    have hd : (l.map F)[k]? = some d := Option.some.inj ((hw k).symm.trans hd)
    have hk' : k < l.length := by simpa using hk
    have e1 : F l[k] = d := by
      rw [List.getElem?_map, List.getElem?_eq_getElem hk'] at hd
      exact Option.some.inj hd
    subst e1
    have ht : l.take (k + 1) = l.take k ++ [l[k]] := by
      rw [List.take_add_one, List.getElem?_eq_getElem hk']
      rfl
    have hlen : ((l.take k).filterMap f).length < SL := by
      have h1 := List.length_filterMap_le f (l.take k)
      have h2 : (l.take k).length = k := by rw [List.length_take]; omega
      omega
    refine wp_mono (step l[k] (List.getElem_mem hk')) (fun e1 M1 h1 => wp_mono h1 (fun t M2 h2 => ⟨fun ht1 => ?_, fun ht0 => ?_⟩) fun _ _ z => z) fun _ _ z => z
    · refine wp_mono (h2.t ht1) (fun y M3 h3 => ⟨hlen, ?_, h3.2⟩) fun _ _ z => z
      rw [ht, List.filterMap_append, List.filterMap_cons, h3.1]
      simp
    · obtain ⟨h3, h4⟩ := h2.f ht0
      refine ⟨?_, h4⟩
      rw [ht, List.filterMap_append, List.filterMap_cons, h3]
      simp
  · obtain ⟨rfl, rfl⟩ := hi
    rw [List.length_map, List.take_length]
    exact h
end
theorem boolsOf_map {p : MV → Bool} {l : List MV} : boolsOf (l.map fun d => .bl (p d)) = some (l.map p) := by
  unfold boolsOf
  induction l with
  | nil => rfl
  | cons d l ih =>
    rw [List.map_cons, List.mapM_cons, ih]
    rfl
theorem textsOf_map {α : Type} {f : α → Tx} {l : List α} : textsOf (l.map fun d => .str (f d)) = some (l.map f) := by
  unfold textsOf
  induction l with
  | nil => rfl
  | cons d l ih =>
    rw [List.map_cons, List.mapM_cons, ih]
    rfl
theorem textsOf_strs {l : List Tx} : textsOf (l.map MV.str) = some l := by
  have := textsOf_map (f := id) (l := l)
  simpa using this
/-- what a run that only can end so gives -/
theorem run_of {α : Type} {r : R α} {v : α} {M : Hm} (h : ∀ (Q : α → Hm → Prop) (E : MX → Hm → Prop), Q v M → wp r Q E) : r = .ok v M := by
  obtain ⟨a, M', e, h1, h2⟩ := wp_ok_of (h (fun a M' => a = v ∧ M' = M) (fun _ _ => False) ⟨rfl, rfl⟩)
  rw [e, h1, h2]
theorem wp_of {α : Type} {r : R α} {v : α} {M : Hm} (h : r = .ok v M) (Q : α → Hm → Prop) (E : MX → Hm → Prop) : wp r Q E = Q v M := by
  rw [h, wp_ok]
end Mi
set_option maxRecDepth 100000
/-! Forms: constants and sums of names, plain. -/
namespace Mi
abbrev Ps := List (Tx × Int)
def pr (p : Tx × Int) : MV := .tup [.str p.1, .int p.2]
def fm (c : Int) (l : Ps) : MV := .tup [.int c, .tup (l.map pr)]
theorem pu_pr {p : Tx × Int} : Pu (pr p) := by unfold pr; simp
theorem pu_prs {l : Ps} : Pu (.tup (l.map pr)) := Pu.tup fun d hd => by
  obtain ⟨p, _, rfl⟩ := List.mem_map.mp hd
  exact pu_pr
theorem pu_fm {c : Int} {l : Ps} : Pu (fm c l) := by
  unfold fm
  simp [pu_prs]
@[simp] theorem rfs_pr {k : Nat} {p : Tx × Int} : rfs k (pr p) = true := pu_pr.rf k
@[simp] theorem rfs_fm {k : Nat} {c : Int} {l : Ps} : rfs k (fm c l) = true := pu_fm.rf k
@[simp] theorem rfsL_prs {k : Nat} {l : Ps} : rfsL k (l.map pr) = true := by
  have := (pu_prs (l := l)).rf k
  simpa using this
/-- how often a name comes in all -/
def coef : Ps → Tx → Int
  | [], _ => 0
  | (y, k) :: l, x => (if y = x then k else 0) + coef l x
theorem coef_app (l m : Ps) (x : Tx) : coef (l ++ m) x = coef l x + coef m x := by
  induction l with
  | nil => simp [coef]
  | cons p l ih =>
    obtain ⟨y, k⟩ := p
    simp only [List.cons_append, coef, ih]
    omega
theorem coef_map (f : Int) (l : Ps) (x : Tx) : coef (l.map fun p => (p.1, f * p.2)) x = f * coef l x := by
  induction l with
  | nil => simp [coef]
  | cons p l ih =>
    obtain ⟨y, k⟩ := p
    simp only [List.map_cons, coef, ih, Int.mul_add]
    split <;> simp
theorem coef_none {l : Ps} {x : Tx} (h : ∀ p ∈ l, p.1 ≠ x) : coef l x = 0 := by
  induction l with
  | nil => rfl
  | cons p l ih =>
    obtain ⟨y, k⟩ := p
    have h1 : y ≠ x := h _ List.mem_cons_self
    simp only [coef, if_neg h1, ih fun q hq => h q (List.mem_cons_of_mem _ hq)]
    rfl
/-- ascending, none 0 -/
structure Can (l : Ps) : Prop where
  asc : l.Pairwise fun p q => p.1 < q.1
  nz : ∀ p ∈ l, p.2 ≠ 0
theorem Can.nil : Can [] := ⟨.nil, fun _ h => absurd h List.not_mem_nil⟩
theorem Can.tail {p : Tx × Int} {l : Ps} (h : Can (p :: l)) : Can l := ⟨(List.pairwise_cons.mp h.asc).2, fun q hq => h.nz q (List.mem_cons_of_mem _ hq)⟩
theorem Can.head {x : Tx} {k : Int} {l : Ps} (h : Can ((x, k) :: l)) : coef ((x, k) :: l) x = k ∧ coef l x = 0 := by
  have h0 : coef l x = 0 := coef_none fun p hp e => by
    have := (List.pairwise_cons.mp h.asc).1 p hp
    rw [e] at this
    exact tx_irr _ this
  exact ⟨by simp only [coef, if_pos, h0, Int.add_zero], h0⟩
theorem Can.below {x y : Tx} {k : Int} {l : Ps} (h : Can ((x, k) :: l)) (hy : y < x) : coef ((x, k) :: l) y = 0 := coef_none fun p hp e => by
  rcases List.mem_cons.mp hp with q | q
  · subst q
    have e : x = y := e
    rw [e] at hy
    exact tx_irr _ hy
  · have := (List.pairwise_cons.mp h.asc).1 p q
    have e : p.1 = y := e
    rw [e] at this
    exact tx_irr _ (tx_trans hy this)
theorem Can.ext : ∀ {l m : Ps}, Can l → Can m → (∀ x, coef l x = coef m x) → l = m
  | [], [], _, _, _ => rfl
  | [], (y, k) :: m, _, h, e => by
    have := e y
    rw [h.head.1] at this
    exact absurd this.symm (h.nz (y, k) List.mem_cons_self)
  | (y, k) :: l, [], h, _, e => by
    have := e y
    rw [h.head.1] at this
    exact absurd this (h.nz (y, k) List.mem_cons_self)
  | (y, k) :: l, (z, j) :: m, h, h', e => by
    have hyz : y = z := by
      by_cases h1 : y < z
      · have := e y
        rw [h.head.1, h'.below h1] at this
        exact absurd this (h.nz (y, k) List.mem_cons_self)
      · by_cases h2 : z < y
        · have := e z
          rw [h'.head.1, h.below h2] at this
          exact absurd this.symm (h'.nz (z, j) List.mem_cons_self)
        · exact tx_total h1 h2
    subst hyz
    have hk : k = j := by
      have := e y
      rw [h.head.1, h'.head.1] at this
      exact this
    subst hk
    rw [Can.ext h.tail h'.tail fun x => by
      have := e x
      simp only [coef] at this
      omega]
theorem Can.map {l : Ps} (h : Can l) {f : Int} (hf : f ≠ 0) : Can (l.map fun p => (p.1, f * p.2)) := by
  refine ⟨?_, fun p hp => ?_⟩
  · rw [List.pairwise_map]
    exact h.asc
  · obtain ⟨q, hq, rfl⟩ := List.mem_map.mp hp
    exact Int.mul_ne_zero hf (h.nz q hq)
/-! ### sums -/
def getA (a : Ps) (x : Tx) : Option Int := (a.find? fun p => decide (p.1 = x)).map (·.2)
def putA (a : Ps) (x : Tx) (v : Int) : Ps := if a.any (fun p => decide (p.1 = x)) then a.map (fun p => if p.1 = x then (p.1, v) else p) else a ++ [(x, v)]
def stepA (a : Ps) (p : Tx × Int) : Ps := putA a p.1 ((getA a p.1).getD 0 + p.2)
def sumsA (l : Ps) : Ps := l.foldl stepA []
def dS (a : Ps) : List (MV × MV) := a.map fun p => (.str p.1, .int p.2)
theorem getD_dS (a : Ps) (x : Tx) : getD (dS a) (.str x) = (getA a x).map MV.int := by
  unfold getD getA dS
  induction a with
  | nil => rfl
  | cons p a ih =>
    rw [List.map_cons, List.find?_cons, List.find?_cons]
    have e : kEq (MV.str p.1) (MV.str x) = decide (p.1 = x) := rfl
    rw [e]
    by_cases h : p.1 = x
    · rw [decide_eq_true h]
      rfl
    · rw [decide_eq_false h]
      exact ih
theorem putD_dS (a : Ps) (x : Tx) (v : Int) : putD (dS a) (.str x) (.int v) = dS (putA a x v) := by
  have h1 : ((dS a).any fun p => kEq p.1 (.str x)) = a.any fun p => decide (p.1 = x) := by
    unfold dS
    rw [List.any_map]
    rfl
  unfold putD putA
  rw [h1]
  split
  · unfold dS
    rw [List.map_map, List.map_map]
    refine List.map_congr_left fun p _ => ?_
    by_cases h : p.1 = x
    · simp [kEq, h]
    · simp [kEq, h]
  · unfold dS
    simp
theorem keys_dS (a : Ps) : keysOf (dS a) = some (a.map (·.1)) := by
  unfold keysOf textsOf dS
  rw [List.map_map]
  induction a with
  | nil => rfl
  | cons p a ih =>
    rw [List.map_cons, List.mapM_cons, ih]
    rfl
theorem pu_dS {a : Ps} {k : Nat} : rfsP k (dS a) = true := by
  unfold dS
  induction a with
  | nil => rfl
  | cons p a ih => simpa using ih
theorem len_dS (a : Ps) : (dS a).length = a.length := by unfold dS; simp
/-- each name once, with its sum -/
structure Sms (a : Ps) (l : Ps) : Prop where
  nd : (a.map (·.1)).Nodup
  val : ∀ p ∈ a, p.2 = coef l p.1
  all : ∀ p ∈ l, p.1 ∈ a.map (·.1)
  sub : ∀ x ∈ a.map (·.1), x ∈ l.map (·.1)
theorem getA_of {a : Ps} (h : (a.map (·.1)).Nodup) {p : Tx × Int} (hp : p ∈ a) : getA a p.1 = some p.2 := by
  unfold getA
  induction a with
  | nil => cases hp
  | cons q a ih =>
    simp only [List.find?_cons]
    rw [List.map_cons, List.nodup_cons] at h
    rcases List.mem_cons.mp hp with e | e
    · subst e
      simp
    · have hne : q.1 ≠ p.1 := fun z => h.1 (by rw [z]; exact List.mem_map.mpr ⟨p, e, rfl⟩)
      simp only [hne, decide_false]
      exact ih h.2 e
theorem getA_none {a : Ps} {x : Tx} (h : x ∉ a.map (·.1)) : getA a x = none := by
  unfold getA
  rw [Option.map_eq_none_iff, List.find?_eq_none]
  intro p hp e
  exact h (List.mem_map.mpr ⟨p, hp, of_decide_eq_true e⟩)
theorem Sms.nil : Sms [] [] := ⟨.nil, fun _ h => absurd h List.not_mem_nil, fun _ h => absurd h List.not_mem_nil, fun _ h => h⟩
theorem Sms.get {a l : Ps} (h : Sms a l) (x : Tx) : (getA a x).getD 0 = coef l x := by
  by_cases hx : x ∈ a.map (·.1)
  · obtain ⟨p, hp, rfl⟩ := List.mem_map.mp hx
    rw [getA_of h.nd hp, ← h.val p hp]
    rfl
  · rw [getA_none hx]
    refine (coef_none fun p hp e => hx ?_).symm
    rw [← e]
    exact h.all p hp
theorem Sms.step {a l : Ps} (h : Sms a l) (p : Tx × Int) : Sms (stepA a p) (l ++ [p]) := by
  obtain ⟨x, k⟩ := p
  have hc : ∀ y, coef (l ++ [(x, k)]) y = coef l y + (if x = y then k else 0) := fun y => by rw [coef_app]; simp [coef]
  unfold stepA putA
  rw [h.get]
  have hany : (a.any fun p => decide (p.1 = x)) = decide (x ∈ a.map (·.1)) := by
    by_cases hx : x ∈ a.map (·.1)
    · rw [decide_eq_true hx, List.any_eq_true]
      obtain ⟨q, hq, e⟩ := List.mem_map.mp hx
      exact ⟨q, hq, decide_eq_true e⟩
    · rw [decide_eq_false hx, List.any_eq_false]
      intro q hq e
      exact hx (List.mem_map.mpr ⟨q, hq, of_decide_eq_true e⟩)
  rw [hany]
  by_cases hx : x ∈ a.map (·.1)
  · rw [decide_eq_true hx, if_pos rfl]
    have hk : (a.map fun p => if p.1 = x then (p.1, coef l x + k) else p).map (·.1) = a.map (·.1) := by
      rw [List.map_map]
      refine List.map_congr_left fun q _ => ?_
      by_cases e : q.1 = x
      · simp [e]
      · simp [e]
    refine ⟨by rw [hk]; exact h.nd, fun q hq => ?_, fun q hq => ?_, fun y hy => ?_⟩
    · obtain ⟨r, hr, rfl⟩ := List.mem_map.mp hq
      by_cases e : r.1 = x
      · simp only [e, if_true]
        rw [hc, if_pos rfl]
      · simp only [e, if_false]
        rw [hc, if_neg (Ne.symm e), Int.add_zero]
        exact h.val r hr
    · rw [hk]
      rcases List.mem_append.mp hq with e | e
      · exact h.all q e
      · have : q = (x, k) := by simpa using e
        rw [this]
        exact hx
    · rw [hk] at hy
      rw [List.map_append]
      exact List.mem_append_left _ (h.sub y hy)
  · rw [decide_eq_false hx, if_neg (by simp)]
    refine ⟨?_, fun q hq => ?_, fun q hq => ?_, fun y hy => ?_⟩
    · rw [List.map_append, List.nodup_append]
      refine ⟨h.nd, by simp, fun y hy z hz e => ?_⟩
      have : z = x := by simpa using hz
      rw [e, this] at hy
      exact hx hy
    · rcases List.mem_append.mp hq with e | e
      · rw [hc, if_neg (fun z => hx (by rw [z]; exact List.mem_map.mpr ⟨q, e, rfl⟩)), Int.add_zero]
        exact h.val q e
      · have : q = (x, coef l x + k) := by simpa using e
        rw [this]
        show coef l x + k = _
        rw [hc, if_pos rfl]
    · rw [List.map_append]
      rcases List.mem_append.mp hq with e | e
      · exact List.mem_append_left _ (h.all q e)
      · have : q = (x, k) := by simpa using e
        rw [this]
        exact List.mem_append_right _ (by simp)
    · rw [List.map_append] at hy ⊢
      rcases List.mem_append.mp hy with e | e
      · exact List.mem_append_left _ (h.sub y e)
      · exact List.mem_append_right _ (by simpa using e)
theorem sms_go : ∀ (l a l0 : Ps), Sms a l0 → Sms (l.foldl stepA a) (l0 ++ l)
  | [], a, l0, h => by rw [List.append_nil]; exact h
  | p :: l, a, l0, h => by
    have := sms_go l (stepA a p) (l0 ++ [p]) (h.step p)
    rwa [List.append_assoc] at this
theorem sms (l : Ps) : Sms (sumsA l) l := by
  have := sms_go l [] [] Sms.nil
  rwa [List.nil_append] at this
/-! ### sorted -/
theorem mem_insT {x y : Tx} : ∀ {l : List Tx}, y ∈ insT x l ↔ y = x ∨ y ∈ l
  | [] => by simp [insT]
  | z :: l => by
    unfold insT
    split
    · rw [List.mem_cons, mem_insT, List.mem_cons]
      constructor
      · rintro (h | h | h)
        · exact .inr (.inl h)
        · exact .inl h
        · exact .inr (.inr h)
      · rintro (h | h | h)
        · exact .inr (.inl h)
        · exact .inl h
        · exact .inr (.inr h)
    · rw [List.mem_cons]
theorem mem_sortT {y : Tx} : ∀ {l : List Tx}, y ∈ sortT l ↔ y ∈ l
  | [] => Iff.rfl
  | x :: l => by
    show y ∈ insT x (sortT l) ↔ _
    rw [mem_insT, mem_sortT, List.mem_cons]
theorem insT_asc {x : Tx} : ∀ {l : List Tx}, l.Pairwise (· < ·) → x ∉ l → (insT x l).Pairwise (· < ·)
  | [], _, _ => by simp [insT]
  | z :: l, h, hx => by
    unfold insT
    have hl := List.pairwise_cons.mp h
    split
    · rename_i hz
      rw [List.pairwise_cons]
      refine ⟨fun y hy => ?_, insT_asc hl.2 fun q => hx (List.mem_cons_of_mem _ q)⟩
      rcases mem_insT.mp hy with e | e
      · rw [e]; exact hz
      · exact hl.1 y e
    · rename_i hz
      have hxz : x < z := by
        by_cases h2 : x < z
        · exact h2
        · exact absurd (by rw [tx_total h2 hz]; exact List.mem_cons_self) hx
      rw [List.pairwise_cons]
      refine ⟨fun y hy => ?_, h⟩
      rcases List.mem_cons.mp hy with e | e
      · rw [e]; exact hxz
      · exact tx_trans hxz (hl.1 y e)
theorem sortT_asc : ∀ {l : List Tx}, l.Nodup → (sortT l).Pairwise (· < ·)
  | [], _ => .nil
  | x :: l, h => by
    rw [List.nodup_cons] at h
    exact insT_asc (sortT_asc h.2) fun q => h.1 (mem_sortT.mp q)
theorem len_insT {x : Tx} : ∀ {l : List Tx}, (insT x l).length = l.length + 1
  | [] => rfl
  | z :: l => by
    unfold insT
    split
    · rw [List.length_cons, len_insT, List.length_cons]
    · rfl
theorem len_sortT : ∀ {l : List Tx}, (sortT l).length = l.length
  | [] => rfl
  | x :: l => by
    show (insT x (sortT l)).length = _
    rw [len_insT, len_sortT]
    rfl
/-- the sum in order -/
def nf (l : Ps) : Ps := (sortT ((sumsA l).map (·.1))).filterMap fun x => if coef l x = 0 then none else some (x, coef l x)
theorem nf_can (l : Ps) : Can (nf l) := by
  refine ⟨?_, fun p hp => ?_⟩
  · unfold nf
    rw [List.pairwise_filterMap]
    refine (sortT_asc (sms l).nd).imp fun {x y} h => ?_
    intro b hb b' hb'
    split at hb
    · cases hb
    · split at hb'
      · cases hb'
      · cases hb; cases hb'; exact h
  · unfold nf at hp
    rw [List.mem_filterMap] at hp
    obtain ⟨x, _, h⟩ := hp
    split at h
    · cases h
    · cases h; assumption
theorem coef_filter {l : List Tx} (hd : l.Nodup) (f : Tx → Int) (x : Tx) : coef (l.filterMap fun y => if f y = 0 then none else some (y, f y)) x = if x ∈ l then f x else 0 := by
  induction l with
  | nil => rfl
  | cons z l ih =>
    rw [List.nodup_cons] at hd
    rw [List.filterMap_cons]
    by_cases hz : f z = 0
    · simp only [hz, if_true]
      rw [ih hd.2]
      by_cases e : x = z
      · subst e
        rw [if_neg hd.1, if_pos List.mem_cons_self, hz]
      · simp [e]
    · simp only [hz, if_false, coef]
      rw [ih hd.2]
      by_cases e : z = x
      · subst e
        rw [if_pos rfl, if_neg hd.1, if_pos List.mem_cons_self]
        omega
      · rw [if_neg e]
        simp [Ne.symm e]
theorem coef_nf (l : Ps) (x : Tx) : coef (nf l) x = coef l x := by
  have hs := sms l
  have hn : (sortT ((sumsA l).map (·.1))).Nodup := (sortT_asc hs.nd).imp fun {a b} h e => by rw [e] at h; exact tx_irr _ h
  unfold nf
  rw [coef_filter hn]
  split
  · rfl
  · rename_i h
    rw [mem_sortT] at h
    refine (coef_none fun p hp e => h ?_).symm
    rw [← e]
    exact hs.all p hp
theorem nf_eq {l m : Ps} (hm : Can m) (h : ∀ x, coef m x = coef l x) : nf l = m := (nf_can l).ext hm fun x => by rw [coef_nf, h]
theorem nf_of {l : Ps} (h : Can l) : nf l = l := nf_eq h fun _ => rfl
theorem nf_congr {l m : Ps} (h : ∀ x, coef l x = coef m x) : nf l = nf m := nf_eq (nf_can m) fun x => by rw [coef_nf, h]
theorem mem_nf {l : Ps} {p : Tx × Int} (h : p ∈ nf l) : p.1 ∈ l.map (·.1) ∧ p.2 = coef l p.1 := by
  unfold nf at h
  rw [List.mem_filterMap] at h
  obtain ⟨x, hx, h⟩ := h
  split at h
  · cases h
  · cases h
    exact ⟨(sms l).sub x (mem_sortT.mp hx), rfl⟩
theorem len_nf (l : Ps) : (nf l).length ≤ (sumsA l).length := by
  unfold nf
  refine Nat.le_trans (List.length_filterMap_le _ _) ?_
  rw [len_sortT, List.length_map]
  exact Nat.le_refl _
theorem len_stepA (a : Ps) (p : Tx × Int) : (stepA a p).length ≤ a.length + 1 := by
  unfold stepA putA
  split
  · simp
  · simp
theorem len_foldA : ∀ (l a : Ps), (l.foldl stepA a).length ≤ a.length + l.length
  | [], a => by simp
  | p :: l, a => by
    have := len_foldA l (stepA a p)
    have := len_stepA a p
    simp only [List.foldl_cons, List.length_cons]
    omega
theorem len_sumsA (l : Ps) : (sumsA l).length ≤ l.length := by
  have := len_foldA l []
  unfold sumsA
  simpa using this
theorem nodup_len : ∀ {l N : List Tx}, l.Nodup → (∀ x ∈ l, x ∈ N) → l.length ≤ N.length
  | [], N, _, _ => Nat.zero_le _
  | x :: l, N, h, hs => by
    rw [List.nodup_cons] at h
    have hx := hs x List.mem_cons_self
    have := nodup_len (l := l) (N := N.erase x) h.2 fun y hy => (List.mem_erase_of_ne (fun e => h.1 (by rw [← e]; exact hy))).mpr (hs y (List.mem_cons_of_mem _ hy))
    rw [List.length_erase_of_mem hx] at this
    have := List.length_pos_of_mem hx
    rw [List.length_cons]
    omega
/-- names of a list of pairs are among few -/
theorem len_names {l : Ps} {N : List Tx} (h : ∀ p ∈ l, p.1 ∈ N) : (sumsA l).length ≤ N.length := by
  have hs := sms l
  have : ((sumsA l).map (·.1)).length ≤ N.length := nodup_len hs.nd fun x hx => by
    obtain ⟨p, hp, rfl⟩ := List.mem_map.mp (hs.sub x hx)
    exact h p hp
  rwa [List.length_map] at this
end Mi
set_option maxRecDepth 100000
/-! Formulas, plain. -/
namespace Mi
abbrev s_least : Tx := [108, 101, 97, 115, 116]
abbrev s_same : Tx := [115, 97, 109, 101]
abbrev s_div : Tx := [100, 105, 118, 105, 100, 101, 115]
abbrev s_spl : Tx := [115, 112, 108, 105, 116, 115]
abbrev s_and : Tx := [97, 110, 100]
abbrev s_or : Tx := [111, 114]
abbrev s_all : Tx := [97, 108, 108]
abbrev s_some : Tx := [115, 111, 109, 101]
/-! ### how much a value is -/
mutual
def msz : MV → Nat
  | .tup l => 1 + mszL l
  | .str s => 1 + s.length
  | _ => 1
def mszL : List MV → Nat
  | [] => 0
  | d :: l => msz d + mszL l
end
@[simp] theorem msz_tup {l : List MV} : msz (.tup l) = 1 + mszL l := by unfold msz; rfl
@[simp] theorem msz_str {s : Tx} : msz (.str s) = 1 + s.length := by unfold msz; rfl
@[simp] theorem msz_int {i : Int} : msz (.int i) = 1 := by unfold msz; rfl
@[simp] theorem mszL_nil : mszL [] = 0 := by unfold mszL; rfl
@[simp] theorem mszL_cons {d : MV} {l : List MV} : mszL (d :: l) = msz d + mszL l := by rw [mszL]
theorem msz_pos (d : MV) : 1 ≤ msz d := by
  cases d <;> simp [msz] <;> omega
@[simp] theorem mszL_app : ∀ {l m : List MV}, mszL (l ++ m) = mszL l + mszL m
  | [], m => by simp
  | d :: l, m => by
    rw [List.cons_append, mszL_cons, mszL_cons, mszL_app]
    omega
theorem mszL_len : ∀ l : List MV, l.length ≤ mszL l
  | [] => Nat.zero_le _
  | d :: l => by
    have := mszL_len l
    have := msz_pos d
    rw [mszL_cons, List.length_cons]
    omega
theorem mszL_mem {d : MV} : ∀ {l : List MV}, d ∈ l → msz d ≤ mszL l
  | e :: l, h => by
    rw [mszL_cons]
    rcases List.mem_cons.mp h with q | q
    · rw [q]; omega
    · have := mszL_mem q
      omega
theorem mszL_map {f : MV → MV} {c : Nat} : ∀ {l : List MV}, (∀ d ∈ l, msz (f d) ≤ c * msz d) → mszL (l.map f) ≤ c * mszL l
  | [], _ => by simp
  | d :: l, h => by
    have h1 := h d List.mem_cons_self
    have h2 := mszL_map (l := l) fun e he => h e (List.mem_cons_of_mem _ he)
    rw [List.map_cons, mszL_cons, mszL_cons, Nat.mul_add]
    omega
/-! ### joined -/
def headM : MV → Tx
  | .tup (.str s :: _) => s
  | _ => []
def partsM : MV → List MV
  | .tup [_, .tup l] => l
  | _ => []
def flatP (k : Tx) (l : List MV) : List MV := l.flatMap fun p => if headM p = k then partsM p else [p]
theorem flatP_app (k : Tx) (l m : List MV) : flatP k (l ++ m) = flatP k l ++ flatP k m := by unfold flatP; rw [List.flatMap_append]
theorem flatP_one (k : Tx) (p : MV) : flatP k [p] = if headM p = k then partsM p else [p] := by unfold flatP; simp
theorem parts_msz (p : MV) : mszL (partsM p) ≤ msz p := by
  unfold partsM
  split
  · simp; omega
  · simp
theorem flatP_msz (k : Tx) : ∀ l : List MV, mszL (flatP k l) ≤ mszL l
  | [] => by simp [flatP]
  | p :: l => by
    have h := flatP_msz k l
    have e : flatP k (p :: l) = flatP k [p] ++ flatP k l := by rw [← flatP_app]; rfl
    rw [e, flatP_one, mszL_app, mszL_cons]
    split
    · have := parts_msz p
      omega
    · simp
      omega
def joinP (k : Tx) (l : List MV) : MV := .tup [.str k, .tup (flatP k l)]
/-! ### the opposite -/
def oth (k : Tx) : Tx := if k = s_and then s_or else if k = s_or then s_and else if k = s_all then s_some else if k = s_some then s_all else if k = s_div then s_spl else s_div
def negM : MV → MV
  | .tup [.str x, .int k] => .tup [.str x, .int (-1 * k)]
  | d => d
def belowM : MV → MV
  | .tup [.int c, .tup l] => .tup [.int (-c - 1), .tup (l.map negM)]
  | d => d
def lessM : MV → MV
  | .tup [.int c, x] => .tup [.int (c - 1), x]
  | d => d
def opp : Nat → MV → MV
  | n + 1, .tup [.str k, x] => if k = s_least then .tup [.str s_least, belowM x] else if k = s_same then .tup [.str s_or, .tup [.tup [.str s_least, lessM x], .tup [.str s_least, belowM x]]] else match x with
    | .tup l => joinP (oth k) (l.map (opp n))
    | _ => .non
  | n + 1, .tup [.str k, a, x] => if k = s_div ∨ k = s_spl then .tup [.str (oth k), a, x] else .tup [.str (oth k), a, opp n x]
  | _, _ => .non
theorem belowM_fm (c : Int) (l : Ps) : belowM (fm c l) = fm (-c - 1) (l.map fun p => (p.1, -1 * p.2)) := by
  show MV.tup [.int (-c - 1), .tup ((l.map pr).map negM)] = fm _ _
  unfold fm
  rw [List.map_map, List.map_map]
  rfl
theorem lessM_fm (c : Int) (l : Ps) : lessM (fm c l) = fm (c - 1) l := rfl
/-- a form, its numbers below b -/
structure CF (b : Nat) (c : Int) (l : Ps) : Prop where
  can : Can l
  len : l.length ≤ 7
  cb : c.natAbs < b
  kb : ∀ p ∈ l, p.2.natAbs < b
theorem CF.neg {b : Nat} {c : Int} {l : Ps} (h : CF b c l) : CF (b + 1) (-c - 1) (l.map fun p => (p.1, -1 * p.2)) := by
  refine ⟨h.can.map (by decide), by rw [List.length_map]; exact h.len, by have := h.cb; omega, fun p hp => ?_⟩
  obtain ⟨q, hq, rfl⟩ := List.mem_map.mp hp
  have := h.kb q hq
  show (-1 * q.2).natAbs < b + 1
  omega
theorem CF.less {b : Nat} {c : Int} {l : Ps} (h : CF b c l) : CF (b + 1) (c - 1) l :=
  ⟨h.can, h.len, by have := h.cb; omega, fun p hp => Nat.lt_succ_of_lt (h.kb p hp)⟩
theorem CF.le {b b' : Nat} (hb : b ≤ b') {c : Int} {l : Ps} (h : CF b c l) : CF b' c l := ⟨h.can, h.len, Nat.lt_of_lt_of_le h.cb hb, fun p hp => Nat.lt_of_lt_of_le (h.kb p hp) hb⟩
/-- a formula nested below n -/
inductive Fm (b : Nat) : Nat → MV → Prop
  | least {n : Nat} {c : Int} {l : Ps} (h : CF b c l) : Fm b (n + 1) (.tup [.str s_least, fm c l])
  | same {n : Nat} {c : Int} {l : Ps} (h : CF b c l) : Fm b (n + 1) (.tup [.str s_same, fm c l])
  | rest {n : Nat} {k : Tx} {d c : Int} {l : Ps} (hk : k = s_div ∨ k = s_spl) (h1 : 1 ≤ d) (h2 : d < 1000) (h : CF b c l) : Fm b (n + 1) (.tup [.str k, .int d, fm c l])
  | join {n : Nat} {k : Tx} {l : List MV} (hk : k = s_and ∨ k = s_or) (h : ∀ p ∈ l, Fm b n p) : Fm b (n + 1) (.tup [.str k, .tup l])
  | turn {n : Nat} {k x : Tx} {p : MV} (hk : k = s_all ∨ k = s_some) (h : Fm b n p) : Fm b (n + 1) (.tup [.str k, .str x, p])
theorem Fm.mono {b b' n : Nat} {F : MV} (hb : b ≤ b') (h : Fm b n F) : ∀ m, n ≤ m → Fm b' m F := by
  induction h with
  | least h => intro m hm; obtain ⟨m, rfl⟩ : ∃ k, m = k + 1 := ⟨m - 1, by omega⟩; exact .least (h.le hb)
  | same h => intro m hm; obtain ⟨m, rfl⟩ : ∃ k, m = k + 1 := ⟨m - 1, by omega⟩; exact .same (h.le hb)
  | rest hk h1 h2 h => intro m hm; obtain ⟨m, rfl⟩ : ∃ k, m = k + 1 := ⟨m - 1, by omega⟩; exact .rest hk h1 h2 (h.le hb)
  | join hk h ih => intro m hm; obtain ⟨m, rfl⟩ : ∃ k, m = k + 1 := ⟨m - 1, by omega⟩; exact .join hk fun p hp => ih p hp m (by omega)
  | turn hk h ih => intro m hm; obtain ⟨m, rfl⟩ : ∃ k, m = k + 1 := ⟨m - 1, by omega⟩; exact .turn hk (ih m (by omega))
theorem Fm.pu {b n : Nat} {F : MV} (h : Fm b n F) : Pu F := by
  induction h with
  | least h => simp [pu_fm]
  | same h => simp [pu_fm]
  | rest hk h1 h2 h => simp [pu_fm]
  | join hk h ih => simp; exact Pu.tup ih
  | turn hk h ih => simp [ih]
theorem Fm.head {b n : Nat} {F : MV} (h : Fm b n F) : ∃ k r, F = .tup (.str k :: r) ∧ headM F = k := by
  cases h <;> exact ⟨_, _, rfl, rfl⟩
/-- the parts of a joined formula are formulas -/
theorem Fm.parts {b n : Nat} {F : MV} (h : Fm b (n + 1) F) {k : Tx} (hk : k = s_and ∨ k = s_or) (he : headM F = k) : F = .tup [.str k, .tup (partsM F)] ∧ ∀ p ∈ partsM F, Fm b n p := by
  cases h with
  | join hk' h =>
    have he : _ = k := he
    subst he
    exact ⟨rfl, h⟩
  | least h => have he : s_least = k := he; subst he; rcases hk with h | h <;> exact absurd h (by decide)
  | same h => have he : s_same = k := he; subst he; rcases hk with h | h <;> exact absurd h (by decide)
  | rest hk' h1 h2 h =>
    simp only [headM] at he
    subst he
    rcases hk with h | h <;> rcases hk' with h' | h' <;> exact absurd (h'.symm.trans h) (by decide)
  | turn hk' h =>
    simp only [headM] at he
    subst he
    rcases hk with h | h <;> rcases hk' with h' | h' <;> exact absurd (h'.symm.trans h) (by decide)
theorem joinP_fm {b n : Nat} {k : Tx} {l : List MV} (hk : k = s_and ∨ k = s_or) (h : ∀ p ∈ l, Fm b (n + 1) p) : Fm b (n + 2) (joinP k l) := by
  refine .join hk fun p hp => ?_
  unfold flatP at hp
  obtain ⟨q, hq, hp⟩ := List.mem_flatMap.mp hp
  split at hp
  · rename_i he
    exact ((h q hq).parts hk he).2 p hp |>.mono (Nat.le_refl _) _ (Nat.le_succ _)
  · have : p = q := by simpa using hp
    rw [this]
    exact h q hq
theorem oth_join {k : Tx} (hk : k = s_and ∨ k = s_or) : oth k = s_and ∨ oth k = s_or := by
  rcases hk with rfl | rfl
  · exact .inr rfl
  · exact .inl rfl
theorem opp_join {n : Nat} {k : Tx} {l : List MV} (hk : k = s_and ∨ k = s_or) : opp (n + 1) (.tup [.str k, .tup l]) = joinP (oth k) (l.map (opp n)) := by
  rcases hk with rfl | rfl
  · simp only [opp]
    rw [if_neg (by decide), if_neg (by decide)]
  · simp only [opp]
    rw [if_neg (by decide), if_neg (by decide)]
theorem opp_fm {b n : Nat} {F : MV} (h : Fm b n F) : Fm (b + 1) (n + 1) (opp n F) := by
  induction h with
  | least h => simp only [opp, if_true]; rw [belowM_fm]; exact .least h.neg
  | same h =>
    simp only [opp]
    rw [if_neg (by decide), if_pos trivial, belowM_fm, lessM_fm]
    refine .join (.inr rfl) fun p hp => ?_
    rcases List.mem_cons.mp hp with q | hp
    · rw [q]; exact .least h.less
    · rcases List.mem_cons.mp hp with q | hp
      · rw [q]; exact .least h.neg
      · cases hp
  | rest hk h1 h2 h =>
    simp only [opp]
    rw [if_pos hk]
    refine .rest ?_ h1 h2 (h.le (Nat.le_succ _))
    rcases hk with rfl | rfl
    · exact .inr rfl
    · exact .inl rfl
  | join hk h ih =>
    rw [opp_join hk]
    exact joinP_fm (oth_join hk) fun p hp => by
      obtain ⟨q, hq, rfl⟩ := List.mem_map.mp hp
      exact ih q hq
  | turn hk h ih =>
    simp only [opp]
    rcases hk with rfl | rfl
    · rw [if_neg (by decide)]
      exact .turn (.inr rfl) ih
    · rw [if_neg (by decide)]
      exact .turn (.inl rfl) ih
theorem msz_fm {c : Int} {l : Ps} : msz (fm c l) = 3 + mszL (l.map pr) := by
  unfold fm
  simp
  omega
theorem mszL_neg {f : Int} {l : Ps} : mszL ((l.map fun p => (p.1, f * p.2)).map pr) = mszL (l.map pr) := by
  induction l with
  | nil => rfl
  | cons p l ih =>
    simp only [List.map_cons, mszL_cons, ih]
    simp [pr]
theorem oth_len (k : Tx) (h : k = s_and ∨ k = s_or ∨ k = s_all ∨ k = s_some ∨ k = s_div ∨ k = s_spl) : (oth k).length ≤ 7 ∧ 2 ≤ k.length ∧ (oth k).length ≤ k.length + 2 := by
  rcases h with rfl | rfl | rfl | rfl | rfl | rfl <;> decide
theorem opp_msz {b n : Nat} {F : MV} (h : Fm b n F) : msz (opp n F) ≤ 3 * msz F := by
  induction h with
  | least h =>
    simp only [opp, if_true]
    rw [belowM_fm, msz_tup, msz_tup]
    have e := mszL_neg (f := -1) (l := ‹Ps›)
    simp only [mszL_cons, mszL_nil, msz_fm, e, msz_str]
    omega
  | same h =>
    simp only [opp]
    rw [if_neg (by decide), if_pos trivial, belowM_fm, lessM_fm]
    have e := mszL_neg (f := -1) (l := ‹Ps›)
    simp only [msz_tup, mszL_cons, mszL_nil, msz_fm, e, msz_str, List.length_cons, List.length_nil]
    omega
  | @rest n k d c l hk h1 h2 h =>
    simp only [opp]
    rw [if_pos hk]
    have := oth_len k (by rcases hk with h | h <;> simp [h])
    simp [msz_fm]
    omega
  | @join n k l hk h ih =>
    rw [opp_join hk]
    have := oth_len k (by rcases hk with h | h <;> simp [h])
    have h1 := flatP_msz (oth k) (l.map (opp n))
    have h2 : mszL (l.map (opp n)) ≤ 3 * mszL l := mszL_map ih
    simp [joinP]
    omega
  | @turn n k x p hk h ih =>
    have := oth_len k (by rcases hk with h | h <;> simp [h])
    simp only [opp]
    have hn : ¬ (k = s_div ∨ k = s_spl) := by rcases hk with rfl | rfl <;> decide
    rw [if_neg hn]
    simp
    omega
theorem Fm.shape {b n : Nat} {F : MV} (h : Fm b n F) : ∃ k' x r, F = .tup (.str k' :: x :: r) ∧ Pu F ∧ ∀ k, (k = s_and ∨ k = s_or) → k' = k → ∃ m, x = .tup m ∧ r = [] := by
  have hp := h.pu
  cases h with
  | least h => exact ⟨_, _, _, rfl, hp, fun k hk e => by subst e; rcases hk with h | h <;> exact absurd h (by decide)⟩
  | same h => exact ⟨_, _, _, rfl, hp, fun k hk e => by subst e; rcases hk with h | h <;> exact absurd h (by decide)⟩
  | rest hk' h1 h2 h => exact ⟨_, _, _, rfl, hp, fun k hk e => by subst e; rcases hk with h | h <;> rcases hk' with h' | h' <;> exact absurd (h'.symm.trans h) (by decide)⟩
  | join hk' h => exact ⟨_, _, _, rfl, hp, fun k hk e => ⟨_, rfl, rfl⟩⟩
  | turn hk' h => exact ⟨_, _, _, rfl, hp, fun k hk e => by subst e; rcases hk with h | h <;> rcases hk' with h' | h' <;> exact absurd (h'.symm.trans h) (by decide)⟩
/-! ### what stands in a dict -/
theorem kEq_str {m : MV} {x : Tx} (h : kEq m (.str x) = true) : m = .str x := by
  cases m with
  | str s => rw [of_decide_eq_true h]
  | _ => cases h
theorem getD_putD (l : List (MV × MV)) (x y : Tx) (d : MV) : getD (putD l (.str x) d) (.str y) = if x = y then some d else getD l (.str y) := by
  unfold putD
  by_cases ha : l.any fun p => kEq p.1 (.str x)
  · rw [if_pos ha]
    unfold getD
    rw [List.find?_map]
    have hq : ((fun p : MV × MV => kEq p.1 (.str y)) ∘ fun p : MV × MV => if kEq p.1 (.str x) = true then (p.1, d) else p) = fun p => kEq p.1 (.str y) := by
      funext p
      show kEq (if kEq p.1 (.str x) = true then (p.1, d) else p).1 (.str y) = _
      split <;> rfl
    rw [hq, Option.map_map]
    by_cases e : x = y
    · subst e
      rw [if_pos rfl]
      obtain ⟨p, hp, hk⟩ := List.any_eq_true.mp ha
      cases hf : l.find? fun p => kEq p.1 (.str x) with
      | none => exact absurd hk (List.find?_eq_none.mp hf p hp)
      | some q =>
        have := List.find?_some hf
        show some _ = some d
        simp [this]
    · rw [if_neg e]
      cases hf : l.find? fun p => kEq p.1 (.str y) with
      | none => rfl
      | some q =>
        have h0 := List.find?_some hf
        have h1 := kEq_str h0
        have h2 : kEq q.1 (.str x) = false := by
          rw [h1]
          show decide (y = x) = false
          exact decide_eq_false fun z => e z.symm
        show some _ = some q.2
        simp [h2]
  · rw [if_neg ha]
    unfold getD
    rw [List.find?_append]
    by_cases e : x = y
    · subst e
      rw [if_pos rfl]
      have : l.find? (fun p => kEq p.1 (.str x)) = none := List.find?_eq_none.mpr fun p hp hk => ha (List.any_eq_true.mpr ⟨p, hp, hk⟩)
      rw [this]
      simp [kEq]
    · rw [if_neg e]
      have : kEq (MV.str x) (MV.str y) = false := decide_eq_false e
      simp [this]
theorem putAll_app : ∀ (a b l0 : List (MV × MV)), putAll l0 (a ++ b) = putAll (putAll l0 a) b
  | [], _, _ => rfl
  | (_, _) :: a, b, _ => putAll_app a b _
/-- names and forms -/
abbrev Tb := List (Tx × Int × Ps)
def tbD (t : Tb) : List (MV × MV) := putAll [] (t.map fun q => (.str q.1, fm q.2.1 q.2.2))
def tbG (t : Tb) (x : Tx) : Option (Int × Ps) := (t.reverse.find? fun q => decide (q.1 = x)).map (·.2)
theorem tbD_snoc (t : Tb) (q : Tx × Int × Ps) : tbD (t ++ [q]) = putD (tbD t) (.str q.1) (fm q.2.1 q.2.2) := by
  unfold tbD
  rw [List.map_append, putAll_app]
  rfl
theorem tbG_snoc (t : Tb) (q : Tx × Int × Ps) (x : Tx) : tbG (t ++ [q]) x = if q.1 = x then some q.2 else tbG t x := by
  unfold tbG
  rw [List.reverse_append]
  by_cases h : q.1 = x
  · simp [h]
  · simp [h]
theorem tb_get (t : Tb) (x : Tx) : getD (tbD t) (.str x) = (tbG t x).map fun g => fm g.1 g.2 := by
  have key : ∀ r : Tb, getD (tbD r.reverse) (.str x) = (tbG r.reverse x).map fun g => fm g.1 g.2 := by
    intro r
    induction r with
    | nil => rfl
    | cons q r ih =>
      rw [List.reverse_cons, tbD_snoc, tbG_snoc, getD_putD, ih]
      split <;> rfl
  have := key t.reverse
  rwa [List.reverse_reverse] at this
theorem tbG_mem {t : Tb} {x : Tx} {g : Int × Ps} (h : tbG t x = some g) : ∃ q ∈ t, q.2 = g := by
  unfold tbG at h
  obtain ⟨q, hq, e⟩ := Option.map_eq_some_iff.mp h
  exact ⟨q, by simpa using List.mem_of_find?_eq_some hq, e⟩
theorem tbD_len (t : Tb) : (tbD t).length ≤ t.length := by
  have key : ∀ r : Tb, (tbD r.reverse).length ≤ r.length := by
    intro r
    induction r with
    | nil => exact Nat.le_refl _
    | cons q r ih =>
      rw [List.reverse_cons, tbD_snoc, List.length_cons]
      have : ∀ (l : List (MV × MV)) (k d : MV), (putD l k d).length ≤ l.length + 1 := fun l k d => by
        unfold putD
        split <;> simp
      have := this (tbD r.reverse) (.str q.1) (fm q.2.1 q.2.2)
      omega
  have := key t.reverse
  rwa [List.reverse_reverse, List.length_reverse] at this
/-- what comes of a name's number -/
def imPs (t : Tb) (p : Tx × Int) : Ps := match tbG t p.1 with
  | some g => g.2.map fun r => (r.1, p.2 * r.2)
  | none => [p]
def imC (t : Tb) (c : Int) (l : Ps) : Int := l.foldl (fun c p => match tbG t p.1 with
  | some g => c + p.2 * g.1
  | none => c) c
/-- a form with names replaced -/
def imF (t : Tb) (c : Int) (l : Ps) : MV := fm (imC t c l) (nf (l.flatMap (imPs t)))
/-! ### data -/
inductive Dat : Nat → MV → Prop
  | int {n : Nat} {i : Int} : Dat n (.int i)
  | str {n : Nat} {s : Tx} (h : s.length ≤ 1000000) : Dat n (.str s)
  | tup {n : Nat} {l : List MV} (hl : l.length ≤ 1000000) (h : ∀ d ∈ l, Dat n d) : Dat (n + 1) (.tup l)
theorem Dat.mono {n : Nat} {d : MV} (h : Dat n d) : ∀ m, n ≤ m → Dat m d := by
  induction h with
  | int => intro m _; exact .int
  | str h => intro m _; exact .str h
  | tup hl h ih => intro m hm; obtain ⟨m, rfl⟩ : ∃ k, m = k + 1 := ⟨m - 1, by omega⟩; exact .tup hl fun d hd => ih d hd m (by omega)
theorem Dat.pu {n : Nat} {d : MV} (h : Dat n d) : Pu d := by
  induction h with
  | int => exact pu_int
  | str h => exact pu_str
  | tup hl h ih => exact Pu.tup ih
theorem dat_pr {n : Nat} {p : Tx × Int} (h : p.1.length ≤ 1000000) : Dat (n + 1) (pr p) := .tup (by simp) fun d hd => by
  rcases List.mem_cons.mp hd with e | hd
  · rw [e]; exact .str h
  · have : d = .int p.2 := by simpa using hd
    rw [this]; exact .int
theorem dat_fm {n : Nat} {c : Int} {l : Ps} (hl : l.length ≤ 1000000) (h : ∀ p ∈ l, p.1.length ≤ 1000000) : Dat (n + 3) (fm c l) := .tup (by simp) fun d hd => by
  rcases List.mem_cons.mp hd with e | hd
  · rw [e]; exact .int
  · have : d = .tup (l.map pr) := by simpa using hd
    rw [this]
    refine .tup (by simpa using hl) fun d hd => ?_
    obtain ⟨p, hp, rfl⟩ := List.mem_map.mp hd
    exact dat_pr (h p hp)
/-- the form that a value is -/
def prM : MV → Option (Tx × Int)
  | .tup [.str x, .int k] => some (x, k)
  | _ => none
def psM : MV → Option (Int × Ps)
  | .tup [.int c, .tup l] => (l.mapM prM).map fun l => (c, l)
  | _ => none
theorem psM_fm (c : Int) (l : Ps) : psM (fm c l) = some (c, l) := by
  show ((l.map pr).mapM prM).map _ = _
  have : (l.map pr).mapM prM = some l := by
    induction l with
    | nil => rfl
    | cons p l ih =>
      rw [List.map_cons, List.mapM_cons, ih]
      rfl
  rw [this]
  rfl
end Mi
set_option maxRecDepth 100000
/-! Formulas without turns: what they say. -/
namespace Mi
/-- a formula without turns over names N, nested below n -/
inductive Fz (b : Nat) (N : List Tx) : Nat → MV → Prop
  | least {n : Nat} {c : Int} {l : Ps} (h : CF b c l) (hN : ∀ p ∈ l, p.1 ∈ N) : Fz b N (n + 1) (.tup [.str s_least, fm c l])
  | same {n : Nat} {c : Int} {l : Ps} (h : CF b c l) (hN : ∀ p ∈ l, p.1 ∈ N) : Fz b N (n + 1) (.tup [.str s_same, fm c l])
  | rest {n : Nat} {k : Tx} {d c : Int} {l : Ps} (hk : k = s_div ∨ k = s_spl) (h1 : 1 ≤ d) (h2 : d < 1000) (h : CF b c l) (hN : ∀ p ∈ l, p.1 ∈ N) : Fz b N (n + 1) (.tup [.str k, .int d, fm c l])
  | join {n : Nat} {k : Tx} {l : List MV} (hk : k = s_and ∨ k = s_or) (h : ∀ p ∈ l, Fz b N n p) : Fz b N (n + 1) (.tup [.str k, .tup l])
section
variable {b : Nat} {N : List Tx}
theorem Fz.fm {n : Nat} {F : MV} (h : Fz b N n F) : Fm b n F := by
  induction h with
  | least h hN => exact .least h
  | same h hN => exact .same h
  | rest hk h1 h2 h hN => exact .rest hk h1 h2 h
  | join hk h ih => exact .join hk ih
theorem Fz.mono {b' n : Nat} {F : MV} (hb : b ≤ b') (h : Fz b N n F) : ∀ m, n ≤ m → Fz b' N m F := by
  induction h with
  | least h hN => intro m hm; obtain ⟨m, rfl⟩ : ∃ k, m = k + 1 := ⟨m - 1, by omega⟩; exact .least (h.le hb) hN
  | same h hN => intro m hm; obtain ⟨m, rfl⟩ : ∃ k, m = k + 1 := ⟨m - 1, by omega⟩; exact .same (h.le hb) hN
  | rest hk h1 h2 h hN => intro m hm; obtain ⟨m, rfl⟩ : ∃ k, m = k + 1 := ⟨m - 1, by omega⟩; exact .rest hk h1 h2 (h.le hb) hN
  | join hk h ih => intro m hm; obtain ⟨m, rfl⟩ : ∃ k, m = k + 1 := ⟨m - 1, by omega⟩; exact .join hk fun p hp => ih p hp m (by omega)
theorem Fz.parts {n : Nat} {F : MV} (h : Fz b N (n + 1) F) {k : Tx} (hk : k = s_and ∨ k = s_or) (he : headM F = k) : F = .tup [.str k, .tup (partsM F)] ∧ ∀ p ∈ partsM F, Fz b N n p := by
  have h0 := (h.fm.parts hk he).1
  refine ⟨h0, ?_⟩
  cases h with
  | join hk' h => exact h
  | least h hN => have he : s_least = k := he; subst he; rcases hk with h | h <;> exact absurd h (by decide)
  | same h hN => have he : s_same = k := he; subst he; rcases hk with h | h <;> exact absurd h (by decide)
  | rest hk' h1 h2 h hN =>
    simp only [headM] at he
    subst he
    rcases hk with h | h <;> rcases hk' with h' | h' <;> exact absurd (h'.symm.trans h) (by decide)
theorem joinP_fz {n : Nat} {k : Tx} {l : List MV} (hk : k = s_and ∨ k = s_or) (h : ∀ p ∈ l, Fz b N (n + 1) p) : Fz b N (n + 2) (joinP k l) := by
  refine .join hk fun p hp => ?_
  unfold flatP at hp
  obtain ⟨q, hq, hp⟩ := List.mem_flatMap.mp hp
  split at hp
  · rename_i he
    exact ((h q hq).parts hk he).2 p hp |>.mono (Nat.le_refl _) _ (Nat.le_succ _)
  · have : p = q := by simpa using hp
    rw [this]
    exact h q hq
theorem negN {l : Ps} (h : ∀ p ∈ l, p.1 ∈ N) : ∀ p ∈ l.map (fun p => (p.1, -1 * p.2)), p.1 ∈ N := fun p hp => by
  obtain ⟨q, hq, rfl⟩ := List.mem_map.mp hp
  exact h q hq
theorem opp_fz {n : Nat} {F : MV} (h : Fz b N n F) : Fz (b + 1) N (n + 1) (opp n F) := by
  induction h with
  | least h hN => simp only [opp, if_true]; rw [belowM_fm]; exact .least h.neg (negN hN)
  | same h hN =>
    simp only [opp]
    rw [if_neg (by decide), if_pos trivial, belowM_fm, lessM_fm]
    refine .join (.inr rfl) fun p hp => ?_
    rcases List.mem_cons.mp hp with q | hp
    · rw [q]; exact .least h.less hN
    · rcases List.mem_cons.mp hp with q | hp
      · rw [q]; exact .least h.neg (negN hN)
      · cases hp
  | rest hk h1 h2 h hN =>
    simp only [opp]
    rw [if_pos hk]
    refine .rest ?_ h1 h2 (h.le (Nat.le_succ _)) hN
    rcases hk with rfl | rfl
    · exact .inr rfl
    · exact .inl rfl
  | join hk h ih =>
    rw [opp_join hk]
    exact joinP_fz (oth_join hk) fun p hp => by
      obtain ⟨q, hq, rfl⟩ := List.mem_map.mp hp
      exact ih q hq
/-! ### what is said -/
def fvS (ρ : Tx → Int) : Ps → Int
  | [] => 0
  | p :: l => p.2 * ρ p.1 + fvS ρ l
def fv (ρ : Tx → Int) (c : Int) (l : Ps) : Int := c + fvS ρ l
theorem fvS_app (ρ : Tx → Int) : ∀ l m : Ps, fvS ρ (l ++ m) = fvS ρ l + fvS ρ m
  | [], m => by simp [fvS]
  | p :: l, m => by
    rw [List.cons_append, fvS, fvS, fvS_app, Int.add_assoc]
theorem fvS_neg (ρ : Tx → Int) : ∀ l : Ps, fvS ρ (l.map fun p => (p.1, -1 * p.2)) = - fvS ρ l
  | [] => rfl
  | p :: l => by
    rw [List.map_cons, fvS, fvS, fvS_neg]
    have : -1 * p.2 * ρ p.1 = - (p.2 * ρ p.1) := by rw [Int.mul_assoc, Int.neg_mul, Int.one_mul]
    show -1 * p.2 * ρ p.1 + _ = _
    rw [this]
    omega
theorem fv_neg (ρ : Tx → Int) (c : Int) (l : Ps) : fv ρ (-c - 1) (l.map fun p => (p.1, -1 * p.2)) = - fv ρ c l - 1 := by
  unfold fv
  rw [fvS_neg]
  omega
/-- a form's number -/
def tvF (ρ : Tx → Int) (p : Int → Bool) (x : MV) : Bool := match psM x with
  | some (c, l) => p (fv ρ c l)
  | none => false
def tv (ρ : Tx → Int) : Nat → MV → Bool
  | n + 1, .tup [.str k, x] => if k = s_least then tvF ρ (fun i => decide (0 ≤ i)) x else if k = s_same then tvF ρ (fun i => decide (i = 0)) x else match x with
    | .tup l => if k = s_and then l.all (tv ρ n) else l.any (tv ρ n)
    | _ => false
  | _ + 1, .tup [.str k, .int d, x] => tvF ρ (fun i => decide (decide (i - i / d * d = 0) = decide (k = s_div))) x
  | _, _ => false
theorem tv_least {ρ : Tx → Int} {n : Nat} {c : Int} {l : Ps} : tv ρ (n + 1) (.tup [.str s_least, Mi.fm c l]) = decide (0 ≤ fv ρ c l) := by
  simp only [tv, if_true, tvF, psM_fm]
theorem tv_same {ρ : Tx → Int} {n : Nat} {c : Int} {l : Ps} : tv ρ (n + 1) (.tup [.str s_same, Mi.fm c l]) = decide (fv ρ c l = 0) := by
  simp only [tv, tvF, psM_fm]
  rw [if_neg (by decide), if_pos trivial]
theorem tv_rest {ρ : Tx → Int} {n : Nat} {k : Tx} {d c : Int} {l : Ps} : tv ρ (n + 1) (.tup [.str k, .int d, Mi.fm c l]) = decide (decide (fv ρ c l - fv ρ c l / d * d = 0) = decide (k = s_div)) := by
  simp only [tv, tvF, psM_fm]
theorem tv_and {ρ : Tx → Int} {n : Nat} {l : List MV} : tv ρ (n + 1) (.tup [.str s_and, .tup l]) = l.all (tv ρ n) := by
  simp only [tv]
  rw [if_neg (by decide), if_neg (by decide), if_pos trivial]
theorem tv_or {ρ : Tx → Int} {n : Nat} {l : List MV} : tv ρ (n + 1) (.tup [.str s_or, .tup l]) = l.any (tv ρ n) := by
  simp only [tv]
  rw [if_neg (by decide), if_neg (by decide), if_neg (by decide)]
theorem all_congr {α : Type} {p q : α → Bool} : ∀ {l : List α}, (∀ x ∈ l, p x = q x) → l.all p = l.all q
  | [], _ => rfl
  | x :: l, h => by rw [List.all_cons, List.all_cons, h x List.mem_cons_self, all_congr fun y hy => h y (List.mem_cons_of_mem _ hy)]
theorem any_congr {α : Type} {p q : α → Bool} : ∀ {l : List α}, (∀ x ∈ l, p x = q x) → l.any p = l.any q
  | [], _ => rfl
  | x :: l, h => by rw [List.any_cons, List.any_cons, h x List.mem_cons_self, any_congr fun y hy => h y (List.mem_cons_of_mem _ hy)]
theorem tv_mono {ρ : Tx → Int} {n : Nat} {F : MV} (h : Fz b N n F) : tv ρ (n + 1) F = tv ρ n F := by
  induction h with
  | least h hN => rw [tv_least, tv_least]
  | same h hN => rw [tv_same, tv_same]
  | rest hk h1 h2 h hN => rw [tv_rest, tv_rest]
  | join hk h ih =>
    rcases hk with rfl | rfl
    · rw [tv_and, tv_and, all_congr ih]
    · rw [tv_or, tv_or, any_congr ih]
theorem flat_all {ρ : Tx → Int} {n : Nat} : ∀ {l : List MV}, (∀ p ∈ l, Fz b N (n + 1) p) → (flatP s_and l).all (tv ρ (n + 1)) = l.all (tv ρ (n + 1))
  | [], _ => rfl
  | p :: l, h => by
    have e : flatP s_and (p :: l) = flatP s_and [p] ++ flatP s_and l := by rw [← flatP_app]; rfl
    rw [e, List.all_append, flat_all fun q hq => h q (List.mem_cons_of_mem _ hq), List.all_cons, flatP_one]
    congr 1
    by_cases he : headM p = s_and
    · rw [if_pos he]
      obtain ⟨h1, h2⟩ := (h p List.mem_cons_self).parts (.inl rfl) he
      rw [all_congr fun q hq => tv_mono (h2 q hq), ← tv_and, ← h1]
    · rw [if_neg he]
      simp
theorem flat_any {ρ : Tx → Int} {n : Nat} : ∀ {l : List MV}, (∀ p ∈ l, Fz b N (n + 1) p) → (flatP s_or l).any (tv ρ (n + 1)) = l.any (tv ρ (n + 1))
  | [], _ => rfl
  | p :: l, h => by
    have e : flatP s_or (p :: l) = flatP s_or [p] ++ flatP s_or l := by rw [← flatP_app]; rfl
    rw [e, List.any_append, flat_any fun q hq => h q (List.mem_cons_of_mem _ hq), List.any_cons, flatP_one]
    congr 1
    by_cases he : headM p = s_or
    · rw [if_pos he]
      obtain ⟨h1, h2⟩ := (h p List.mem_cons_self).parts (.inr rfl) he
      rw [any_congr fun q hq => tv_mono (h2 q hq), ← tv_or, ← h1]
    · rw [if_neg he]
      simp
theorem not_all {α : Type} {p : α → Bool} : ∀ {l : List α}, (l.any fun x => !p x) = !l.all p
  | [] => rfl
  | x :: l => by rw [List.any_cons, List.all_cons, not_all]; cases p x <;> simp
theorem not_any {α : Type} {p : α → Bool} : ∀ {l : List α}, (l.all fun x => !p x) = !l.any p
  | [] => rfl
  | x :: l => by rw [List.any_cons, List.all_cons, not_any]; cases p x <;> simp
/-- the opposite says the opposite -/
theorem tv_opp {ρ : Tx → Int} {n : Nat} {F : MV} (h : Fz b N n F) : tv ρ (n + 1) (opp n F) = !tv ρ n F := by
  induction h with
  | least h hN =>
    simp only [opp, if_true]
    rw [belowM_fm, tv_least, tv_least, fv_neg, ← decide_not]
    exact decide_eq_decide.mpr (by omega)
  | same h hN =>
    simp only [opp]
    rw [if_neg (by decide), if_pos trivial, belowM_fm, lessM_fm, tv_or, tv_same]
    simp only [List.any_cons, List.any_nil, Bool.or_false]
    rw [tv_least, tv_least, fv_neg, ← decide_not, ← Bool.decide_or]
    refine decide_eq_decide.mpr ?_
    unfold fv
    omega
  | rest hk h1 h2 h hN =>
    simp only [opp]
    rw [if_pos hk, tv_rest, tv_rest]
    rcases hk with rfl | rfl
    · have e1 : decide (oth s_div = s_div) = false := by decide
      have e2 : decide (s_div = s_div) = true := by decide
      rw [e1, e2]
      generalize decide (_ = (0 : Int)) = q
      cases q <;> rfl
    · have e1 : decide (oth s_spl = s_div) = true := by decide
      have e2 : decide (s_spl = s_div) = false := by decide
      rw [e1, e2]
      generalize decide (_ = (0 : Int)) = q
      cases q <;> rfl
  | @join n k l hk h ih =>
    have hz : ∀ p ∈ l.map (opp n), Fz (b + 1) N (n + 1) p := fun p hp => by
      obtain ⟨q, hq, rfl⟩ := List.mem_map.mp hp
      exact opp_fz (h q hq)
    rw [opp_join hk]
    unfold joinP
    rcases hk with rfl | rfl
    · have e : oth s_and = s_or := rfl
      rw [e, tv_or, flat_any hz, List.any_map, tv_and, ← not_all]
      exact any_congr ih
    · have e : oth s_or = s_and := rfl
      rw [e, tv_and, flat_all hz, List.all_map, tv_or, ← not_any]
      exact all_congr ih
end
end Mi
set_option maxRecDepth 100000
/-! Atoms and names of formulas; comprehensions that leave things behind. -/
namespace Mi
section
variable {E : MX → Hm → Prop} {M : Hm} {env : Env} {e ek ev : Fe} {c c1 : Ft} {g g1 : Ftg} {it1 : Fi} {vs1 : List Nat}
/-- two clauses without tests; the heap may grow -/
theorem w_lc2G {Ql : List MV → Hm → Prop} {ni : Ni} {l : List MV} (f : MV → List MV) (hw : ∀ G, Wk ni l (M ++ G))
    (step : ∀ d ∈ l, ∀ (G : Hm) (acc : List MV) (K : List MV → Hm → Prop), (∀ G', K (acc ++ f d) (M ++ G')) → acc.length + (f d).length ≤ SL → wp (g d env (M ++ G)) (fun e1 M1 => wp (it1 e1 M1) (fun p M3 => wp (lcGo p.1 g1 c1 e (wipeE e1 vs1) p.2 0 acc M3) K FF) FF) FF)
    (hl : (l.flatMap f).length ≤ SL) (h : ∀ G, Ql (l.flatMap f) (M ++ G)) (G0 : Hm) : wp (lc2Go ni g cYes it1 g1 c1 e vs1 env (l.length + 1) 0 [] (M ++ G0)) Ql E := by
  have key : ∀ (n k : Nat) (G : Hm), k + n = l.length + 1 → k ≤ l.length → wp (lc2Go ni g cYes it1 g1 c1 e vs1 env n k ((l.take k).flatMap f) (M ++ G)) Ql E := by
    intro n
    induction n with
    | zero => intro k G h1 h2; omega
    | succ n ih =>
      intro k G h1 h2
      show wp (match ni (M ++ G) k with
        | none => .bad
        | some none => .ok ((l.take k).flatMap f) (M ++ G)
        | some (some x) => (g x env (M ++ G)).bindN fun env1 M1 => (cYes env1 M1).bindN fun b M2 =>
          if b then (it1 env1 M2).bindN fun p M3 => (lcGo p.1 g1 c1 e (wipeE env1 vs1) p.2 0 ((l.take k).flatMap f) M3).bindN fun acc' M4 => lc2Go ni g cYes it1 g1 c1 e vs1 env n (k + 1) acc' M4
          else lc2Go ni g cYes it1 g1 c1 e vs1 env n (k + 1) ((l.take k).flatMap f) M2) Ql E
      rw [hw G k]
      by_cases hk : k < l.length
      · rw [List.getElem?_eq_getElem hk]
        have ht : l.take (k + 1) = l.take k ++ [l[k]] := by
          rw [List.take_add_one, List.getElem?_eq_getElem hk]
          rfl
        have ih' := fun G' => ih (k + 1) G' (by omega) (by omega)
        rw [ht, List.flatMap_append] at ih'
        have hlen : ((l.take k).flatMap f).length + (f l[k]).length ≤ SL := by
          have e1 : l = l.take k ++ l[k] :: l.drop (k + 1) := by
            rw [List.getElem_cons_drop, List.take_append_drop]
          have : (l.flatMap f).length = ((l.take k).flatMap f).length + ((f l[k]).length + ((l.drop (k + 1)).flatMap f).length) := by
            have := congrArg (fun z => (z.flatMap f).length) e1
            simp only [List.flatMap_append, List.flatMap_cons, List.length_append] at this
            exact this
          omega
        have hs := step l[k] (List.getElem_mem hk) G ((l.take k).flatMap f) (fun acc' M4 => wp (lc2Go ni g cYes it1 g1 c1 e vs1 env n (k + 1) acc' M4) Ql E) (fun G' => by simpa using ih' G') hlen
        show wp ((g l[k] env (M ++ G)).bindN fun env1 M1 => (cYes env1 M1).bindN fun b M2 =>
          if b then (it1 env1 M2).bindN fun p M3 => (lcGo p.1 g1 c1 e (wipeE env1 vs1) p.2 0 ((l.take k).flatMap f) M3).bindN fun acc' M4 => lc2Go ni g cYes it1 g1 c1 e vs1 env n (k + 1) acc' M4
          else lc2Go ni g cYes it1 g1 c1 e vs1 env n (k + 1) ((l.take k).flatMap f) M2) Ql E
        rw [wp_bindN]
        refine wp_mono hs (fun e1 M1 h1 => ?_) fun _ _ z => z
        rw [wp_bindN, w_cYes]
        show wp ((it1 e1 M1).bindN fun p M3 => (lcGo p.1 g1 c1 e (wipeE e1 vs1) p.2 0 ((l.take k).flatMap f) M3).bindN fun acc' M4 => lc2Go ni g cYes it1 g1 c1 e vs1 env n (k + 1) acc' M4) Ql E
        rw [wp_bindN]
        refine wp_mono h1 (fun p M3 h3 => ?_) fun _ _ z => z
        rw [wp_bindN]
        exact h3
      · have e0 : k = l.length := by omega
        subst e0
        rw [List.getElem?_eq_none (Nat.le_refl _)]
        show wp (.ok ((l.take l.length).flatMap f) (M ++ G)) Ql E
        rw [wp_ok, List.take_length]
        exact h G
  exact key (l.length + 1) 0 G0 (by omega) (by omega)
end
/-! ### atoms -/
def atomsM : Nat → MV → List MV
  | n + 1, .tup [.str k, x] => if k = s_and ∨ k = s_or then (match x with | .tup l => l.flatMap (atomsM n) | _ => []) else [.tup [.str k, x]]
  | _ + 1, d => [d]
  | _, _ => []
theorem atoms_join {n : Nat} {k : Tx} {l : List MV} (hk : k = s_and ∨ k = s_or) : atomsM (n + 1) (.tup [.str k, .tup l]) = l.flatMap (atomsM n) := by
  simp only [atomsM]
  rw [if_pos hk]
/-- an atom over names N -/
def AtN (N : List Tx) (d : MV) : Prop := ∃ (c : Int) (l : Ps), Can l ∧ l.length ≤ 7 ∧ (∀ p ∈ l, p.1 ∈ N) ∧ ((∃ k, d = .tup [.str k, fm c l]) ∨ ∃ k e, d = .tup [.str k, .int e, fm c l])
theorem AtN.pu {N : List Tx} {d : MV} (h : AtN N d) : Pu d := by
  obtain ⟨c, l, _, _, _, ⟨k, rfl⟩ | ⟨k, e, rfl⟩⟩ := h
  · simp [pu_fm]
  · simp [pu_fm]
theorem atoms_at {b : Nat} {N : List Tx} {n : Nat} {F : MV} (h : Fz b N n F) : ∀ d ∈ atomsM n F, AtN N d := by
  induction h with
  | least h hN =>
    intro d hd
    simp only [atomsM] at hd
    rw [if_neg (by decide)] at hd
    have : d = _ := List.mem_singleton.mp hd
    rw [this]
    exact ⟨_, _, h.can, h.len, hN, .inl ⟨_, rfl⟩⟩
  | same h hN =>
    intro d hd
    simp only [atomsM] at hd
    rw [if_neg (by decide)] at hd
    have : d = _ := List.mem_singleton.mp hd
    rw [this]
    exact ⟨_, _, h.can, h.len, hN, .inl ⟨_, rfl⟩⟩
  | rest hk h1 h2 h hN =>
    intro d hd
    simp only [atomsM] at hd
    have : d = _ := List.mem_singleton.mp hd
    rw [this]
    exact ⟨_, _, h.can, h.len, hN, .inr ⟨_, _, rfl⟩⟩
  | join hk h ih =>
    intro d hd
    rw [atoms_join hk] at hd
    obtain ⟨q, hq, hd⟩ := List.mem_flatMap.mp hd
    exact ih q hq d hd
theorem flat_len {f : MV → List MV} : ∀ {l : List MV}, (∀ d ∈ l, (f d).length ≤ msz d) → (l.flatMap f).length ≤ mszL l
  | [], _ => by simp
  | d :: l, h => by
    have h1 := h d List.mem_cons_self
    have h2 := flat_len (l := l) fun e he => h e (List.mem_cons_of_mem _ he)
    rw [List.flatMap_cons, List.length_append, mszL_cons]
    omega
theorem atoms_len {b : Nat} {N : List Tx} {n : Nat} {F : MV} (h : Fz b N n F) : (atomsM n F).length ≤ msz F := by
  induction h with
  | least h hN =>
    simp only [atomsM]
    rw [if_neg (by decide)]
    exact msz_pos _
  | same h hN =>
    simp only [atomsM]
    rw [if_neg (by decide)]
    exact msz_pos _
  | rest hk h1 h2 h hN =>
    simp only [atomsM]
    exact msz_pos _
  | join hk h ih =>
    rw [atoms_join hk]
    have := flat_len ih
    rw [msz_tup, mszL_cons, mszL_cons, msz_tup]
    omega
/-! ### the names that stand in atoms -/
def lastPs : MV → Ps
  | .tup [_, x] => (psM x).elim [] (·.2)
  | .tup [_, _, x] => (psM x).elim [] (·.2)
  | _ => []
def namesM (l : List MV) : List Tx := l.flatMap fun d => (lastPs d).map (·.1)
/-- each once, as they come -/
def addT (a : List Tx) (x : Tx) : List Tx := if x ∈ a then a else a ++ [x]
def onceT (l : List Tx) : List Tx := l.foldl addT []
theorem once_go : ∀ (l a l0 : List Tx), a.Nodup → (∀ x, x ∈ a ↔ x ∈ l0) → (l.foldl addT a).Nodup ∧ ∀ x, x ∈ l.foldl addT a ↔ x ∈ l0 ++ l
  | [], a, l0, h1, h2 => by simpa using ⟨h1, h2⟩
  | y :: l, a, l0, h1, h2 => by
    have := once_go l (addT a y) (l0 ++ [y]) (by
      unfold addT
      split
      · exact h1
      · rename_i h
        rw [List.nodup_append]
        exact ⟨h1, by simp, fun u hu v hv e => h (by
          have : v = y := by simpa using hv
          rw [← this, ← e]
          exact hu)⟩) (fun x => by
      unfold addT
      split
      · rename_i h
        rw [List.mem_append, List.mem_singleton, ← h2 x]
        exact ⟨.inl, fun q => q.elim id fun e => by rw [e]; exact h⟩
      · rw [List.mem_append, List.mem_append, h2 x])
    rwa [List.append_assoc] at this
theorem once_nd (l : List Tx) : (onceT l).Nodup := (once_go l [] [] .nil fun _ => Iff.rfl).1
theorem mem_once {l : List Tx} {x : Tx} : x ∈ onceT l ↔ x ∈ l := by
  have := (once_go l [] [] .nil fun _ => Iff.rfl).2 x
  rwa [List.nil_append] at this
theorem once_snoc (l : List Tx) (x : Tx) : onceT (l ++ [x]) = addT (onceT l) x := by
  unfold onceT
  rw [List.foldl_append]
  rfl
/-- a dict of names -/
def dT (a : List Tx) : List (MV × MV) := a.map fun x => (.str x, .bl true)
theorem getD_dT (a : List Tx) (x : Tx) : (getD (dT a) (.str x)).isSome = decide (x ∈ a) := by
  unfold getD dT
  induction a with
  | nil => rfl
  | cons y a ih =>
    rw [List.map_cons, List.find?_cons]
    have e : kEq (MV.str y) (MV.str x) = decide (y = x) := rfl
    rw [e]
    by_cases h : y = x
    · rw [decide_eq_true h]
      simp [h]
    · rw [decide_eq_false h]
      simp only [ih, List.mem_cons]
      exact decide_eq_decide.mpr ⟨.inr, fun q => q.elim (fun e => absurd e.symm h) id⟩
theorem putD_dT (a : List Tx) (x : Tx) : putD (dT a) (.str x) (.bl true) = dT (addT a x) := by
  have h1 : ((dT a).any fun p => kEq p.1 (.str x)) = decide (x ∈ a) := by
    unfold dT
    rw [List.any_map]
    induction a with
    | nil => rfl
    | cons y a ih =>
      rw [List.any_cons, ih]
      show (decide (y = x) || _) = _
      rw [← Bool.decide_or]
      exact decide_eq_decide.mpr (by rw [List.mem_cons]; exact ⟨fun h => h.imp Eq.symm id, fun h => h.imp Eq.symm id⟩)
  unfold putD addT
  rw [h1]
  by_cases h : x ∈ a
  · rw [decide_eq_true h, if_pos rfl, if_pos h]
    unfold dT
    rw [List.map_map]
    refine List.map_congr_left fun y _ => ?_
    by_cases e : y = x
    · simp [kEq, e]
    · simp [kEq, e]
  · rw [decide_eq_false h, if_neg (by simp), if_neg h]
    unfold dT
    simp
theorem keys_dT (a : List Tx) : keysOf (dT a) = some a := by
  unfold keysOf textsOf dT
  rw [List.map_map]
  induction a with
  | nil => rfl
  | cons p a ih =>
    rw [List.map_cons, List.mapM_cons, ih]
    rfl
theorem len_once (l : List Tx) : (onceT l).length ≤ l.length := by
  have : ∀ (l a : List Tx), (l.foldl addT a).length ≤ a.length + l.length := by
    intro l
    induction l with
    | nil => intro a; simp
    | cons x l ih =>
      intro a
      have h1 := ih (addT a x)
      have h2 : (addT a x).length ≤ a.length + 1 := by unfold addT; split <;> simp
      rw [List.foldl_cons, List.length_cons]
      omega
  have := this l []
  unfold onceT
  simpa using this
theorem once_few {l N : List Tx} (h : ∀ x ∈ l, x ∈ N) : (onceT l).length ≤ N.length := nodup_len (once_nd l) fun x hx => h x (mem_once.mp hx)
theorem lastPs_of {N : List Tx} {d : MV} (h : AtN N d) : ∀ x ∈ (lastPs d).map (·.1), x ∈ N := by
  obtain ⟨c, l, _, _, hN, ⟨k, rfl⟩ | ⟨k, e, rfl⟩⟩ := h
  · intro x hx
    simp only [lastPs, psM_fm, Option.elim] at hx
    obtain ⟨p, hp, rfl⟩ := List.mem_map.mp hx
    exact hN p hp
  · intro x hx
    simp only [lastPs, psM_fm, Option.elim] at hx
    obtain ⟨p, hp, rfl⟩ := List.mem_map.mp hx
    exact hN p hp
theorem names_of {N : List Tx} {l : List MV} (h : ∀ d ∈ l, AtN N d) : ∀ x ∈ namesM l, x ∈ N := fun x hx => by
  obtain ⟨d, hd, hx⟩ := List.mem_flatMap.mp hx
  exact lastPs_of (h d hd) x hx
theorem namesM_snoc (l : List MV) (d : MV) : namesM (l ++ [d]) = namesM l ++ (lastPs d).map (·.1) := by
  unfold namesM
  rw [List.flatMap_append]
  simp
theorem once_app (l m : List Tx) : onceT (l ++ m) = m.foldl addT (onceT l) := by
  unfold onceT
  rw [List.foldl_append]
/-- the names of a formula, ascending -/
def openT (l : List MV) : MV := .tup ((sortT (onceT (namesM l))).map MV.str)
theorem pu_openT {l : List MV} : Pu (openT l) := Pu.tup fun d hd => by
  obtain ⟨x, _, rfl⟩ := List.mem_map.mp hd
  exact pu_str
end Mi
set_option maxRecDepth 100000
/-! Data, and which of them are formulas. -/
namespace Mi
/-- data nested below n + 1, its parts up to z -/
inductive Da (z : Nat) : Nat → MV → Prop
  | int {n : Nat} {i : Int} (h : i.natAbs ≤ z) : Da z n (.int i)
  | str {n : Nat} {s : Tx} (h : s.length ≤ z) (hc : ∀ c ∈ s, c < 1114112) : Da z n (.str s)
  | tup {n : Nat} {l : List MV} (hl : l.length ≤ z) (h : ∀ d ∈ l, Da z n d) : Da z (n + 1) (.tup l)
theorem Da.mono {z z' n : Nat} {d : MV} (hz : z ≤ z') (h : Da z n d) : ∀ m, n ≤ m → Da z' m d := by
  induction h with
  | int h => intro m _; exact .int (by omega)
  | str h hc => intro m _; exact .str (by omega) hc
  | tup hl h ih => intro m hm; obtain ⟨m, rfl⟩ : ∃ k, m = k + 1 := ⟨m - 1, by omega⟩; exact .tup (by omega) fun d hd => ih d hd m (by omega)
theorem Da.pu {z n : Nat} {d : MV} (h : Da z n d) : Pu d := by
  induction h with
  | int h => exact pu_int
  | str h hc => exact pu_str
  | tup hl h ih => exact Pu.tup ih
open PySem in
theorem Da.py {z n : Nat} {d : MV} (h : Da z n d) : ∀ (m : Nat) (M : Hm), n < m → ∃ x, pyD m M d = some x ∧ PyData.canLay0 x = true ∧ PyData.depth x ≤ n := by
  induction h with
  | int h => intro m M hm; obtain ⟨m, rfl⟩ : ∃ k, m = k + 1 := ⟨m - 1, by omega⟩; exact ⟨_, rfl, rfl, Nat.zero_le _⟩
  | @str n s h hc =>
    intro m M hm
    obtain ⟨m, rfl⟩ : ∃ k, m = k + 1 := ⟨m - 1, by omega⟩
    refine ⟨_, rfl, ?_, Nat.zero_le _⟩
    simp only [PyData.canLay0, PyData.strOk, T]
    simpa using hc
  | @tup n l hl h ih =>
    intro m M hm
    obtain ⟨m, rfl⟩ : ∃ k, m = k + 1 := ⟨m - 1, by omega⟩
    have all : ∀ l : List MV, (∀ d ∈ l, ∃ x, pyD m M d = some x ∧ PyData.canLay0 x = true ∧ PyData.depth x ≤ n) → ∃ xs, l.mapM (pyD m M) = some xs ∧ PyData.canLayAll0 xs = true ∧ PyData.depthAll xs ≤ n := by
      intro l
      induction l with
      | nil => intro _; exact ⟨[], rfl, rfl, Nat.zero_le _⟩
      | cons d l ihl =>
        intro q
        obtain ⟨x, h1, h2, h3⟩ := q d List.mem_cons_self
        obtain ⟨xs, g1, g2, g3⟩ := ihl fun e he => q e (List.mem_cons_of_mem _ he)
        refine ⟨x :: xs, by rw [List.mapM_cons, h1, g1]; rfl, by simp only [PyData.canLayAll0, h2, g2]; rfl, ?_⟩
        simp only [PyData.depthAll]
        omega
    obtain ⟨xs, g1, g2, g3⟩ := all l fun d hd => ih d hd m M (by omega)
    refine ⟨.tuple xs, ?_, g2, ?_⟩
    · show (l.mapM (pyD m M)).map PyData.tuple = _
      rw [g1]
      rfl
    · simp only [PyData.depth]
      omega
open PySem in
theorem eq_nil {z n : Nat} {l : List MV} {M : Hm} (h : Da z n (.tup l)) (hn : n < 60) : eqM M (.tup l) (.tup []) = some l.isEmpty := by
  obtain ⟨x, h1, h2, h3⟩ := h.py 60 M hn
  show eqD M (.tup l) (.tup []) = _
  have h4 : pyD 60 M (.tup []) = some (.tuple []) := rfl
  have s1 : SeqAt.shaped x = true := by
    unfold SeqAt.shaped
    rw [h2, decide_eq_true (by omega)]
    rfl
  have s2 : SeqAt.shaped (.tuple []) = true := by decide
  unfold eqD
  rw [h1, h4]
  simp only [s1, s2, Bool.and_self, if_true]
  have h5 : (l.mapM (pyD 59 M)).map PyData.tuple = some x := h1
  cases hm : l.mapM (pyD 59 M) with
  | none => rw [hm] at h5; cases h5
  | some xs =>
    rw [hm] at h5
    cases h5
    have hlen := mapM_len hm
    cases l with
    | nil => cases xs with
      | nil => rfl
      | cons _ _ => cases hlen
    | cons d l => cases xs with
      | nil => cases hlen
      | cons _ _ => rfl
where
  mapM_len {α β : Type} {f : α → Option β} : ∀ {l : List α} {xs : List β}, l.mapM f = some xs → xs.length = l.length
    | [], xs, h => by cases h; rfl
    | d :: l, xs, h => by
      rw [List.mapM_cons] at h
      cases h1 : f d with
      | none => rw [h1] at h; cases h
      | some x =>
        cases h2 : l.mapM f with
        | none => rw [h1, h2] at h; cases h
        | some ys =>
          rw [h1, h2] at h
          cases h
          have := mapM_len h2
          simp [this]
section
variable {E : MX → Hm → Prop} {M : Hm} {env : Env} {e : Fe} {g : Ftg}
/-- a comprehension that leaves things behind -/
theorem w_lcG {Ql : List MV → Hm → Prop} {ni : Ni} {l : List MV} (f : MV → MV) (hw : ∀ G, Wk ni l (M ++ G)) (hl : l.length ≤ SL)
    (step : ∀ d ∈ l, ∀ G, wp (g d env (M ++ G)) (fun e1 M1 => wp (e e1 M1) (fun y M3 => y = f d ∧ ∃ G', M3 = M ++ G') FF) FF)
    (h : ∀ G, Ql (l.map f) (M ++ G)) (G0 : Hm) {m : Nat} (hm : m = l.length + 1 := by simp) : wp (lcGo ni g cYes e env m 0 [] (M ++ G0)) Ql E := by
  subst hm
  refine w_lc0 (fun k acc M' => acc = (l.take k).map f ∧ ∃ G, M' = M ++ G) l.length (fun k acc M' hi hk => ⟨l[k]?, ?_, ?_⟩) (fun k d acc M' hk hd hi => ?_) (fun acc M' hi => ?_) _ 0 _ _ (by omega) (by omega) ⟨by simp, _, rfl⟩
  · obtain ⟨_, G, rfl⟩ := hi
    exact hw G k
  · rw [List.getElem?_eq_none_iff]; omega
  · obtain ⟨rfl, G, rfl⟩ := hi
    have hd : l[k]? = some d := Option.some.inj ((hw G k).symm.trans hd)
    have ht : l.take (k + 1) = l.take k ++ [d] := by
      rw [List.take_add_one, hd]
      rfl
    refine wp_mono (step d (List.mem_of_getElem? hd) G) (fun e1 M1 h1 => ?_) fun _ _ z => z
    rw [w_cYes, ifB_true rfl]
    refine wp_mono h1 (fun y M3 h3 => ⟨?_, ?_, h3.2⟩) fun _ _ z => z
    · rw [List.length_map, List.length_take]
      omega
    · rw [ht, List.map_append, h3.1]
      rfl
  · obtain ⟨rfl, G, rfl⟩ := hi
    rw [List.take_length]
    exact h G
end
/-! ### words, forms -/
def isWord (s : Tx) : Bool := !decide (s = []) && (!decide (32 ∈ s) && !decide (39 ∈ s))
def stP : Option Tx → MV → Option Tx
  | some a, .tup [.str x, .int k] => if isWord x ∧ a < x ∧ k ≠ 0 then some x else none
  | _, _ => none
def stL (N : List Tx) : Option Tx → MV → Option Tx
  | some a, .tup [.str x, .int k] => if 32 ∉ x ∧ a < x ∧ x ∈ N ∧ k ≠ 0 then some x else none
  | _, _ => none
theorem stP_none : ∀ l : List MV, l.foldl stP none = none
  | [] => rfl
  | d :: l => by
    rw [List.foldl_cons]
    have : stP none d = none := by unfold stP; split <;> first | rfl | contradiction
    rw [this, stP_none]
theorem stL_none (N : List Tx) : ∀ l : List MV, l.foldl (stL N) none = none
  | [] => rfl
  | d :: l => by
    rw [List.foldl_cons]
    have : stL N none d = none := by unfold stL; split <;> first | rfl | contradiction
    rw [this, stL_none]
def inN (N : List Tx) : MV → Bool
  | .tup [.str x, .int _] => decide (x ∈ N)
  | _ => false
/-- both readers of terms agree -/
theorem terms_eq {N : List Tx} (hN : ∀ x ∈ N, isWord x = true) : ∀ (l : List MV) (a : Tx), ((l.foldl stP (some a)).isSome && l.all (inN N)) = (l.foldl (stL N) (some a)).isSome
  | [], a => rfl
  | d :: l, a => by
    rw [List.foldl_cons, List.foldl_cons, List.all_cons]
    by_cases hd : ∃ x k, d = .tup [.str x, .int k]
    · obtain ⟨x, k, rfl⟩ := hd
      have e1 : stP (some a) (.tup [.str x, .int k]) = if isWord x ∧ a < x ∧ k ≠ 0 then some x else none := rfl
      have e2 : stL N (some a) (.tup [.str x, .int k]) = if 32 ∉ x ∧ a < x ∧ x ∈ N ∧ k ≠ 0 then some x else none := rfl
      have e3 : inN N (.tup [.str x, .int k]) = decide (x ∈ N) := rfl
      rw [e1, e2, e3]
      by_cases hx : x ∈ N
      · have hw := hN x hx
        have h32 : 32 ∉ x := by
          unfold isWord at hw
          simp at hw
          exact hw.2.1
        by_cases hk : a < x ∧ k ≠ 0
        · rw [if_pos ⟨hw, hk⟩, if_pos ⟨h32, hk.1, hx, hk.2⟩, decide_eq_true hx, Bool.true_and]
          exact terms_eq hN l x
        · rw [if_neg fun q => hk q.2, if_neg fun q => hk ⟨q.2.1, q.2.2.2⟩, stP_none, stL_none]
          simp
      · rw [decide_eq_false hx, if_neg (c := 32 ∉ x ∧ _) fun q => hx q.2.2.1, stL_none]
        simp
    · have e1 : stP (some a) d = none := by
        unfold stP
        split
        · rename_i x k h2
          exact absurd ⟨_, _, rfl⟩ hd
        · rfl
      have e2 : stL N (some a) d = none := by
        unfold stL
        split
        · rename_i x k h2
          exact absurd ⟨_, _, rfl⟩ hd
        · rfl
      rw [e1, e2, stP_none, stL_none]
      rfl
theorem stP_ps : ∀ (l : List MV) (a : Tx), (l.foldl stP (some a)).isSome = true → ∃ ps : Ps, l = ps.map pr
  | [], a, _ => ⟨[], rfl⟩
  | d :: l, a, h => by
    rw [List.foldl_cons] at h
    by_cases hd : ∃ x k, d = .tup [.str x, .int k]
    · obtain ⟨x, k, rfl⟩ := hd
      have e1 : stP (some a) (.tup [.str x, .int k]) = if isWord x ∧ a < x ∧ k ≠ 0 then some x else none := rfl
      rw [e1] at h
      split at h
      · obtain ⟨ps, rfl⟩ := stP_ps l x h
        exact ⟨(x, k) :: ps, rfl⟩
      · rw [stP_none] at h
        cases h
    · have e1 : stP (some a) d = none := by
        unfold stP
        split
        · exact absurd ⟨_, _, rfl⟩ hd
        · rfl
      rw [e1, stP_none] at h
      cases h
def isForm : MV → Bool
  | .tup [.int _, .tup l] => (l.foldl stP (some [])).isSome
  | _ => false
def isFormL (N : List Tx) : MV → Bool
  | .tup [.int _, .tup l] => (l.foldl (stL N) (some [])).isSome
  | _ => false
/-- the formulas over names N -/
def isF : Nat → List Tx → MV → Bool
  | n + 1, N, .tup (.str k :: r) =>
    if k = s_and ∨ k = s_or then (match r with | [.tup l] => l.all (isF n N) | _ => false)
    else if k = s_all ∨ k = s_some then (match r with | [.str x, p] => isWord x && (!decide (x ∈ N) && isF n (N ++ [x]) p) | _ => false)
    else if k = s_div ∨ k = s_spl then (match r with | [.int d, f] => decide (1 ≤ d) && isFormL N f | _ => false)
    else if k = s_least ∨ k = s_same then (match r with | [f] => isFormL N f | _ => false) else false
  | _, _, _ => false
end Mi
set_option maxRecDepth 100000
/-! Sums, atoms, conditions as trees; bounds. -/
namespace Mi
abbrev a_name : Tx := [110, 97, 109, 101]
abbrev a_number : Tx := [110, 117, 109, 98, 101, 114]
abbrev a_times : Tx := [116, 105, 109, 101, 115]
abbrev a_neg : Tx := [110, 101, 103, 97, 116, 101]
abbrev a_plus : Tx := [112, 108, 117, 115]
abbrev a_minus : Tx := [109, 105, 110, 117, 115]
inductive SA (N : List Tx) : Nat → MV → Prop
  | name {n : Nat} {x : Tx} (h : x ∈ N) : SA N n (.tup [.str a_name, .str x])
  | num {n : Nat} {i : Int} (h0 : 0 ≤ i) (h1 : i < 1000) : SA N n (.tup [.str a_number, .int i])
  | times {n : Nat} {k : Int} {e : MV} (h0 : 0 ≤ k) (h1 : k < 4) (h : SA N n e) : SA N (n + 1) (.tup [.str a_times, .int k, e])
  | neg {n : Nat} {e : MV} (h : SA N n e) : SA N (n + 1) (.tup [.str a_neg, e])
  | two {n : Nat} {k : Tx} {e f : MV} (hk : k = a_plus ∨ k = a_minus) (h : SA N n e) (h' : SA N n f) : SA N (n + 1) (.tup [.str k, e, f])
theorem SA.pu {N : List Tx} {n : Nat} {e : MV} (h : SA N n e) : Pu e := by
  induction h with
  | name h => simp
  | num h0 h1 => simp
  | times h0 h1 h ih => simp [ih]
  | neg h ih => simp [ih]
  | two hk h h' ih ih' => simp [ih, ih']
inductive AA (N : List Tx) : MV → Prop
  | rest {s : Tx} {f : MV} {d r : Int} (hs : s = [61, 61] ∨ s = [33, 61]) (h : SA N 1 f) (h0 : 2 ≤ d) (h1 : d < 6) (h2 : 0 ≤ r) (h3 : r < d) : AA N (.tup [.str [114, 101, 115, 116], .str s, f, .int d, .int r])
  | cmp {s : Tx} {e f : MV} (hs : s = [60] ∨ s = [60, 61] ∨ s = [62] ∨ s = [62, 61] ∨ s = [61, 61] ∨ s = [33, 61]) (h : SA N 1 e) (h' : SA N 1 f) : AA N (.tup [.str [99, 111, 109, 112, 97, 114, 101], .str s, e, f])
theorem AA.pu {N : List Tx} {e : MV} (h : AA N e) : Pu e := by
  cases h with
  | rest hs h => simp [h.pu]
  | cmp hs h h' => simp [h.pu, h'.pu]
inductive CA (N : List Tx) : Nat → MV → Prop
  | atom {n : Nat} {d : MV} (h : AA N d) : CA N n d
  | not {n : Nat} {d : MV} (h : CA N n d) : CA N (n + 1) (.tup [.str [110, 111, 116], d])
  | two {n : Nat} {k : Tx} {d e : MV} (hk : k = s_or ∨ k = s_and) (h : CA N n d) (h' : CA N n e) : CA N (n + 1) (.tup [.str k, d, e])
theorem CA.pu {N : List Tx} {n : Nat} {e : MV} (h : CA N n e) : Pu e := by
  induction h with
  | atom h => exact h.pu
  | not h ih => simp [ih]
  | two hk h h' ih ih' => simp [ih, ih']
/-! ### bounds -/
theorem coef_abs {B : Nat} : ∀ {l : Ps}, (∀ p ∈ l, p.2.natAbs ≤ B) → ∀ x, (coef l x).natAbs ≤ l.length * B
  | [], _, x => by simp [coef]
  | (y, k) :: l, h, x => by
    have h1 := h (y, k) List.mem_cons_self
    have h2 := coef_abs (l := l) (fun p hp => h p (List.mem_cons_of_mem _ hp)) x
    have h1 : k.natAbs ≤ B := h1
    simp only [coef, List.length_cons, Nat.add_mul, Nat.one_mul]
    split <;> omega
theorem nf_cf {N : List Tx} {B b : Nat} {c : Int} {l : Ps} (hN : N.length ≤ 7) (h : ∀ p ∈ l, p.1 ∈ N) (hB : ∀ p ∈ l, p.2.natAbs ≤ B) (hl : l.length ≤ 14) (hb : 14 * B < b) (hc : c.natAbs < b) : CF b c (nf l) ∧ ∀ p ∈ nf l, p.1 ∈ N := by
  have hn : ∀ p ∈ nf l, p.1 ∈ N := fun p hp => by
    obtain ⟨q, hq, e⟩ := List.mem_map.mp (mem_nf hp).1
    rw [← e]
    exact h q hq
  refine ⟨⟨nf_can l, ?_, hc, fun p hp => ?_⟩, hn⟩
  · exact Nat.le_trans (len_nf l) (Nat.le_trans (len_names h) hN)
  · rw [(mem_nf hp).2]
    have h1 := coef_abs hB p.1
    have := Nat.mul_le_mul_right B hl
    omega
/-- what comes of parts -/
theorem sum_cf {N : List Tx} {b : Nat} {ps : List (Int × Int × Ps)} (hN : N.length ≤ 7) (hps : ps.length ≤ 2) (hq : ∀ q ∈ ps, q.1.natAbs ≤ 3 ∧ CF b q.2.1 q.2.2 ∧ ∀ p ∈ q.2.2, p.1 ∈ N) (hb : 1 ≤ b) :
    CF (64 * b) (ps.foldl (fun c q => c + q.1 * q.2.1) 0) (nf (ps.flatMap fun q => q.2.2.map fun p => (p.1, q.1 * p.2))) ∧ (∀ p ∈ nf (ps.flatMap fun q => q.2.2.map fun p => (p.1, q.1 * p.2)), p.1 ∈ N) ∧ (ps.flatMap fun q => q.2.2.map fun p => (p.1, q.1 * p.2)).length ≤ 14 := by
  have hmul : ∀ (q i : Int), q.natAbs ≤ 3 → i.natAbs < b → (q * i).natAbs ≤ 3 * b := fun q i h1 h2 => by
    rw [Int.natAbs_mul]
    have := Nat.mul_le_mul h1 (Nat.le_of_lt h2)
    exact this
  have hlen : (ps.flatMap fun q => q.2.2.map fun p => (p.1, q.1 * p.2)).length ≤ 14 := by
    match ps, hps, hq with
    | [], _, _ => simp
    | [q], _, hq =>
      have := (hq q (by simp)).2.1.len
      simp
      omega
    | [q, r], _, hq =>
      have := (hq q (by simp)).2.1.len
      have := (hq r (by simp)).2.1.len
      simp
      omega
    | _ :: _ :: _ :: _, h, _ => simp at h
  have hc : (ps.foldl (fun (c : Int) (q : Int × Int × Ps) => c + q.1 * q.2.1) 0).natAbs < 64 * b := by
    match ps, hps, hq with
    | [], _, _ => simp; omega
    | [q], _, hq =>
      have h1 := hmul q.1 q.2.1 (hq q (by simp)).1 (hq q (by simp)).2.1.cb
      simp only [List.foldl_cons, List.foldl_nil]
      omega
    | [q, r], _, hq =>
      have h1 := hmul q.1 q.2.1 (hq q (by simp)).1 (hq q (by simp)).2.1.cb
      have h2 := hmul r.1 r.2.1 (hq r (by simp)).1 (hq r (by simp)).2.1.cb
      simp only [List.foldl_cons, List.foldl_nil]
      omega
    | _ :: _ :: _ :: _, h, _ => simp at h
  have := nf_cf (b := 64 * b) (B := 3 * b) (l := ps.flatMap fun q => q.2.2.map fun p => (p.1, q.1 * p.2)) hN (fun p hp => by
    obtain ⟨q, h1, h2⟩ := List.mem_flatMap.mp hp
    obtain ⟨r, h3, rfl⟩ := List.mem_map.mp h2
    exact (hq q h1).2.2 r h3) (fun p hp => by
    obtain ⟨q, h1, h2⟩ := List.mem_flatMap.mp hp
    obtain ⟨r, h3, rfl⟩ := List.mem_map.mp h2
    exact hmul q.1 r.2 (hq q h1).1 ((hq q h1).2.1.kb r h3)) hlen (by omega) hc
  exact ⟨this.1, this.2, hlen⟩
/-- the names' forms -/
def varsT (N : List Tx) : Tb := N.map fun x => (x, 0, [(x, 1)])
theorem vars_get {N : List Tx} {x : Tx} (h : x ∈ N) : tbG (varsT N) x = some (0, [(x, 1)]) := by
  unfold tbG varsT
  cases hf : (N.map fun x => (x, (0 : Int), [(x, (1 : Int))])).reverse.find? fun q => decide (q.1 = x) with
  | none =>
    rw [List.find?_eq_none] at hf
    exact absurd (decide_eq_true rfl) (hf (x, 0, [(x, 1)]) (List.mem_reverse.mpr (List.mem_map.mpr ⟨x, h, rfl⟩)))
  | some q =>
    have h1 := List.mem_of_find?_eq_some hf
    have h2 := List.find?_some hf
    have h2 : q.1 = x := of_decide_eq_true h2
    obtain ⟨y, hy, rfl⟩ := List.mem_map.mp (List.mem_reverse.mp h1)
    have h2 : y = x := h2
    rw [h2]
    rfl
theorem var_cf {N : List Tx} {x : Tx} (h : x ∈ N) : CF 1000 0 [(x, 1)] ∧ ∀ p ∈ [(x, (1 : Int))], p.1 ∈ N := by
  refine ⟨⟨⟨by simp, fun p hp => ?_⟩, by simp, by decide, fun p hp => ?_⟩, fun p hp => ?_⟩
  · rw [List.mem_singleton.mp hp]; show (1 : Int) ≠ 0; decide
  · rw [List.mem_singleton.mp hp]; show (1 : Int).natAbs < 1000; decide
  · rw [List.mem_singleton.mp hp]; exact h
theorem num_cf {i : Int} {N : List Tx} (h0 : 0 ≤ i) (h1 : i < 1000) : CF 1000 i [] ∧ ∀ p ∈ ([] : Ps), p.1 ∈ N := by
  refine ⟨⟨Can.nil, by simp, by omega, fun p hp => ?_⟩, fun p hp => ?_⟩
  · cases hp
  · cases hp
/-! ### sizes -/
theorem msz_prs {N : List Tx} {z : Nat} (hN : ∀ x ∈ N, x.length ≤ z) : ∀ {l : Ps}, (∀ p ∈ l, p.1 ∈ N) → mszL (l.map pr) ≤ l.length * (z + 3)
  | [], _ => by simp
  | p :: l, h => by
    have h1 := hN _ (h p List.mem_cons_self)
    have h2 := msz_prs hN (l := l) fun q hq => h q (List.mem_cons_of_mem _ hq)
    rw [List.map_cons, mszL_cons, List.length_cons, Nat.add_mul]
    simp [pr]
    omega
theorem msz_cf {N : List Tx} {b : Nat} {c : Int} {l : Ps} (hN : ∀ x ∈ N, x.length ≤ 4) (h : CF b c l) (hl : ∀ p ∈ l, p.1 ∈ N) : msz (fm c l) ≤ 52 := by
  have h1 := msz_prs hN hl
  have := h.len
  rw [msz_fm]
  omega
theorem joinP_msz {k : Tx} {x y : MV} (hk : k.length ≤ 3) : msz (joinP k [x, y]) ≤ msz x + msz y + 6 := by
  have h := flatP_msz k [x, y]
  unfold joinP
  simp at h ⊢
  omega
/-! ### lists told apart from the empty one -/
open PySem in
theorem eq_lst {N : List Tx} {M : Hm} {i j : Nat} (hN : ∀ x ∈ N, ∀ c ∈ x, c < 1114112) (hi : M[i]? = some (.lst (N.map MV.str))) (hj : M[j]? = some (.lst [])) : eqM M (.ref i) (.ref j) = some N.isEmpty := by
  show eqD M (.ref i) (.ref j) = _
  have all : ∀ N : List Tx, (∀ x ∈ N, ∀ c ∈ x, c < 1114112) → (N.map MV.str).mapM (pyD 59 M) = some (N.map fun x => PyData.str (T x)) ∧ PyData.canLayAll0 (N.map fun x => PyData.str (T x)) = true ∧ PyData.depthAll (N.map fun x => PyData.str (T x)) = 0 := by
    intro N
    induction N with
    | nil => intro _; exact ⟨rfl, rfl, rfl⟩
    | cons x N ih =>
      intro h
      obtain ⟨h1, h2, h3⟩ := ih fun y hy => h y (List.mem_cons_of_mem _ hy)
      refine ⟨?_, ?_, ?_⟩
      · rw [List.map_cons, List.mapM_cons, h1]
        rfl
      · rw [List.map_cons, PyData.canLayAll0, h2, Bool.and_true]
        simp only [PyData.canLay0, PyData.strOk, T]
        simpa using h x List.mem_cons_self
      · simp only [List.map_cons, PyData.depthAll, PyData.depth, h3]
        rfl
  obtain ⟨h1, h2, h3⟩ := all N hN
  have e1 : pyD 60 M (.ref i) = some (.list (N.map fun x => PyData.str (T x))) := by
    show (match M[i]? with
      | some (.lst l) => (l.mapM (pyD 59 M)).map PyData.list
      | _ => none) = _
    rw [hi]
    show ((N.map MV.str).mapM (pyD 59 M)).map PyData.list = _
    rw [h1]
    rfl
  have e2 : pyD 60 M (.ref j) = some (.list []) := by
    show (match M[j]? with
      | some (.lst l) => (l.mapM (pyD 59 M)).map PyData.list
      | _ => none) = _
    rw [hj]
    rfl
  have s1 : SeqAt.shaped (.list (N.map fun x => PyData.str (T x))) = true := by
    unfold SeqAt.shaped
    have : PyData.canLay0 (.list (N.map fun x => PyData.str (T x))) = true := h2
    rw [this]
    simp [PyData.depth, h3]
  have s2 : SeqAt.shaped (.list []) = true := by decide
  unfold eqD
  rw [e1, e2]
  simp only [s1, s2, Bool.and_self, if_true]
  cases N <;> rfl
end Mi
set_option maxRecDepth 100000
/-! The defs of law_k01_formulas in the small language (printed by gen.py). -/
namespace K01
open Mi
abbrev f_form : Nat := 0
abbrev f_plus : Nat := 1
abbrev f_times : Nat := 2
abbrev f_image : Nat := 3
abbrev f_is_integer : Nat := 4
abbrev f_is_tuple : Nat := 5
abbrev f_is_name : Nat := 6
abbrev f_is_form : Nat := 7
abbrev f_is_form_over : Nat := 8
abbrev f_joined : Nat := 9
abbrev f_least : Nat := 10
abbrev f_below : Nat := 11
abbrev f_unlike : Nat := 12
abbrev f_opposite : Nat := 13
abbrev f_put : Nat := 14
abbrev f_atoms_of : Nat := 15
abbrev f_turns_of : Nat := 16
abbrev f_open_names : Nat := 17
abbrev f_is_atom : Nat := 18
abbrev f_is_formula : Nat := 19
abbrev f__law_start : Nat := 20
abbrev f__law_draw : Nat := 21
abbrev f__law_words : Nat := 22
abbrev f__law_var : Nat := 23
abbrev f__law_form : Nat := 24
abbrev f__law_sum : Nat := 25
abbrev f__law_below : Nat := 26
abbrev f__law_more : Nat := 27
abbrev f__law_joined : Nat := 28
abbrev f__law_opposite : Nat := 29
abbrev f__law_sum_form : Nat := 30
abbrev f__law_atom_core : Nat := 31
abbrev f__law_core : Nat := 32
abbrev f__law_one_of : Nat := 33
abbrev f__law_sum_ast : Nat := 34
abbrev f__law_atom_ast : Nat := 35
abbrev f__law_condition : Nat := 36
abbrev f__law_is_int : Nat := 37
abbrev f__law_same : Nat := 38
abbrev f__law_turns : Nat := 39
abbrev f__law_atoms : Nat := 40
abbrev f__law_open_names : Nat := 41
abbrev f__law_at : Nat := 42
abbrev f__law_true : Nat := 43
abbrev f__law_shuffled : Nat := 44
abbrev f__law_put : Nat := 45
abbrev f__law_put_in : Nat := 46
abbrev f__law_bent : Nat := 47
abbrev f__law_says : Nat := 48
abbrev f__law_is_word : Nat := 49
abbrev f__law_is_form : Nat := 50
abbrev f__law_is_formula : Nat := 51
abbrev f__law_odd_data : Nat := 52
abbrev f_law : Nat := 53
abbrev c_JOINED : MV := .tup [(.str [97, 110, 100]), (.str [111, 114])]
abbrev c_MINUS_ONE : MV := .tup [(.int (-1)), (.tup [])]
abbrev c_RESTS : MV := .tup [(.str [100, 105, 118, 105, 100, 101, 115]), (.str [115, 112, 108, 105, 116, 115])]
abbrev c_TURNS : MV := .tup [(.str [97, 108, 108]), (.str [115, 111, 109, 101])]
abbrev c_ZERO : MV := .tup [(.int 0), (.tup [])]
def d_OTHERS_ : List (Tx × MV) := [([97, 110, 100], .str [111, 114]), ([111, 114], .str [97, 110, 100]), ([97, 108, 108], .str [115, 111, 109, 101]), ([115, 111, 109, 101], .str [97, 108, 108]), ([100, 105, 118, 105, 100, 101, 115], .str [115, 112, 108, 105, 116, 115]), ([115, 112, 108, 105, 116, 115], .str [100, 105, 118, 105, 100, 101, 115])]
/-- form(constant, pairs); slots constant, pairs, sums, name, coefficient -/
def b_form (G : Ga) : Fs :=
sSeq (sSet 2 (eDic0)) (
sSeq (sFor (iA (eVar 1)) (gT 2 (gsCons (gN 3) (gsCons (gN 4) (gsNil)))) (
sPutA (eVar 2) (eVar 3) (eOp fAdd (eGet2 (eVar 2) (eVar 3) (eC (.int 0))) (eVar 4)))) (
sRet (eTup (aCons (eVar 0) (aCons (eGc (eFn fTuple (aCons (eLc (iA (eFn fSorted (aCons (eVar 2) aNil))) (gN 3) (cB (eOp fNe (eOp fIxA (eVar 2) (eVar 3)) (eC (.int 0)))) (eTup (aCons (eVar 3) (aCons (eOp fIxA (eVar 2) (eVar 3)) aNil))) [3]) aNil))) aNil)))))
def d_form : Df := ⟨2, 5, b_form⟩
/-- plus(f, g); slots f, g -/
def b_plus (G : Ga) : Fs :=
sSeq (sIf (cNot (cV (eOp fIx (eVar 1) (eC (.int 1))))) (
sRet (eTup (aCons (eOp fAdd (eOp fIx (eVar 0) (eC (.int 0))) (eOp fIx (eVar 1) (eC (.int 0)))) (aCons (eOp fIx (eVar 0) (eC (.int 1))) aNil)))) (
sNx)) (
sRet (eCall G f_form (aCons (eOp fAdd (eOp fIx (eVar 0) (eC (.int 0))) (eOp fIx (eVar 1) (eC (.int 0)))) (aCons (eOp fAdd (eOp fIx (eVar 0) (eC (.int 1))) (eOp fIx (eVar 1) (eC (.int 1)))) aNil))))
def d_plus : Df := ⟨2, 2, b_plus⟩
/-- times(k, f); slots k, f, name, coefficient -/
def b_times (G : Ga) : Fs :=
sSeq (sIf (cB (eOp fEq (eVar 0) (eC (.int 0)))) (
sRet (eC c_ZERO)) (
sNx)) (
sRet (eTup (aCons (eOp fMul (eVar 0) (eOp fIx (eVar 1) (eC (.int 0)))) (aCons (eGc (eFn fTuple (aCons (eLc (iA (eOp fIx (eVar 1) (eC (.int 1)))) (gT 2 (gsCons (gN 2) (gsCons (gN 3) (gsNil)))) (cYes) (eTup (aCons (eVar 2) (aCons (eOp fMul (eVar 0) (eVar 3)) aNil))) [2, 3]) aNil))) aNil))))
def d_times : Df := ⟨2, 4, b_times⟩
/-- image(f, pairs); slots f, pairs, table, constant, rest, name, coefficient, g, other, factor -/
def b_image (G : Ga) : Fs :=
sSeq (sSet 2 (eDc (iA (eVar 1)) (gT 2 (gsCons (gN 5) (gsCons (gN 7) (gsNil)))) (cYes) (eVar 5) (eVar 7) [5, 7])) (
sSeq (sSet 3 (eOp fIx (eVar 0) (eC (.int 0)))) (
sSeq (sSet 4 (eLst (aNil))) (
sSeq (sFor (iA (eOp fIx (eVar 0) (eC (.int 1)))) (gT 2 (gsCons (gN 5) (gsCons (gN 6) (gsNil)))) (
sIf (cB (eOp fInA (eVar 5) (eVar 2))) (
sSeq (sSet 7 (eOp fIxA (eVar 2) (eVar 5))) (
sSeq (sAug fIAdd 3 (eOp fMul (eVar 6) (eOp fIx (eVar 7) (eC (.int 0))))) (
sEx (eGc (eMet .list fExtend (eVar 4) (aCons (eLc (iA (eOp fIx (eVar 7) (eC (.int 1)))) (gT 2 (gsCons (gN 8) (gsCons (gN 9) (gsNil)))) (cYes) (eTup (aCons (eVar 8) (aCons (eOp fMul (eVar 6) (eVar 9)) aNil))) [8, 9]) aNil)))))) (
sEx (eMet .list fAppend (eVar 4) (aCons (eTup (aCons (eVar 5) (aCons (eVar 6) aNil))) aNil))))) (
sRet (eCall G f_form (aCons (eVar 3) (aCons (eVar 4) aNil)))))))
def d_image : Df := ⟨2, 10, b_image⟩
/-- is_integer(datum); slots datum -/
def b_is_integer (G : Ga) : Fs :=
sRet (eAnd (eFn (fIsi "int") (aCons (eVar 0) aNil)) (eT (cNot (cB (eFn (fIsi "bool") (aCons (eVar 0) aNil))))))
def d_is_integer : Df := ⟨1, 1, b_is_integer⟩
/-- is_tuple(datum, many); slots datum, many -/
def b_is_tuple (G : Ga) : Fs :=
sRet (eAnd (eFn (fIsi "tuple") (aCons (eVar 0) aNil)) (eOp fEq (eFn fLen (aCons (eVar 0) aNil)) (eVar 1)))
def d_is_tuple : Df := ⟨2, 2, b_is_tuple⟩
/-- is_name(datum); slots datum -/
def b_is_name (G : Ga) : Fs :=
sRet (eAnd (eFn (fIsi "str") (aCons (eVar 0) aNil)) (eAnd (eOp fNe (eVar 0) (eC (.str []))) (eAnd (eOp fNotInA (eC (.str [32])) (eVar 0)) (eOp fNotInA (eC (.str [39])) (eVar 0)))))
def d_is_name : Df := ⟨1, 1, b_is_name⟩
/-- is_form(datum); slots datum, last, term -/
def b_is_form (G : Ga) : Fs :=
sSeq (sIf (cOr (cNot (cV (eCall G f_is_tuple (aCons (eVar 0) (aCons (eC (.int 2)) aNil))))) (cOr (cNot (cV (eCall G f_is_integer (aCons (eOp fIx (eVar 0) (eC (.int 0))) aNil)))) (cNot (cV (eFn (fIsi "tuple") (aCons (eOp fIx (eVar 0) (eC (.int 1))) aNil)))))) (
sRet (eC (.bl false))) (
sNx)) (
sSeq (sSet 1 (eC (.str []))) (
sSeq (sFor (iA (eOp fIx (eVar 0) (eC (.int 1)))) (gN 2) (
sSeq (sIf (cOr (cNot (cV (eCall G f_is_tuple (aCons (eVar 2) (aCons (eC (.int 2)) aNil))))) (cOr (cNot (cV (eCall G f_is_name (aCons (eOp fIx (eVar 2) (eC (.int 0))) aNil)))) (cNot (cV (eCall G f_is_integer (aCons (eOp fIx (eVar 2) (eC (.int 1))) aNil)))))) (
sRet (eC (.bl false))) (
sNx)) (
sSeq (sIf (cOr (cB (eOp fLe (eOp fIx (eVar 2) (eC (.int 0))) (eVar 1))) (cB (eOp fEq (eOp fIx (eVar 2) (eC (.int 1))) (eC (.int 0))))) (
sRet (eC (.bl false))) (
sNx)) (
sSet 1 (eOp fIx (eVar 2) (eC (.int 0))))))) (
sRet (eC (.bl true)))))
def d_is_form : Df := ⟨1, 3, b_is_form⟩
/-- is_form_over(datum, names); slots datum, names, name, coefficient -/
def b_is_form_over (G : Ga) : Fs :=
sRet (eAnd (eCall G f_is_form (aCons (eVar 0) aNil)) (eGc (eFn fAll (aCons (eLc (iA (eOp fIx (eVar 0) (eC (.int 1)))) (gT 2 (gsCons (gN 2) (gsCons (gN 3) (gsNil)))) (cYes) (eOp fInA (eVar 2) (eVar 1)) [2, 3]) aNil))))
def d_is_form_over : Df := ⟨2, 4, b_is_form_over⟩
/-- joined(kind, parts); slots kind, parts, found, part -/
def b_joined (G : Ga) : Fs :=
sSeq (sSet 2 (eLst (aNil))) (
sSeq (sFor (iA (eVar 1)) (gN 3) (
sIf (cB (eOp fEq (eOp fIx (eVar 3) (eC (.int 0))) (eVar 0))) (
sEx (eMet .list fExtend (eVar 2) (aCons (eOp fIx (eVar 3) (eC (.int 1))) aNil))) (
sEx (eMet .list fAppend (eVar 2) (aCons (eVar 3) aNil))))) (
sRet (eTup (aCons (eVar 0) (aCons (eFn fTuple (aCons (eVar 2) aNil)) aNil)))))
def d_joined : Df := ⟨2, 4, b_joined⟩
/-- least(f); slots f -/
def b_least (G : Ga) : Fs :=
sRet (eTup (aCons (eC (.str [108, 101, 97, 115, 116])) (aCons (eVar 0) aNil)))
def d_least : Df := ⟨1, 1, b_least⟩
/-- below(f); slots f -/
def b_below (G : Ga) : Fs :=
sRet (eCall G f_plus (aCons (eCall G f_times (aCons (eUn fNeg (eC (.int 1))) (aCons (eVar 0) aNil))) (aCons (eC c_MINUS_ONE) aNil)))
def d_below : Df := ⟨1, 1, b_below⟩
/-- unlike(f); slots f -/
def b_unlike (G : Ga) : Fs :=
sRet (eTup (aCons (eC (.str [111, 114])) (aCons (eTup (aCons (eCall G f_least (aCons (eCall G f_plus (aCons (eVar 0) (aCons (eC c_MINUS_ONE) aNil))) aNil)) (aCons (eCall G f_least (aCons (eCall G f_below (aCons (eVar 0) aNil)) aNil)) aNil))) aNil)))
def d_unlike : Df := ⟨1, 1, b_unlike⟩
/-- opposite(formula); slots formula, kind, part -/
def b_opposite (G : Ga) : Fs :=
sSeq (sSet 1 (eOp fIx (eVar 0) (eC (.int 0)))) (
sSeq (sIf (cB (eOp fEq (eVar 1) (eC (.str [108, 101, 97, 115, 116])))) (
sRet (eCall G f_least (aCons (eCall G f_below (aCons (eOp fIx (eVar 0) (eC (.int 1))) aNil)) aNil))) (
sNx)) (
sSeq (sIf (cB (eOp fEq (eVar 1) (eC (.str [115, 97, 109, 101])))) (
sRet (eCall G f_unlike (aCons (eOp fIx (eVar 0) (eC (.int 1))) aNil))) (
sNx)) (
sSeq (sIf (cB (eOp fIn (eVar 1) (eC c_RESTS))) (
sRet (eOp fAdd (eTup (aCons (eKd d_OTHERS_ (eVar 1)) aNil)) (eSl fSl (eVar 0) (oSome (eC (.int 1))) (oNone)))) (
sNx)) (
sSeq (sIf (cB (eOp fIn (eVar 1) (eC c_TURNS))) (
sRet (eTup (aCons (eKd d_OTHERS_ (eVar 1)) (aCons (eOp fIx (eVar 0) (eC (.int 1))) (aCons (eCall G f_opposite (aCons (eOp fIx (eVar 0) (eC (.int 2))) aNil)) aNil))))) (
sNx)) (
sRet (eCall G f_joined (aCons (eKd d_OTHERS_ (eVar 1)) (aCons (eLc (iA (eOp fIx (eVar 0) (eC (.int 1)))) (gN 2) (cYes) (eCall G f_opposite (aCons (eVar 2) aNil)) [2]) aNil))))))))
def d_opposite : Df := ⟨1, 3, b_opposite⟩
/-- put(formula, pairs); slots formula, pairs, kind, part -/
def b_put (G : Ga) : Fs :=
sSeq (sSet 2 (eOp fIx (eVar 0) (eC (.int 0)))) (
sSeq (sIf (cB (eOp fIn (eVar 2) (eC c_JOINED))) (
sRet (eTup (aCons (eVar 2) (aCons (eGc (eFn fTuple (aCons (eLc (iA (eOp fIx (eVar 0) (eC (.int 1)))) (gN 3) (cYes) (eCall G f_put (aCons (eVar 3) (aCons (eVar 1) aNil))) [3]) aNil))) aNil)))) (
sNx)) (
sSeq (sIf (cB (eOp fIn (eVar 2) (eC c_TURNS))) (
sRet (eTup (aCons (eVar 2) (aCons (eOp fIx (eVar 0) (eC (.int 1))) (aCons (eCall G f_put (aCons (eOp fIx (eVar 0) (eC (.int 2))) (aCons (eVar 1) aNil))) aNil))))) (
sNx)) (
sRet (eOp fAdd (eSl fSl (eVar 0) (oNone) (oSome (eUn fNeg (eC (.int 1))))) (eTup (aCons (eCall G f_image (aCons (eOp fIx (eVar 0) (eUn fNeg (eC (.int 1)))) (aCons (eVar 1) aNil))) aNil))))))
def d_put : Df := ⟨2, 4, b_put⟩
/-- atoms_of(formula); slots formula, part, atom -/
def b_atoms_of (G : Ga) : Fs :=
sSeq (sIf (cB (eOp fIn (eOp fIx (eVar 0) (eC (.int 0))) (eC c_JOINED))) (
sRet (eLc2 (iA (eOp fIx (eVar 0) (eC (.int 1)))) (gN 1) (cYes) (iA (eCall G f_atoms_of (aCons (eVar 1) aNil))) (gN 2) (cYes) (eVar 2) [1, 2] [2])) (
sNx)) (
sSeq (sIf (cB (eOp fIn (eOp fIx (eVar 0) (eC (.int 0))) (eC c_TURNS))) (
sRet (eCall G f_atoms_of (aCons (eOp fIx (eVar 0) (eC (.int 2))) aNil))) (
sNx)) (
sRet (eLst (aCons (eVar 0) aNil))))
def d_atoms_of : Df := ⟨1, 3, b_atoms_of⟩
/-- turns_of(formula); slots formula, part, name -/
def b_turns_of (G : Ga) : Fs :=
sSeq (sIf (cB (eOp fIn (eOp fIx (eVar 0) (eC (.int 0))) (eC c_JOINED))) (
sRet (eLc2 (iA (eOp fIx (eVar 0) (eC (.int 1)))) (gN 1) (cYes) (iA (eCall G f_turns_of (aCons (eVar 1) aNil))) (gN 2) (cYes) (eVar 2) [1, 2] [2])) (
sNx)) (
sSeq (sIf (cB (eOp fIn (eOp fIx (eVar 0) (eC (.int 0))) (eC c_TURNS))) (
sRet (eOp fAdd (eLst (aCons (eOp fIx (eVar 0) (eC (.int 1))) aNil)) (eCall G f_turns_of (aCons (eOp fIx (eVar 0) (eC (.int 2))) aNil)))) (
sNx)) (
sRet (eLst (aNil))))
def d_turns_of : Df := ⟨1, 3, b_turns_of⟩
/-- open_names(formula); slots formula, turns, found, atom, name, number -/
def b_open_names (G : Ga) : Fs :=
sSeq (sSet 1 (eCall G f_turns_of (aCons (eVar 0) aNil))) (
sSeq (sSet 2 (eDic0)) (
sSeq (sFor (iA (eCall G f_atoms_of (aCons (eVar 0) aNil))) (gN 3) (
sFor (iA (eOp fIx (eOp fIx (eVar 3) (eUn fNeg (eC (.int 1)))) (eC (.int 1)))) (gT 2 (gsCons (gN 4) (gsCons (gN 5) (gsNil)))) (
sPutA (eVar 2) (eVar 4) (eC (.bl true))))) (
sRet (eGc (eFn fTuple (aCons (eLc (iA (eFn fSorted (aCons (eVar 2) aNil))) (gN 4) (cB (eOp fNotInA (eVar 4) (eVar 1))) (eVar 4) [4]) aNil))))))
def d_open_names : Df := ⟨1, 6, b_open_names⟩
/-- is_atom(datum, names); slots datum, names -/
def b_is_atom (G : Ga) : Fs :=
sSeq (sIf (cB (eOp fIn (eOp fIx (eVar 0) (eC (.int 0))) (eC c_RESTS))) (
sRet (eAnd (eCall G f_is_tuple (aCons (eVar 0) (aCons (eC (.int 3)) aNil))) (eAnd (eCall G f_is_integer (aCons (eOp fIx (eVar 0) (eC (.int 1))) aNil)) (eAnd (eOp fGe (eOp fIx (eVar 0) (eC (.int 1))) (eC (.int 1))) (eCall G f_is_form_over (aCons (eOp fIx (eVar 0) (eC (.int 2))) (aCons (eVar 1) aNil))))))) (
sNx)) (
sRet (eAnd (eOp fIn (eOp fIx (eVar 0) (eC (.int 0))) (eTup (aCons (eC (.str [108, 101, 97, 115, 116])) (aCons (eC (.str [115, 97, 109, 101])) aNil)))) (eAnd (eCall G f_is_tuple (aCons (eVar 0) (aCons (eC (.int 2)) aNil))) (eCall G f_is_form_over (aCons (eOp fIx (eVar 0) (eC (.int 1))) (aCons (eVar 1) aNil))))))
def d_is_atom : Df := ⟨2, 2, b_is_atom⟩
/-- is_formula(datum, names); slots datum, names, part -/
def b_is_formula (G : Ga) : Fs :=
sSeq (sIf (cOr (cNot (cV (eFn (fIsi "tuple") (aCons (eVar 0) aNil)))) (cOr (cB (eOp fEq (eVar 0) (eTup (aNil)))) (cNot (cV (eFn (fIsi "str") (aCons (eOp fIx (eVar 0) (eC (.int 0))) aNil)))))) (
sRet (eC (.bl false))) (
sNx)) (
sSeq (sIf (cB (eOp fIn (eOp fIx (eVar 0) (eC (.int 0))) (eC c_JOINED))) (
sSeq (sIf (cOr (cNot (cV (eCall G f_is_tuple (aCons (eVar 0) (aCons (eC (.int 2)) aNil))))) (cNot (cV (eFn (fIsi "tuple") (aCons (eOp fIx (eVar 0) (eC (.int 1))) aNil))))) (
sRet (eC (.bl false))) (
sNx)) (
sRet (eGc (eFn fAll (aCons (eLc (iA (eOp fIx (eVar 0) (eC (.int 1)))) (gN 2) (cYes) (eCall G f_is_formula (aCons (eVar 2) (aCons (eVar 1) aNil))) [2]) aNil))))) (
sNx)) (
sSeq (sIf (cB (eOp fIn (eOp fIx (eVar 0) (eC (.int 0))) (eC c_TURNS))) (
sSeq (sIf (cOr (cNot (cV (eCall G f_is_tuple (aCons (eVar 0) (aCons (eC (.int 3)) aNil))))) (cOr (cNot (cV (eCall G f_is_name (aCons (eOp fIx (eVar 0) (eC (.int 1))) aNil)))) (cB (eOp fInA (eOp fIx (eVar 0) (eC (.int 1))) (eVar 1))))) (
sRet (eC (.bl false))) (
sNx)) (
sRet (eCall G f_is_formula (aCons (eOp fIx (eVar 0) (eC (.int 2))) (aCons (eOp fAdd (eVar 1) (eTup (aCons (eOp fIx (eVar 0) (eC (.int 1))) aNil))) aNil))))) (
sNx)) (
sRet (eCall G f_is_atom (aCons (eVar 0) (aCons (eVar 1) aNil))))))
def d_is_formula : Df := ⟨2, 3, b_is_formula⟩
/-- _law_start(script); slots script -/
def b__law_start (G : Ga) : Fs :=
sRet (eLst (aCons (eFn fListA (aCons (eVar 0) aNil)) (aCons (eC (.int 0)) (aCons (eC (.int 0)) (aCons (eC (.int 0)) aNil)))))
def d__law_start : Df := ⟨1, 1, b__law_start⟩
/-- _law_draw(state, most); slots state, most, found, cell, mixed -/
def b__law_draw (G : Ga) : Fs :=
sSeq (sAsg (gIx fSetL (eVar 0) (eC (.int 3))) (eOp fAdd (eOp fIx (eVar 0) (eC (.int 3))) (eC (.int 1)))) (
sSeq (sIf (cB (eOp fGt (eOp fIx (eVar 0) (eC (.int 2))) (eC (.int 0)))) (
sSeq (sSet 2 (eOp fMod (eFn fIntOf (aCons (eOp fIx (eVar 0) (eC (.int 2))) aNil)) (eVar 1))) (
sSeq (sAsg (gIx fSetL (eVar 0) (eC (.int 2))) (eOp fDiv (eOp fIx (eVar 0) (eC (.int 2))) (eVar 1))) (
sRet (eVar 2)))) (
sNx)) (
sSeq (sSet 3 (eC (.int 0))) (
sSeq (sIf (cB (eOp fGt (eFn fLen (aCons (eOp fIx (eVar 0) (eC (.int 0))) aNil)) (eC (.int 0)))) (
sSet 3 (eFn fAbs (aCons (eOp fIxA (eOp fIx (eVar 0) (eC (.int 0))) (eOp fMod (eFn fIntOf (aCons (eOp fIx (eVar 0) (eC (.int 1))) aNil)) (eFn fLen (aCons (eOp fIx (eVar 0) (eC (.int 0))) aNil)))) aNil))) (
sNx)) (
sSeq (sAsg (gIx fSetL (eVar 0) (eC (.int 1))) (eOp fAdd (eOp fIx (eVar 0) (eC (.int 1))) (eC (.int 1)))) (
sSeq (sIf (cB (eOp fGe (eVar 3) (eOp fPow (eC (.int 10)) (eC (.int 18))))) (
sSeq (sAsg (gIx fSetL (eVar 0) (eC (.int 2))) (eOp fDiv (eVar 3) (eVar 1))) (
sRet (eOp fMod (eFn fIntOf (aCons (eVar 3) aNil)) (eVar 1)))) (
sNx)) (
sSeq (sSet 4 (eOp fMod (eFn fIntOf (aCons (eOp fAdd (eOp fMul (eOp fAdd (eVar 3) (eC (.int 1))) (eC (.int 48271))) (eOp fMul (eOp fIx (eVar 0) (eC (.int 3))) (eC (.int 69621)))) aNil)) (eC (.int 2147483647)))) (
sSeq (sSet 4 (eOp fMod (eFn fIntOf (aCons (eOp fAdd (eOp fAdd (eOp fMul (eVar 4) (eC (.int 16807))) (eOp fDiv (eVar 3) (eC (.int 97)))) (eOp fIx (eVar 0) (eC (.int 3)))) aNil)) (eC (.int 2147483629)))) (
sRet (eOp fMod (eOp fDiv (eVar 4) (eC (.int 11))) (eVar 1))))))))))
def d__law_draw : Df := ⟨2, 5, b__law_draw⟩
/-- _law_words(state, many); slots state, many, letters, start, step, shared, k -/
def b__law_words (G : Ga) : Fs :=
sSeq (sSet 2 (eC (.str [97, 98, 99, 100, 101, 102, 103, 104, 105, 106, 107, 108, 109, 110, 111, 112, 113, 114, 115, 116, 117, 118, 119, 120, 121, 122]))) (
sSeq (sSet 3 (eCall G f__law_draw (aCons (eVar 0) (aCons (eC (.int 26)) aNil)))) (
sSeq (sSet 4 (eOp fAdd (eC (.int 1)) (eOp fMul (eC (.int 2)) (eCall G f__law_draw (aCons (eVar 0) (aCons (eC (.int 6)) aNil)))))) (
sSeq (sSet 5 (eSl fSl (eC (.str [113, 120, 122])) (oNone) (oSome (eCall G f__law_draw (aCons (eVar 0) (aCons (eC (.int 4)) aNil)))))) (
sSeq (sIf (cB (eOp fEq (eCall G f__law_draw (aCons (eVar 0) (aCons (eC (.int 2)) aNil))) (eC (.int 0)))) (
sRet (eLc (iRg rg1 (aCons (eVar 1) aNil)) (gN 6) (cYes) (eOp fAdd (eVar 5) (eOp fIxA (eVar 2) (eOp fMod (eFn fIntOf (aCons (eOp fAdd (eVar 3) (eOp fMul (eVar 6) (eVar 4))) aNil)) (eC (.int 26))))) [6])) (
sNx)) (
sRet (eLc (iRg rg1 (aCons (eVar 1) aNil)) (gN 6) (cYes) (eOp fAdd (eOp fIxA (eVar 2) (eOp fMod (eFn fIntOf (aCons (eOp fAdd (eVar 3) (eOp fMul (eVar 6) (eVar 4))) aNil)) (eC (.int 26)))) (eVar 5)) [6]))))))
def d__law_words : Df := ⟨2, 7, b__law_words⟩
/-- _law_var(name); slots name -/
def b__law_var (G : Ga) : Fs :=
sRet (eTup (aCons (eC (.int 0)) (aCons (eTup (aCons (eTup (aCons (eVar 0) (aCons (eC (.int 1)) aNil))) aNil)) aNil)))
def d__law_var : Df := ⟨1, 1, b__law_var⟩
/-- _law_form(constant, pairs); slots constant, pairs, sums, name, number -/
def b__law_form (G : Ga) : Fs :=
sSeq (sSet 2 (eDic0)) (
sSeq (sFor (iA (eVar 1)) (gT 2 (gsCons (gN 3) (gsCons (gN 4) (gsNil)))) (
sPutA (eVar 2) (eVar 3) (eOp fAdd (eGet2 (eVar 2) (eVar 3) (eC (.int 0))) (eVar 4)))) (
sRet (eTup (aCons (eVar 0) (aCons (eGc (eFn fTuple (aCons (eLc (iA (eFn fSorted (aCons (eVar 2) aNil))) (gN 3) (cB (eOp fNe (eOp fIxA (eVar 2) (eVar 3)) (eC (.int 0)))) (eTup (aCons (eVar 3) (aCons (eOp fIxA (eVar 2) (eVar 3)) aNil))) [3]) aNil))) aNil)))))
def d__law_form : Df := ⟨2, 5, b__law_form⟩
/-- _law_sum(parts); slots parts, constant, pairs, factor, f, name, number -/
def b__law_sum (G : Ga) : Fs :=
sSeq (sSet 1 (eC (.int 0))) (
sSeq (sSet 2 (eLst (aNil))) (
sSeq (sFor (iA (eVar 0)) (gT 2 (gsCons (gN 3) (gsCons (gN 4) (gsNil)))) (
sSeq (sSet 1 (eOp fAdd (eVar 1) (eOp fMul (eVar 3) (eOp fIx (eVar 4) (eC (.int 0)))))) (
sFor (iA (eOp fIx (eVar 4) (eC (.int 1)))) (gT 2 (gsCons (gN 5) (gsCons (gN 6) (gsNil)))) (
sEx (eMet .list fAppend (eVar 2) (aCons (eTup (aCons (eVar 5) (aCons (eOp fMul (eVar 3) (eVar 6)) aNil))) aNil)))))) (
sRet (eCall G f__law_form (aCons (eVar 1) (aCons (eVar 2) aNil))))))
def d__law_sum : Df := ⟨1, 7, b__law_sum⟩
/-- _law_below(f); slots f -/
def b__law_below (G : Ga) : Fs :=
sRet (eCall G f__law_sum (aCons (eLst (aCons (eTup (aCons (eUn fNeg (eC (.int 1))) (aCons (eVar 0) aNil))) (aCons (eTup (aCons (eUn fNeg (eC (.int 1))) (aCons (eTup (aCons (eC (.int 1)) (aCons (eTup (aNil)) aNil))) aNil))) aNil))) aNil))
def d__law_below : Df := ⟨1, 1, b__law_below⟩
/-- _law_more(f, k); slots f, k -/
def b__law_more (G : Ga) : Fs :=
sRet (eTup (aCons (eOp fAdd (eOp fIx (eVar 0) (eC (.int 0))) (eVar 1)) (aCons (eOp fIx (eVar 0) (eC (.int 1))) aNil)))
def d__law_more : Df := ⟨2, 2, b__law_more⟩
/-- _law_joined(kind, parts); slots kind, parts, found, part -/
def b__law_joined (G : Ga) : Fs :=
sSeq (sSet 2 (eTup (aNil))) (
sSeq (sFor (iA (eVar 1)) (gN 3) (
sIf (cB (eOp fEq (eOp fIx (eVar 3) (eC (.int 0))) (eVar 0))) (
sSet 2 (eOp fAdd (eVar 2) (eOp fIx (eVar 3) (eC (.int 1))))) (
sSet 2 (eOp fAdd (eVar 2) (eTup (aCons (eVar 3) aNil)))))) (
sRet (eTup (aCons (eVar 0) (aCons (eVar 2) aNil)))))
def d__law_joined : Df := ⟨2, 4, b__law_joined⟩
/-- _law_opposite(F); slots F, kind, part -/
def b__law_opposite (G : Ga) : Fs :=
sSeq (sSet 1 (eOp fIx (eVar 0) (eC (.int 0)))) (
sSeq (sIf (cB (eOp fEq (eVar 1) (eC (.str [108, 101, 97, 115, 116])))) (
sRet (eTup (aCons (eC (.str [108, 101, 97, 115, 116])) (aCons (eCall G f__law_below (aCons (eOp fIx (eVar 0) (eC (.int 1))) aNil)) aNil)))) (
sNx)) (
sSeq (sIf (cB (eOp fEq (eVar 1) (eC (.str [115, 97, 109, 101])))) (
sRet (eTup (aCons (eC (.str [111, 114])) (aCons (eTup (aCons (eTup (aCons (eC (.str [108, 101, 97, 115, 116])) (aCons (eCall G f__law_more (aCons (eOp fIx (eVar 0) (eC (.int 1))) (aCons (eUn fNeg (eC (.int 1))) aNil))) aNil))) (aCons (eTup (aCons (eC (.str [108, 101, 97, 115, 116])) (aCons (eCall G f__law_below (aCons (eOp fIx (eVar 0) (eC (.int 1))) aNil)) aNil))) aNil))) aNil)))) (
sNx)) (
sSeq (sIf (cB (eOp fIn (eVar 1) (eLst (aCons (eC (.str [100, 105, 118, 105, 100, 101, 115])) (aCons (eC (.str [115, 112, 108, 105, 116, 115])) aNil))))) (
sRet (eOp fAdd (eTup (aCons (eOp fIxA (eLst (aCons (eC (.str [100, 105, 118, 105, 100, 101, 115])) (aCons (eC (.str [115, 112, 108, 105, 116, 115])) aNil))) (eFn fIntOf (aCons (eOp fEq (eVar 1) (eC (.str [100, 105, 118, 105, 100, 101, 115]))) aNil))) aNil)) (eSl fSl (eVar 0) (oSome (eC (.int 1))) (oNone)))) (
sNx)) (
sSeq (sIf (cB (eOp fIn (eVar 1) (eLst (aCons (eC (.str [97, 108, 108])) (aCons (eC (.str [115, 111, 109, 101])) aNil))))) (
sRet (eTup (aCons (eOp fIxA (eLst (aCons (eC (.str [97, 108, 108])) (aCons (eC (.str [115, 111, 109, 101])) aNil))) (eFn fIntOf (aCons (eOp fEq (eVar 1) (eC (.str [97, 108, 108]))) aNil))) (aCons (eOp fIx (eVar 0) (eC (.int 1))) (aCons (eCall G f__law_opposite (aCons (eOp fIx (eVar 0) (eC (.int 2))) aNil)) aNil))))) (
sNx)) (
sRet (eCall G f__law_joined (aCons (eOp fIxA (eLst (aCons (eC (.str [111, 114])) (aCons (eC (.str [97, 110, 100])) aNil))) (eFn fIntOf (aCons (eOp fEq (eVar 1) (eC (.str [111, 114]))) aNil))) (aCons (eLc (iA (eOp fIx (eVar 0) (eC (.int 1)))) (gN 2) (cYes) (eCall G f__law_opposite (aCons (eVar 2) aNil)) [2]) aNil))))))))
def d__law_opposite : Df := ⟨1, 3, b__law_opposite⟩
/-- _law_sum_form(e, table); slots e, table, sign -/
def b__law_sum_form (G : Ga) : Fs :=
sSeq (sIf (cB (eOp fEq (eOp fIx (eVar 0) (eC (.int 0))) (eC (.str [110, 117, 109, 98, 101, 114])))) (
sRet (eTup (aCons (eOp fIx (eVar 0) (eC (.int 1))) (aCons (eTup (aNil)) aNil)))) (
sNx)) (
sSeq (sIf (cB (eOp fEq (eOp fIx (eVar 0) (eC (.int 0))) (eC (.str [110, 97, 109, 101])))) (
sRet (eOp fIxA (eVar 1) (eOp fIx (eVar 0) (eC (.int 1))))) (
sNx)) (
sSeq (sIf (cB (eOp fEq (eOp fIx (eVar 0) (eC (.int 0))) (eC (.str [116, 105, 109, 101, 115])))) (
sRet (eCall G f__law_sum (aCons (eLst (aCons (eTup (aCons (eOp fIx (eVar 0) (eC (.int 1))) (aCons (eCall G f__law_sum_form (aCons (eOp fIx (eVar 0) (eC (.int 2))) (aCons (eVar 1) aNil))) aNil))) aNil)) aNil))) (
sNx)) (
sSeq (sIf (cB (eOp fEq (eOp fIx (eVar 0) (eC (.int 0))) (eC (.str [110, 101, 103, 97, 116, 101])))) (
sRet (eCall G f__law_sum (aCons (eLst (aCons (eTup (aCons (eUn fNeg (eC (.int 1))) (aCons (eCall G f__law_sum_form (aCons (eOp fIx (eVar 0) (eC (.int 1))) (aCons (eVar 1) aNil))) aNil))) aNil)) aNil))) (
sNx)) (
sSeq (sSet 2 (eOp fSub (eC (.int 1)) (eOp fMul (eC (.int 2)) (eFn fIntOf (aCons (eOp fEq (eOp fIx (eVar 0) (eC (.int 0))) (eC (.str [109, 105, 110, 117, 115]))) aNil))))) (
sRet (eCall G f__law_sum (aCons (eLst (aCons (eTup (aCons (eC (.int 1)) (aCons (eCall G f__law_sum_form (aCons (eOp fIx (eVar 0) (eC (.int 1))) (aCons (eVar 1) aNil))) aNil))) (aCons (eTup (aCons (eVar 2) (aCons (eCall G f__law_sum_form (aCons (eOp fIx (eVar 0) (eC (.int 2))) (aCons (eVar 1) aNil))) aNil))) aNil))) aNil)))))))
def d__law_sum_form : Df := ⟨2, 3, b__law_sum_form⟩
/-- _law_atom_core(F, table); slots F, table, f, g, less, more -/
def b__law_atom_core (G : Ga) : Fs :=
sSeq (sSet 2 (eCall G f__law_sum_form (aCons (eOp fIx (eVar 0) (eC (.int 2))) (aCons (eVar 1) aNil)))) (
sSeq (sIf (cB (eOp fEq (eOp fIx (eVar 0) (eC (.int 0))) (eC (.str [114, 101, 115, 116])))) (
sRet (eTup (aCons (eOp fIxA (eLst (aCons (eC (.str [115, 112, 108, 105, 116, 115])) (aCons (eC (.str [100, 105, 118, 105, 100, 101, 115])) aNil))) (eFn fIntOf (aCons (eOp fEq (eOp fIx (eVar 0) (eC (.int 1))) (eC (.str [61, 61]))) aNil))) (aCons (eOp fIx (eVar 0) (eC (.int 3))) (aCons (eCall G f__law_more (aCons (eVar 2) (aCons (eUn fNeg (eOp fIx (eVar 0) (eC (.int 4)))) aNil))) aNil))))) (
sNx)) (
sSeq (sSet 3 (eCall G f__law_sum_form (aCons (eOp fIx (eVar 0) (eC (.int 3))) (aCons (eVar 1) aNil)))) (
sSeq (sSet 4 (eCall G f__law_sum (aCons (eLst (aCons (eTup (aCons (eC (.int 1)) (aCons (eVar 3) aNil))) (aCons (eTup (aCons (eUn fNeg (eC (.int 1))) (aCons (eVar 2) aNil))) aNil))) aNil))) (
sSeq (sSet 5 (eCall G f__law_sum (aCons (eLst (aCons (eTup (aCons (eC (.int 1)) (aCons (eVar 2) aNil))) (aCons (eTup (aCons (eUn fNeg (eC (.int 1))) (aCons (eVar 3) aNil))) aNil))) aNil))) (
sSeq (sIf (cB (eOp fIn (eOp fIx (eVar 0) (eC (.int 1))) (eLst (aCons (eC (.str [60])) (aCons (eC (.str [60, 61])) aNil))))) (
sRet (eTup (aCons (eC (.str [108, 101, 97, 115, 116])) (aCons (eCall G f__law_more (aCons (eVar 4) (aCons (eUn fNeg (eFn fIntOf (aCons (eOp fEq (eOp fIx (eVar 0) (eC (.int 1))) (eC (.str [60]))) aNil))) aNil))) aNil)))) (
sNx)) (
sSeq (sIf (cB (eOp fIn (eOp fIx (eVar 0) (eC (.int 1))) (eLst (aCons (eC (.str [62])) (aCons (eC (.str [62, 61])) aNil))))) (
sRet (eTup (aCons (eC (.str [108, 101, 97, 115, 116])) (aCons (eCall G f__law_more (aCons (eVar 5) (aCons (eUn fNeg (eFn fIntOf (aCons (eOp fEq (eOp fIx (eVar 0) (eC (.int 1))) (eC (.str [62]))) aNil))) aNil))) aNil)))) (
sNx)) (
sSeq (sIf (cB (eOp fEq (eOp fIx (eVar 0) (eC (.int 1))) (eC (.str [61, 61])))) (
sRet (eTup (aCons (eC (.str [115, 97, 109, 101])) (aCons (eVar 5) aNil)))) (
sNx)) (
sRet (eCall G f__law_opposite (aCons (eTup (aCons (eC (.str [115, 97, 109, 101])) (aCons (eVar 5) aNil))) aNil))))))))))
def d__law_atom_core : Df := ⟨2, 6, b__law_atom_core⟩
/-- _law_core(others, F, table, count); slots others, F, table, count, kind, name, inner, first, other, opens, body, k, saying -/
def b__law_core (G : Ga) : Fs :=
sSeq (sSet 4 (eOp fIx (eVar 1) (eC (.int 0)))) (
sSeq (sIf (cB (eOp fIn (eVar 4) (eLst (aCons (eC (.str [97, 108, 108])) (aCons (eC (.str [115, 111, 109, 101])) aNil))))) (
sSeq (sAsg (gIx fSetL (eVar 3) (eC (.int 0))) (eOp fAdd (eOp fIx (eVar 3) (eC (.int 0))) (eC (.int 1)))) (
sSeq (sSet 5 (eOp fAdd (eC (.str [35])) (eFn fStr (aCons (eOp fIx (eVar 3) (eC (.int 0))) aNil)))) (
sSeq (sSet 6 (eFn fDict (aCons (eVar 2) aNil))) (
sSeq (sPutA (eVar 6) (eOp fIx (eVar 1) (eC (.int 1))) (eCall G f__law_var (aCons (eVar 5) aNil))) (
sRet (eTup (aCons (eVar 4) (aCons (eVar 5) (aCons (eCall G f__law_core (aCons (eVar 0) (aCons (eOp fIx (eVar 1) (eC (.int 2))) (aCons (eVar 6) (aCons (eVar 3) aNil))))) aNil))))))))) (
sNx)) (
sSeq (sIf (cB (eOp fEq (eVar 4) (eC (.str [110, 111, 116])))) (
sRet (eCall G f__law_opposite (aCons (eCall G f__law_core (aCons (eVar 0) (aCons (eOp fIx (eVar 1) (eC (.int 1))) (aCons (eVar 2) (aCons (eVar 3) aNil))))) aNil))) (
sNx)) (
sSeq (sIf (cB (eOp fIn (eVar 4) (eLst (aCons (eC (.str [116, 104, 101, 110])) (aCons (eC (.str [111, 114])) (aCons (eC (.str [97, 110, 100])) aNil)))))) (
sSeq (sSet 7 (eCall G f__law_core (aCons (eVar 0) (aCons (eOp fIx (eVar 1) (eC (.int 1))) (aCons (eVar 2) (aCons (eVar 3) aNil)))))) (
sSeq (sSet 8 (eCall G f__law_core (aCons (eVar 0) (aCons (eOp fIx (eVar 1) (eC (.int 2))) (aCons (eVar 2) (aCons (eVar 3) aNil)))))) (
sSeq (sIf (cB (eOp fEq (eVar 4) (eC (.str [116, 104, 101, 110])))) (
sRet (eCall G f__law_joined (aCons (eC (.str [111, 114])) (aCons (eLst (aCons (eCall G f__law_opposite (aCons (eVar 7) aNil)) (aCons (eVar 8) aNil))) aNil)))) (
sNx)) (
sRet (eCall G f__law_joined (aCons (eVar 4) (aCons (eLst (aCons (eVar 7) (aCons (eVar 8) aNil))) aNil))))))) (
sNx)) (
sSeq (sIf (cB (eOp fEq (eVar 4) (eC (.str [99, 97, 108, 108])))) (
sSeq (sAsg (gT 3 (gsCons (gN 5) (gsCons (gN 9) (gsCons (gN 10) (gsNil))))) (eOp fIx (eLc (iA (eVar 0)) (gN 12) (cB (eOp fEq (eOp fIx (eVar 12) (eC (.int 0))) (eOp fIx (eVar 1) (eC (.int 1))))) (eVar 12) [12]) (eC (.int 0)))) (
sSeq (sSet 6 (eDic0)) (
sSeq (sFor (iRg rg1 (aCons (eFn fLen (aCons (eVar 9) aNil)) aNil)) (gN 11) (
sPutA (eVar 6) (eOp fIxA (eVar 9) (eVar 11)) (eCall G f__law_sum_form (aCons (eOp fIxA (eOp fIx (eVar 1) (eC (.int 2))) (eVar 11)) (aCons (eVar 2) aNil))))) (
sRet (eCall G f__law_core (aCons (eVar 0) (aCons (eVar 10) (aCons (eVar 6) (aCons (eVar 3) aNil))))))))) (
sNx)) (
sRet (eCall G f__law_atom_core (aCons (eVar 1) (aCons (eVar 2) aNil))))))))
def d__law_core : Df := ⟨4, 13, b__law_core⟩
/-- _law_one_of(state, items); slots state, items -/
def b__law_one_of (G : Ga) : Fs :=
sRet (eOp fIxA (eVar 1) (eCall G f__law_draw (aCons (eVar 0) (aCons (eFn fLen (aCons (eVar 1) aNil)) aNil))))
def d__law_one_of : Df := ⟨2, 2, b__law_one_of⟩
/-- _law_sum_ast(state, names, depth); slots state, names, depth, pick, first -/
def b__law_sum_ast (G : Ga) : Fs :=
sSeq (sSet 3 (eCall G f__law_draw (aCons (eVar 0) (aCons (eC (.int 9)) aNil)))) (
sSeq (sIf (cAnd (cB (eOp fNe (eVar 1) (eLst (aNil)))) (cOr (cB (eOp fLt (eVar 3) (eC (.int 3)))) (cAnd (cB (eOp fEq (eVar 2) (eC (.int 0)))) (cB (eOp fLt (eVar 3) (eC (.int 7))))))) (
sRet (eTup (aCons (eC (.str [110, 97, 109, 101])) (aCons (eCall G f__law_one_of (aCons (eVar 0) (aCons (eVar 1) aNil))) aNil)))) (
sNx)) (
sSeq (sIf (cOr (cB (eOp fEq (eVar 3) (eC (.int 3)))) (cB (eOp fEq (eVar 2) (eC (.int 0))))) (
sRet (eTup (aCons (eC (.str [110, 117, 109, 98, 101, 114])) (aCons (eOp fIxA (eLst (aCons (eCall G f__law_draw (aCons (eVar 0) (aCons (eC (.int 10)) aNil))) (aCons (eCall G f__law_draw (aCons (eVar 0) (aCons (eC (.int 1000)) aNil))) aNil))) (eFn fIntOf (aCons (eOp fEq (eCall G f__law_draw (aCons (eVar 0) (aCons (eC (.int 9)) aNil))) (eC (.int 0))) aNil))) aNil)))) (
sNx)) (
sSeq (sIf (cB (eOp fEq (eVar 3) (eC (.int 4)))) (
sRet (eTup (aCons (eC (.str [116, 105, 109, 101, 115])) (aCons (eCall G f__law_draw (aCons (eVar 0) (aCons (eC (.int 4)) aNil))) (aCons (eCall G f__law_sum_ast (aCons (eVar 0) (aCons (eVar 1) (aCons (eOp fSub (eVar 2) (eC (.int 1))) aNil)))) aNil))))) (
sNx)) (
sSeq (sIf (cB (eOp fEq (eVar 3) (eC (.int 5)))) (
sRet (eTup (aCons (eC (.str [110, 101, 103, 97, 116, 101])) (aCons (eCall G f__law_sum_ast (aCons (eVar 0) (aCons (eVar 1) (aCons (eOp fSub (eVar 2) (eC (.int 1))) aNil)))) aNil)))) (
sNx)) (
sSeq (sSet 4 (eCall G f__law_sum_ast (aCons (eVar 0) (aCons (eVar 1) (aCons (eOp fSub (eVar 2) (eC (.int 1))) aNil))))) (
sRet (eTup (aCons (eOp fIxA (eLst (aCons (eC (.str [112, 108, 117, 115])) (aCons (eC (.str [109, 105, 110, 117, 115])) aNil))) (eCall G f__law_draw (aCons (eVar 0) (aCons (eC (.int 2)) aNil)))) (aCons (eVar 4) (aCons (eCall G f__law_sum_ast (aCons (eVar 0) (aCons (eVar 1) (aCons (eOp fSub (eVar 2) (eC (.int 1))) aNil)))) aNil))))))))))
def d__law_sum_ast : Df := ⟨3, 5, b__law_sum_ast⟩
/-- _law_atom_ast(state, names, depth); slots state, names, depth, first, divisor, sign -/
def b__law_atom_ast (G : Ga) : Fs :=
sSeq (sSet 3 (eCall G f__law_sum_ast (aCons (eVar 0) (aCons (eVar 1) (aCons (eVar 2) aNil))))) (
sSeq (sIf (cB (eOp fEq (eCall G f__law_draw (aCons (eVar 0) (aCons (eC (.int 3)) aNil))) (eC (.int 0)))) (
sSeq (sSet 4 (eOp fAdd (eC (.int 2)) (eCall G f__law_draw (aCons (eVar 0) (aCons (eC (.int 4)) aNil))))) (
sRet (eTup (aCons (eC (.str [114, 101, 115, 116])) (aCons (eOp fIxA (eLst (aCons (eC (.str [61, 61])) (aCons (eC (.str [33, 61])) aNil))) (eCall G f__law_draw (aCons (eVar 0) (aCons (eC (.int 2)) aNil)))) (aCons (eVar 3) (aCons (eVar 4) (aCons (eCall G f__law_draw (aCons (eVar 0) (aCons (eVar 4) aNil))) aNil)))))))) (
sNx)) (
sSeq (sSet 5 (eOp fIxA (eLst (aCons (eC (.str [60])) (aCons (eC (.str [60, 61])) (aCons (eC (.str [62])) (aCons (eC (.str [62, 61])) (aCons (eC (.str [61, 61])) (aCons (eC (.str [33, 61])) aNil))))))) (eCall G f__law_draw (aCons (eVar 0) (aCons (eC (.int 6)) aNil))))) (
sRet (eTup (aCons (eC (.str [99, 111, 109, 112, 97, 114, 101])) (aCons (eVar 5) (aCons (eVar 3) (aCons (eCall G f__law_sum_ast (aCons (eVar 0) (aCons (eVar 1) (aCons (eVar 2) aNil)))) aNil))))))))
def d__law_atom_ast : Df := ⟨3, 6, b__law_atom_ast⟩
/-- _law_condition(state, names, depth); slots state, names, depth, pick, kind, first -/
def b__law_condition (G : Ga) : Fs :=
sSeq (sSet 3 (eCall G f__law_draw (aCons (eVar 0) (aCons (eC (.int 7)) aNil)))) (
sSeq (sIf (cOr (cB (eOp fEq (eVar 2) (eC (.int 0)))) (cB (eOp fLt (eVar 3) (eC (.int 3))))) (
sRet (eCall G f__law_atom_ast (aCons (eVar 0) (aCons (eVar 1) (aCons (eC (.int 1)) aNil))))) (
sNx)) (
sSeq (sIf (cB (eOp fEq (eVar 3) (eC (.int 3)))) (
sRet (eTup (aCons (eC (.str [110, 111, 116])) (aCons (eCall G f__law_condition (aCons (eVar 0) (aCons (eVar 1) (aCons (eOp fSub (eVar 2) (eC (.int 1))) aNil)))) aNil)))) (
sNx)) (
sSeq (sSet 4 (eOp fIxA (eLst (aCons (eC (.str [111, 114])) (aCons (eC (.str [97, 110, 100])) aNil))) (eCall G f__law_draw (aCons (eVar 0) (aCons (eC (.int 2)) aNil))))) (
sSeq (sSet 5 (eCall G f__law_condition (aCons (eVar 0) (aCons (eVar 1) (aCons (eOp fSub (eVar 2) (eC (.int 1))) aNil))))) (
sRet (eTup (aCons (eVar 4) (aCons (eVar 5) (aCons (eCall G f__law_condition (aCons (eVar 0) (aCons (eVar 1) (aCons (eOp fSub (eVar 2) (eC (.int 1))) aNil)))) aNil)))))))))
def d__law_condition : Df := ⟨3, 6, b__law_condition⟩
/-- _law_is_int(x); slots x -/
def b__law_is_int (G : Ga) : Fs :=
sRet (eAnd (eFn (fIsi "int") (aCons (eVar 0) aNil)) (eT (cNot (cB (eFn (fIsi "bool") (aCons (eVar 0) aNil))))))
def d__law_is_int : Df := ⟨1, 1, b__law_is_int⟩
/-- _law_same(x, y); slots x, y, k -/
def b__law_same (G : Ga) : Fs :=
sSeq (sIf (cV (eFn (fIsi "tuple") (aCons (eVar 1) aNil))) (
sSeq (sIf (cOr (cNot (cV (eFn (fIsi "tuple") (aCons (eVar 0) aNil)))) (cB (eOp fNe (eFn fLen (aCons (eVar 0) aNil)) (eFn fLen (aCons (eVar 1) aNil))))) (
sRet (eC (.bl false))) (
sNx)) (
sRet (eGc (eFn fAll (aCons (eLc (iRg rg1 (aCons (eFn fLen (aCons (eVar 1) aNil)) aNil)) (gN 2) (cYes) (eCall G f__law_same (aCons (eOp fIxA (eVar 0) (eVar 2)) (aCons (eOp fIxA (eVar 1) (eVar 2)) aNil))) [2]) aNil))))) (
sNx)) (
sSeq (sIf (cV (eFn (fIsi "str") (aCons (eVar 1) aNil))) (
sRet (eAnd (eFn (fIsi "str") (aCons (eVar 0) aNil)) (eOp fEq (eVar 0) (eVar 1)))) (
sNx)) (
sRet (eAnd (eCall G f__law_is_int (aCons (eVar 0) aNil)) (eOp fEq (eVar 0) (eVar 1)))))
def d__law_same : Df := ⟨2, 3, b__law_same⟩
/-- _law_turns(F); slots F, found, part -/
def b__law_turns (G : Ga) : Fs :=
sSeq (sIf (cB (eOp fIn (eOp fIx (eVar 0) (eC (.int 0))) (eLst (aCons (eC (.str [97, 110, 100])) (aCons (eC (.str [111, 114])) aNil))))) (
sSeq (sSet 1 (eLst (aNil))) (
sSeq (sFor (iA (eOp fIx (eVar 0) (eC (.int 1)))) (gN 2) (
sSet 1 (eOp fAdd (eVar 1) (eCall G f__law_turns (aCons (eVar 2) aNil))))) (
sRet (eVar 1)))) (
sNx)) (
sSeq (sIf (cB (eOp fIn (eOp fIx (eVar 0) (eC (.int 0))) (eLst (aCons (eC (.str [97, 108, 108])) (aCons (eC (.str [115, 111, 109, 101])) aNil))))) (
sRet (eOp fAdd (eLst (aCons (eOp fIx (eVar 0) (eC (.int 1))) aNil)) (eCall G f__law_turns (aCons (eOp fIx (eVar 0) (eC (.int 2))) aNil)))) (
sNx)) (
sRet (eLst (aNil))))
def d__law_turns : Df := ⟨1, 3, b__law_turns⟩
/-- _law_atoms(F); slots F, found, part -/
def b__law_atoms (G : Ga) : Fs :=
sSeq (sIf (cB (eOp fIn (eOp fIx (eVar 0) (eC (.int 0))) (eLst (aCons (eC (.str [97, 110, 100])) (aCons (eC (.str [111, 114])) aNil))))) (
sSeq (sSet 1 (eLst (aNil))) (
sSeq (sFor (iA (eOp fIx (eVar 0) (eC (.int 1)))) (gN 2) (
sSet 1 (eOp fAdd (eVar 1) (eCall G f__law_atoms (aCons (eVar 2) aNil))))) (
sRet (eVar 1)))) (
sNx)) (
sSeq (sIf (cB (eOp fIn (eOp fIx (eVar 0) (eC (.int 0))) (eLst (aCons (eC (.str [97, 108, 108])) (aCons (eC (.str [115, 111, 109, 101])) aNil))))) (
sRet (eCall G f__law_atoms (aCons (eOp fIx (eVar 0) (eC (.int 2))) aNil))) (
sNx)) (
sRet (eLst (aCons (eVar 0) aNil))))
def d__law_atoms : Df := ⟨1, 3, b__law_atoms⟩
/-- _law_open_names(F); slots F, found, turns, atom, name, number -/
def b__law_open_names (G : Ga) : Fs :=
sSeq (sSet 1 (eLst (aNil))) (
sSeq (sSet 2 (eCall G f__law_turns (aCons (eVar 0) aNil))) (
sSeq (sFor (iA (eCall G f__law_atoms (aCons (eVar 0) aNil))) (gN 3) (
sFor (iA (eOp fIx (eOp fIx (eVar 3) (eUn fNeg (eC (.int 1)))) (eC (.int 1)))) (gT 2 (gsCons (gN 4) (gsCons (gN 5) (gsNil)))) (
sIf (cAnd (cB (eOp fNotInA (eVar 4) (eVar 1))) (cB (eOp fNotInA (eVar 4) (eVar 2)))) (
sEx (eMet .list fAppend (eVar 1) (aCons (eVar 4) aNil))) (
sNx)))) (
sRet (eGc (eFn fTuple (aCons (eFn fSorted (aCons (eVar 1) aNil)) aNil))))))
def d__law_open_names : Df := ⟨1, 6, b__law_open_names⟩
/-- _law_at(f, table); slots f, table, total, name, number -/
def b__law_at (G : Ga) : Fs :=
sSeq (sSet 2 (eOp fIx (eVar 0) (eC (.int 0)))) (
sSeq (sFor (iA (eOp fIx (eVar 0) (eC (.int 1)))) (gT 2 (gsCons (gN 3) (gsCons (gN 4) (gsNil)))) (
sSet 2 (eOp fAdd (eVar 2) (eOp fMul (eVar 4) (eOp fIxA (eVar 1) (eVar 3)))))) (
sRet (eVar 2)))
def d__law_at : Df := ⟨2, 5, b__law_at⟩
/-- _law_true(F, table); slots F, table, number, part -/
def b__law_true (G : Ga) : Fs :=
sSeq (sIf (cB (eOp fEq (eOp fIx (eVar 0) (eC (.int 0))) (eC (.str [97, 110, 100])))) (
sRet (eGc (eFn fAll (aCons (eLc (iA (eOp fIx (eVar 0) (eC (.int 1)))) (gN 3) (cYes) (eCall G f__law_true (aCons (eVar 3) (aCons (eVar 1) aNil))) [3]) aNil)))) (
sNx)) (
sSeq (sIf (cB (eOp fEq (eOp fIx (eVar 0) (eC (.int 0))) (eC (.str [111, 114])))) (
sRet (eGc (eFn fAny (aCons (eLc (iA (eOp fIx (eVar 0) (eC (.int 1)))) (gN 3) (cYes) (eCall G f__law_true (aCons (eVar 3) (aCons (eVar 1) aNil))) [3]) aNil)))) (
sNx)) (
sSeq (sSet 2 (eCall G f__law_at (aCons (eOp fIx (eVar 0) (eUn fNeg (eC (.int 1)))) (aCons (eVar 1) aNil)))) (
sSeq (sIf (cB (eOp fEq (eOp fIx (eVar 0) (eC (.int 0))) (eC (.str [108, 101, 97, 115, 116])))) (
sRet (eOp fGe (eVar 2) (eC (.int 0)))) (
sNx)) (
sSeq (sIf (cB (eOp fEq (eOp fIx (eVar 0) (eC (.int 0))) (eC (.str [115, 97, 109, 101])))) (
sRet (eOp fEq (eVar 2) (eC (.int 0)))) (
sNx)) (
sRet (eOp fEq (eOp fEq (eOp fSub (eVar 2) (eOp fMul (eOp fDiv (eVar 2) (eOp fIx (eVar 0) (eC (.int 1)))) (eOp fIx (eVar 0) (eC (.int 1))))) (eC (.int 0))) (eOp fEq (eOp fIx (eVar 0) (eC (.int 0))) (eC (.str [100, 105, 118, 105, 100, 101, 115])))))))))
def d__law_true : Df := ⟨2, 4, b__law_true⟩
/-- _law_shuffled(state, items); slots state, items, found, item -/
def b__law_shuffled (G : Ga) : Fs :=
sSeq (sSet 2 (eLst (aNil))) (
sSeq (sFor (iA (eVar 1)) (gN 3) (
sEx (eMet .list fInsert (eVar 2) (aCons (eCall G f__law_draw (aCons (eVar 0) (aCons (eOp fAdd (eFn fLen (aCons (eVar 2) aNil)) (eC (.int 1))) aNil))) (aCons (eVar 3) aNil))))) (
sRet (eVar 2)))
def d__law_shuffled : Df := ⟨2, 4, b__law_shuffled⟩
/-- _law_put(f, table); slots f, table, parts, name, number -/
def b__law_put (G : Ga) : Fs :=
sSeq (sSet 2 (eLst (aCons (eTup (aCons (eC (.int 1)) (aCons (eTup (aCons (eOp fIx (eVar 0) (eC (.int 0))) (aCons (eTup (aNil)) aNil))) aNil))) aNil))) (
sSeq (sFor (iA (eOp fIx (eVar 0) (eC (.int 1)))) (gT 2 (gsCons (gN 3) (gsCons (gN 4) (gsNil)))) (
sEx (eMet .list fAppend (eVar 2) (aCons (eTup (aCons (eVar 4) (aCons (eGet2 (eVar 1) (eVar 3) (eCall G f__law_var (aCons (eVar 3) aNil))) aNil))) aNil)))) (
sRet (eCall G f__law_sum (aCons (eVar 2) aNil))))
def d__law_put : Df := ⟨2, 5, b__law_put⟩
/-- _law_put_in(F, table); slots F, table, part -/
def b__law_put_in (G : Ga) : Fs :=
sSeq (sIf (cB (eOp fIn (eOp fIx (eVar 0) (eC (.int 0))) (eLst (aCons (eC (.str [97, 110, 100])) (aCons (eC (.str [111, 114])) aNil))))) (
sRet (eTup (aCons (eOp fIx (eVar 0) (eC (.int 0))) (aCons (eGc (eFn fTuple (aCons (eLc (iA (eOp fIx (eVar 0) (eC (.int 1)))) (gN 2) (cYes) (eCall G f__law_put_in (aCons (eVar 2) (aCons (eVar 1) aNil))) [2]) aNil))) aNil)))) (
sNx)) (
sSeq (sIf (cB (eOp fIn (eOp fIx (eVar 0) (eC (.int 0))) (eLst (aCons (eC (.str [97, 108, 108])) (aCons (eC (.str [115, 111, 109, 101])) aNil))))) (
sRet (eTup (aCons (eOp fIx (eVar 0) (eC (.int 0))) (aCons (eOp fIx (eVar 0) (eC (.int 1))) (aCons (eCall G f__law_put_in (aCons (eOp fIx (eVar 0) (eC (.int 2))) (aCons (eVar 1) aNil))) aNil))))) (
sNx)) (
sRet (eOp fAdd (eSl fSl (eVar 0) (oNone) (oSome (eUn fNeg (eC (.int 1))))) (eTup (aCons (eCall G f__law_put (aCons (eOp fIx (eVar 0) (eUn fNeg (eC (.int 1)))) (aCons (eVar 1) aNil))) aNil)))))
def d__law_put_in : Df := ⟨2, 3, b__law_put_in⟩
/-- _law_bent(state, datum, depth); slots state, datum, depth, at, other -/
def b__law_bent (G : Ga) : Fs :=
sSeq (sIf (cAnd (cV (eFn (fIsi "tuple") (aCons (eVar 1) aNil))) (cAnd (cB (eOp fGt (eFn fLen (aCons (eVar 1) aNil)) (eC (.int 0)))) (cAnd (cB (eOp fLt (eVar 2) (eC (.int 12)))) (cB (eOp fGt (eCall G f__law_draw (aCons (eVar 0) (aCons (eC (.int 6)) aNil))) (eC (.int 0))))))) (
sSeq (sSet 3 (eCall G f__law_draw (aCons (eVar 0) (aCons (eFn fLen (aCons (eVar 1) aNil)) aNil)))) (
sRet (eOp fAdd (eOp fAdd (eSl fSl (eVar 1) (oNone) (oSome (eVar 3))) (eTup (aCons (eCall G f__law_bent (aCons (eVar 0) (aCons (eOp fIxA (eVar 1) (eVar 3)) (aCons (eOp fAdd (eVar 2) (eC (.int 1))) aNil)))) aNil))) (eSl fSl (eVar 1) (oSome (eOp fAdd (eVar 3) (eC (.int 1)))) (oNone))))) (
sNx)) (
sSeq (sIf (cV (eFn (fIsi "tuple") (aCons (eVar 1) aNil))) (
sSeq (sSet 3 (eCall G f__law_draw (aCons (eVar 0) (aCons (eOp fAdd (eFn fLen (aCons (eVar 1) aNil)) (eC (.int 1))) aNil)))) (
sSeq (sSet 4 (eLst (aCons (eOp fAdd (eSl fSl (eVar 1) (oNone) (oSome (eVar 3))) (eSl fSl (eVar 1) (oSome (eOp fAdd (eVar 3) (eC (.int 1)))) (oNone))) (aCons (eOp fAdd (eOp fAdd (eSl fSl (eVar 1) (oNone) (oSome (eVar 3))) (eSl fSl (eVar 1) (oSome (eVar 3)) (oSome (eOp fAdd (eVar 3) (eC (.int 1)))))) (eSl fSl (eVar 1) (oSome (eVar 3)) (oNone))) (aCons (eOp fAdd (eVar 1) (eTup (aCons (eC (.int 0)) aNil))) (aCons (eTup (aNil)) (aCons (eC (.int 0)) aNil))))))) (
sRet (eCall G f__law_one_of (aCons (eVar 0) (aCons (eOp fAdd (eVar 4) (eLst (aCons (eOp fAdd (eSl fSl (eVar 1) (oSome (eVar 3)) (oNone)) (eSl fSl (eVar 1) (oNone) (oSome (eVar 3)))) (aCons (eUn fRevA (eVar 1)) (aCons (eC (.str [108, 101, 97, 115, 116])) (aCons (eTup (aCons (eVar 1) aNil)) aNil)))))) aNil)))))) (
sNx)) (
sSeq (sIf (cV (eFn (fIsi "str") (aCons (eVar 1) aNil))) (
sRet (eCall G f__law_one_of (aCons (eVar 0) (aCons (eLst (aCons (eC (.str [108, 101, 97, 115, 116])) (aCons (eC (.str [97, 110, 100])) (aCons (eC (.str [35, 49])) (aCons (eOp fAdd (eVar 1) (eC (.str [120]))) (aCons (eSl fSl (eVar 1) (oSome (eC (.int 1))) (oNone)) (aCons (eSl fSl (eVar 1) (oNone) (oSome (eUn fNeg (eC (.int 1))))) (aCons (eC (.int 0)) (aCons (eTup (aNil)) aNil))))))))) aNil)))) (
sNx)) (
sRet (eCall G f__law_one_of (aCons (eVar 0) (aCons (eLst (aCons (eOp fAdd (eVar 1) (eC (.int 1))) (aCons (eOp fSub (eVar 1) (eC (.int 1))) (aCons (eUn fNeg (eVar 1)) (aCons (eOp fMul (eC (.int 2)) (eVar 1)) (aCons (eC (.int 0)) (aCons (eFn fStr (aCons (eVar 1) aNil)) (aCons (eTup (aCons (eVar 1) aNil)) aNil)))))))) aNil))))))
def d__law_bent : Df := ⟨3, 5, b__law_bent⟩
/-- _law_says(answer, due); slots answer, due -/
def b__law_says (G : Ga) : Fs :=
sSeq (sIf (cV (eVar 1)) (
sRet (eOp fIs (eVar 0) (eC (.bl true)))) (
sNx)) (
sRet (eOp fIs (eVar 0) (eC (.bl false))))
def d__law_says : Df := ⟨2, 2, b__law_says⟩
/-- _law_is_word(x); slots x, sign -/
def b__law_is_word (G : Ga) : Fs :=
sRet (eAnd (eFn (fIsi "str") (aCons (eVar 0) aNil)) (eAnd (eOp fNe (eVar 0) (eC (.str []))) (eT (cNot (cB (eGc (eFn fAny (aCons (eLc (iA (eFn fListA (aCons (eVar 0) aNil))) (gN 1) (cYes) (eOp fIn (eVar 1) (eLst (aCons (eC (.str [32])) (aCons (eC (.str [39])) aNil)))) [1]) aNil))))))))
def d__law_is_word : Df := ⟨1, 2, b__law_is_word⟩
/-- _law_is_form(f, names); slots f, names, last, term -/
def b__law_is_form (G : Ga) : Fs :=
sSeq (sIf (cOr (cNot (cV (eFn (fIsi "tuple") (aCons (eVar 0) aNil)))) (cOr (cB (eOp fNe (eFn fLen (aCons (eVar 0) aNil)) (eC (.int 2)))) (cOr (cNot (cV (eCall G f__law_is_int (aCons (eOp fIx (eVar 0) (eC (.int 0))) aNil)))) (cNot (cV (eFn (fIsi "tuple") (aCons (eOp fIx (eVar 0) (eC (.int 1))) aNil))))))) (
sRet (eC (.bl false))) (
sNx)) (
sSeq (sSet 2 (eC (.str []))) (
sSeq (sFor (iA (eOp fIx (eVar 0) (eC (.int 1)))) (gN 3) (
sSeq (sIf (cOr (cNot (cV (eFn (fIsi "tuple") (aCons (eVar 3) aNil)))) (cOr (cB (eOp fNe (eFn fLen (aCons (eVar 3) aNil)) (eC (.int 2)))) (cOr (cNot (cV (eFn (fIsi "str") (aCons (eOp fIx (eVar 3) (eC (.int 0))) aNil)))) (cNot (cV (eCall G f__law_is_int (aCons (eOp fIx (eVar 3) (eC (.int 1))) aNil))))))) (
sRet (eC (.bl false))) (
sNx)) (
sSeq (sIf (cOr (cB (eOp fLe (eOp fIx (eVar 3) (eC (.int 0))) (eVar 2))) (cOr (cB (eOp fInA (eC (.str [32])) (eOp fIx (eVar 3) (eC (.int 0))))) (cOr (cB (eOp fNotInA (eOp fIx (eVar 3) (eC (.int 0))) (eVar 1))) (cB (eOp fEq (eOp fIx (eVar 3) (eC (.int 1))) (eC (.int 0))))))) (
sRet (eC (.bl false))) (
sNx)) (
sSet 2 (eOp fIx (eVar 3) (eC (.int 0))))))) (
sRet (eC (.bl true)))))
def d__law_is_form : Df := ⟨2, 4, b__law_is_form⟩
/-- _law_is_formula(datum, names); slots datum, names, part -/
def b__law_is_formula (G : Ga) : Fs :=
sSeq (sIf (cOr (cNot (cV (eFn (fIsi "tuple") (aCons (eVar 0) aNil)))) (cOr (cB (eOp fEq (eVar 0) (eTup (aNil)))) (cNot (cV (eFn (fIsi "str") (aCons (eOp fIx (eVar 0) (eC (.int 0))) aNil)))))) (
sRet (eC (.bl false))) (
sNx)) (
sSeq (sIf (cB (eOp fIn (eOp fIx (eVar 0) (eC (.int 0))) (eLst (aCons (eC (.str [97, 110, 100])) (aCons (eC (.str [111, 114])) aNil))))) (
sSeq (sIf (cOr (cB (eOp fNe (eFn fLen (aCons (eVar 0) aNil)) (eC (.int 2)))) (cNot (cV (eFn (fIsi "tuple") (aCons (eOp fIx (eVar 0) (eC (.int 1))) aNil))))) (
sRet (eC (.bl false))) (
sNx)) (
sRet (eGc (eFn fAll (aCons (eLc (iA (eOp fIx (eVar 0) (eC (.int 1)))) (gN 2) (cYes) (eCall G f__law_is_formula (aCons (eVar 2) (aCons (eVar 1) aNil))) [2]) aNil))))) (
sNx)) (
sSeq (sIf (cB (eOp fIn (eOp fIx (eVar 0) (eC (.int 0))) (eLst (aCons (eC (.str [97, 108, 108])) (aCons (eC (.str [115, 111, 109, 101])) aNil))))) (
sSeq (sIf (cOr (cB (eOp fNe (eFn fLen (aCons (eVar 0) aNil)) (eC (.int 3)))) (cOr (cNot (cV (eCall G f__law_is_word (aCons (eOp fIx (eVar 0) (eC (.int 1))) aNil)))) (cB (eOp fInA (eOp fIx (eVar 0) (eC (.int 1))) (eVar 1))))) (
sRet (eC (.bl false))) (
sNx)) (
sRet (eCall G f__law_is_formula (aCons (eOp fIx (eVar 0) (eC (.int 2))) (aCons (eOp fAdd (eVar 1) (eTup (aCons (eOp fIx (eVar 0) (eC (.int 1))) aNil))) aNil))))) (
sNx)) (
sSeq (sIf (cB (eOp fIn (eOp fIx (eVar 0) (eC (.int 0))) (eLst (aCons (eC (.str [100, 105, 118, 105, 100, 101, 115])) (aCons (eC (.str [115, 112, 108, 105, 116, 115])) aNil))))) (
sRet (eAnd (eOp fEq (eFn fLen (aCons (eVar 0) aNil)) (eC (.int 3))) (eAnd (eCall G f__law_is_int (aCons (eOp fIx (eVar 0) (eC (.int 1))) aNil)) (eAnd (eOp fGe (eOp fIx (eVar 0) (eC (.int 1))) (eC (.int 1))) (eCall G f__law_is_form (aCons (eOp fIx (eVar 0) (eC (.int 2))) (aCons (eVar 1) aNil))))))) (
sNx)) (
sRet (eAnd (eOp fIn (eOp fIx (eVar 0) (eC (.int 0))) (eLst (aCons (eC (.str [108, 101, 97, 115, 116])) (aCons (eC (.str [115, 97, 109, 101])) aNil)))) (eAnd (eOp fEq (eFn fLen (aCons (eVar 0) aNil)) (eC (.int 2))) (eCall G f__law_is_form (aCons (eOp fIx (eVar 0) (eC (.int 1))) (aCons (eVar 1) aNil)))))))))
def d__law_is_formula : Df := ⟨2, 3, b__law_is_formula⟩
/-- _law_odd_data(names); slots names, f, found -/
def b__law_odd_data (G : Ga) : Fs :=
sSeq (sSet 1 (eTup (aCons (eC (.int 1)) (aCons (eTup (aCons (eTup (aCons (eC (.str [97, 95, 97])) (aCons (eC (.int 2)) aNil))) aNil)) aNil)))) (
sSeq (sSet 2 (eLst (aCons (eTup (aNil)) (aCons (eC (.int 7)) (aCons (eC (.str [97, 110, 100])) (aCons (eTup (aCons (eC (.str [97, 110, 100])) aNil)) (aCons (eTup (aCons (eC (.str [97, 110, 100])) (aCons (eTup (aNil)) (aCons (eTup (aNil)) aNil)))) (aCons (eTup (aCons (eC (.str [108, 101, 97, 115, 116])) (aCons (eVar 1) (aCons (eVar 1) aNil)))) (aCons (eTup (aCons (eC (.str [108, 101, 97, 115, 116])) (aCons (eTup (aCons (eC (.int 1)) (aCons (eTup (aNil)) aNil))) (aCons (eC (.int 1)) aNil)))) aNil))))))))) (
sSeq (sSet 2 (eOp fAdd (eVar 2) (eLst (aCons (eTup (aCons (eC (.str [100, 105, 118, 105, 100, 101, 115])) (aCons (eC (.int 0)) (aCons (eVar 1) aNil)))) (aCons (eTup (aCons (eC (.str [100, 105, 118, 105, 100, 101, 115])) (aCons (eUn fNeg (eC (.int 2))) (aCons (eVar 1) aNil)))) (aCons (eTup (aCons (eC (.str [115, 112, 108, 105, 116, 115])) (aCons (eVar 1) aNil))) (aCons (eTup (aCons (eC (.str [115, 97, 109, 101])) (aCons (eTup (aCons (eC (.int 1)) (aCons (eTup (aCons (eTup (aCons (eC (.str [97, 95, 97])) (aCons (eC (.int 0)) aNil))) aNil)) aNil))) aNil))) aNil))))))) (
sSeq (sSet 2 (eOp fAdd (eVar 2) (eLst (aCons (eTup (aCons (eC (.str [111, 114])) (aCons (eTup (aCons (eC (.str [108, 101, 97, 115, 116])) (aCons (eVar 1) aNil))) aNil))) (aCons (eTup (aCons (eC (.str [97, 108, 108])) (aCons (eC (.str [97, 95, 97])) (aCons (eTup (aCons (eC (.str [108, 101, 97, 115, 116])) (aCons (eVar 1) aNil))) aNil)))) (aCons (eTup (aCons (eC (.str [115, 111, 109, 101])) (aCons (eC (.int 3)) (aCons (eTup (aCons (eC (.str [108, 101, 97, 115, 116])) (aCons (eVar 1) aNil))) aNil)))) aNil)))))) (
sSeq (sSet 2 (eOp fAdd (eVar 2) (eLst (aCons (eTup (aCons (eC (.str [97, 108, 108])) (aCons (eC (.str [98, 95, 98])) (aCons (eTup (aCons (eC (.str [115, 111, 109, 101])) (aCons (eC (.str [98, 95, 98])) (aCons (eTup (aCons (eC (.str [108, 101, 97, 115, 116])) (aCons (eVar 1) aNil))) aNil)))) aNil)))) (aCons (eTup (aCons (eC (.str [108, 101, 97, 115, 116])) (aCons (eTup (aCons (eC (.int 0)) (aCons (eTup (aCons (eTup (aCons (eC (.str [98, 95, 98])) (aCons (eC (.int 1)) aNil))) aNil)) aNil))) aNil))) aNil))))) (
sSeq (sSet 2 (eOp fAdd (eVar 2) (eLst (aCons (eTup (aCons (eC (.str [115, 97, 109, 101])) (aCons (eTup (aCons (eC (.int 0)) (aCons (eTup (aCons (eTup (aCons (eC (.str [97, 95, 97])) (aCons (eC (.int 1)) aNil))) (aCons (eTup (aCons (eC (.str [97, 95, 97])) (aCons (eC (.int 2)) aNil))) aNil))) aNil))) aNil))) (aCons (eTup (aCons (eC (.str [97, 108, 108])) (aCons (eC (.str [98, 95, 98])) aNil))) (aCons (eTup (aCons (eC (.str [110, 111, 116])) (aCons (eTup (aNil)) aNil))) aNil)))))) (
sSeq (sSet 2 (eOp fAdd (eVar 2) (eLst (aCons (eTup (aCons (eC (.str [97, 108, 108])) (aCons (eC (.str [])) (aCons (eTup (aCons (eC (.str [108, 101, 97, 115, 116])) (aCons (eVar 1) aNil))) aNil)))) (aCons (eTup (aCons (eC (.str [115, 111, 109, 101])) (aCons (eC (.str [98, 32, 98])) (aCons (eTup (aCons (eC (.str [108, 101, 97, 115, 116])) (aCons (eVar 1) aNil))) aNil)))) (aCons (eTup (aCons (eC (.str [97, 108, 108])) (aCons (eC (.str [98, 39, 98])) (aCons (eTup (aCons (eC (.str [108, 101, 97, 115, 116])) (aCons (eVar 1) aNil))) aNil)))) aNil)))))) (
sSeq (sEx (eMet .list fAppend (eVar 2) (aCons (eTup (aCons (eC (.str [97, 110, 100])) (aCons (eTup (aCons (eTup (aCons (eC (.str [97, 108, 108])) (aCons (eC (.str [98, 95, 98])) (aCons (eTup (aCons (eC (.str [108, 101, 97, 115, 116])) (aCons (eTup (aCons (eC (.int 0)) (aCons (eTup (aCons (eTup (aCons (eC (.str [98, 95, 98])) (aCons (eC (.int 1)) aNil))) aNil)) aNil))) aNil))) aNil)))) (aCons (eTup (aCons (eC (.str [115, 111, 109, 101])) (aCons (eC (.str [98, 95, 98])) (aCons (eTup (aCons (eC (.str [108, 101, 97, 115, 116])) (aCons (eVar 1) aNil))) aNil)))) aNil))) aNil))) aNil))) (
sRet (eVar 2)))))))))
def d__law_odd_data : Df := ⟨1, 3, b__law_odd_data⟩
/-- law(script); slots script, state, words, table, x, turn, F, other, k, numbers, shapes, pairs, turned, given, datum, some, y -/
def b_law (G : Ga) : Fs :=
sSeq (sSet 1 (eCall G f__law_start (aCons (eVar 0) aNil))) (
sSeq (sSet 2 (eCall G f__law_words (aCons (eVar 1) (aCons (eC (.int 4)) aNil)))) (
sSeq (sSet 3 (eDic0)) (
sSeq (sFor (iA (eVar 2)) (gN 4) (
sPutA (eVar 3) (eVar 4) (eCall G f__law_var (aCons (eVar 4) aNil)))) (
sSeq (sFor (iRg rg1 (aCons (eC (.int 3)) aNil)) (gN 5) (
sSeq (sSet 6 (eCall G f__law_core (aCons (eTup (aNil)) (aCons (eCall G f__law_condition (aCons (eVar 1) (aCons (eSl fSl (eVar 2) (oNone) (oSome (eC (.int 2)))) (aCons (eC (.int 2)) aNil)))) (aCons (eVar 3) (aCons (eLst (aCons (eC (.int 0)) aNil)) aNil)))))) (
sSeq (sSet 7 (eCall G f_opposite (aCons (eVar 6) aNil))) (
sSeq (sIf (cOr (cNot (cV (eCall G f__law_same (aCons (eVar 7) (aCons (eCall G f__law_opposite (aCons (eVar 6) aNil)) aNil))))) (cNot (cV (eCall G f__law_same (aCons (eCall G f_open_names (aCons (eVar 6) aNil)) (aCons (eCall G f__law_open_names (aCons (eVar 6) aNil)) aNil)))))) (
sRet (eC (.bl false))) (
sNx)) (
sSeq (sFor (iRg rg1 (aCons (eC (.int 5)) aNil)) (gN 8) (
sSeq (sSet 9 (eDic0)) (
sSeq (sFor (iA (eVar 2)) (gN 4) (
sPutA (eVar 9) (eVar 4) (eOp fSub (eCall G f__law_draw (aCons (eVar 1) (aCons (eC (.int 41)) aNil))) (eC (.int 20))))) (
sIf (cB (eOp fEq (eCall G f__law_true (aCons (eVar 6) (aCons (eVar 9) aNil))) (eCall G f__law_true (aCons (eVar 7) (aCons (eVar 9) aNil))))) (
sRet (eC (.bl false))) (
sNx))))) (
sSeq (sSet 10 (eDic0)) (
sSeq (sSet 11 (eLst (aNil))) (
sSeq (sFor (iA (eCall G f__law_shuffled (aCons (eVar 1) (aCons (eSl fSl (eVar 2) (oNone) (oSome (eC (.int 3)))) aNil)))) (gN 4) (
sSeq (sPutA (eVar 10) (eVar 4) (eCall G f__law_form (aCons (eOp fSub (eCall G f__law_draw (aCons (eVar 1) (aCons (eC (.int 9)) aNil))) (eC (.int 4))) (aCons (eLc (iA (eVar 2)) (gN 16) (cYes) (eTup (aCons (eVar 16) (aCons (eOp fSub (eCall G f__law_draw (aCons (eVar 1) (aCons (eC (.int 7)) aNil))) (eC (.int 3))) aNil))) [16]) aNil)))) (
sEx (eMet .list fAppend (eVar 11) (aCons (eTup (aCons (eVar 4) (aCons (eOp fIxA (eVar 10) (eVar 4)) aNil))) aNil))))) (
sSeq (sIf (cNot (cV (eCall G f__law_same (aCons (eCall G f_put (aCons (eVar 6) (aCons (eFn fTuple (aCons (eVar 11) aNil)) aNil))) (aCons (eCall G f__law_put_in (aCons (eVar 6) (aCons (eVar 10) aNil))) aNil))))) (
sRet (eC (.bl false))) (
sNx)) (
sSeq (sSet 12 (eTup (aCons (eC (.str [97, 108, 108])) (aCons (eC (.str [35, 49])) (aCons (eTup (aCons (eC (.str [115, 111, 109, 101])) (aCons (eC (.str [35, 50])) (aCons (eVar 6) aNil)))) aNil))))) (
sSeq (sSet 13 (eOp fAdd (eLst (aCons (eVar 6) (aCons (eVar 12) (aCons (eTup (aCons (eC (.str [97, 108, 108])) (aCons (eOp fIx (eVar 2) (eC (.int 0))) (aCons (eVar 6) aNil)))) (aCons (eCall G f_opposite (aCons (eVar 12) aNil)) aNil))))) (eLc (iRg rg1 (aCons (eC (.int 8)) aNil)) (gN 8) (cYes) (eCall G f__law_bent (aCons (eVar 1) (aCons (eVar 12) (aCons (eC (.int 0)) aNil)))) [8]))) (
sFor (iA (eVar 13)) (gN 14) (
sFor (iA (eLst (aCons (eFn fTuple (aCons (eVar 2) aNil)) (aCons (eFn fTuple (aCons (eSl fSl (eVar 2) (oSome (eC (.int 1))) (oNone)) aNil)) (aCons (eOp fAdd (eFn fTuple (aCons (eVar 2) aNil)) (eTup (aCons (eC (.str [35, 49])) aNil))) aNil))))) (gN 15) (
sIf (cNot (cV (eCall G f__law_says (aCons (eCall G f_is_formula (aCons (eVar 14) (aCons (eVar 15) aNil))) (aCons (eCall G f__law_is_formula (aCons (eVar 14) (aCons (eVar 15) aNil))) aNil))))) (
sRet (eC (.bl false))) (
sNx))))))))))))))) (
sSeq (sFor (iA (eCall G f__law_odd_data (aCons (eTup (aCons (eC (.str [97, 95, 97])) aNil)) aNil))) (gN 14) (
sIf (cNot (cV (eCall G f__law_says (aCons (eCall G f_is_formula (aCons (eVar 14) (aCons (eTup (aCons (eC (.str [97, 95, 97])) aNil)) aNil))) (aCons (eCall G f__law_is_formula (aCons (eVar 14) (aCons (eTup (aCons (eC (.str [97, 95, 97])) aNil)) aNil))) aNil))))) (
sRet (eC (.bl false))) (
sNx))) (
sRet (eC (.bl true))))))))
def d_law : Df := ⟨1, 17, b_law⟩
def tab : Nat → Option Df
  | 0 => some d_form
  | 1 => some d_plus
  | 2 => some d_times
  | 3 => some d_image
  | 4 => some d_is_integer
  | 5 => some d_is_tuple
  | 6 => some d_is_name
  | 7 => some d_is_form
  | 8 => some d_is_form_over
  | 9 => some d_joined
  | 10 => some d_least
  | 11 => some d_below
  | 12 => some d_unlike
  | 13 => some d_opposite
  | 14 => some d_put
  | 15 => some d_atoms_of
  | 16 => some d_turns_of
  | 17 => some d_open_names
  | 18 => some d_is_atom
  | 19 => some d_is_formula
  | 20 => some d__law_start
  | 21 => some d__law_draw
  | 22 => some d__law_words
  | 23 => some d__law_var
  | 24 => some d__law_form
  | 25 => some d__law_sum
  | 26 => some d__law_below
  | 27 => some d__law_more
  | 28 => some d__law_joined
  | 29 => some d__law_opposite
  | 30 => some d__law_sum_form
  | 31 => some d__law_atom_core
  | 32 => some d__law_core
  | 33 => some d__law_one_of
  | 34 => some d__law_sum_ast
  | 35 => some d__law_atom_ast
  | 36 => some d__law_condition
  | 37 => some d__law_is_int
  | 38 => some d__law_same
  | 39 => some d__law_turns
  | 40 => some d__law_atoms
  | 41 => some d__law_open_names
  | 42 => some d__law_at
  | 43 => some d__law_true
  | 44 => some d__law_shuffled
  | 45 => some d__law_put
  | 46 => some d__law_put_in
  | 47 => some d__law_bent
  | 48 => some d__law_says
  | 49 => some d__law_is_word
  | 50 => some d__law_is_form
  | 51 => some d__law_is_formula
  | 52 => some d__law_odd_data
  | 53 => some d_law
  | _ => none
end K01
set_option maxRecDepth 100000
/-! The derivations (printed by gen.py). -/
namespace K01
open PySem PySem.Spec PyProof.Rows L2 Mi
def top (i : Nat) : Stmt := PySem.Challenge.pw_allgoon_k01_formulas.main.body.getD i (.Pass ⟨0, 0, 0, 0⟩)
abbrev st0 : Stmt := top 3
abbrev N0 : List Str := ["constant", "pairs", "sums", "name", "coefficient"]
abbrev P0 : List Str := ["constant", "pairs"]
theorem sc0 : FnScope N0 P0 (defScope st0) := ⟨rfl, rfl, rfl, by decide +kernel, rfl, by decide +kernel, by decide +kernel⟩
abbrev st1 : Stmt := top 4
abbrev N1 : List Str := ["f", "g"]
abbrev P1 : List Str := ["f", "g"]
theorem sc1 : FnScope N1 P1 (defScope st1) := ⟨rfl, rfl, rfl, by decide +kernel, rfl, by decide +kernel, by decide +kernel⟩
abbrev st2 : Stmt := top 5
abbrev N2 : List Str := ["k", "f", "name", "coefficient"]
abbrev P2 : List Str := ["k", "f"]
theorem sc2 : FnScope N2 P2 (defScope st2) := ⟨rfl, rfl, rfl, by decide +kernel, rfl, by decide +kernel, by decide +kernel⟩
abbrev st3 : Stmt := top 6
abbrev N3 : List Str := ["f", "pairs", "table", "constant", "rest", "name", "coefficient", "g", "other", "factor"]
abbrev P3 : List Str := ["f", "pairs"]
theorem sc3 : FnScope N3 P3 (defScope st3) := ⟨rfl, rfl, rfl, by decide +kernel, rfl, by decide +kernel, by decide +kernel⟩
abbrev st4 : Stmt := top 7
abbrev N4 : List Str := ["datum"]
abbrev P4 : List Str := ["datum"]
theorem sc4 : FnScope N4 P4 (defScope st4) := ⟨rfl, rfl, rfl, by decide +kernel, rfl, by decide +kernel, by decide +kernel⟩
abbrev st5 : Stmt := top 8
abbrev N5 : List Str := ["datum", "many"]
abbrev P5 : List Str := ["datum", "many"]
theorem sc5 : FnScope N5 P5 (defScope st5) := ⟨rfl, rfl, rfl, by decide +kernel, rfl, by decide +kernel, by decide +kernel⟩
abbrev st6 : Stmt := top 9
abbrev N6 : List Str := ["datum"]
abbrev P6 : List Str := ["datum"]
theorem sc6 : FnScope N6 P6 (defScope st6) := ⟨rfl, rfl, rfl, by decide +kernel, rfl, by decide +kernel, by decide +kernel⟩
abbrev st7 : Stmt := top 10
abbrev N7 : List Str := ["datum", "last", "term"]
abbrev P7 : List Str := ["datum"]
theorem sc7 : FnScope N7 P7 (defScope st7) := ⟨rfl, rfl, rfl, by decide +kernel, rfl, by decide +kernel, by decide +kernel⟩
abbrev st8 : Stmt := top 11
abbrev N8 : List Str := ["datum", "names", "name", "coefficient"]
abbrev P8 : List Str := ["datum", "names"]
theorem sc8 : FnScope N8 P8 (defScope st8) := ⟨rfl, rfl, rfl, by decide +kernel, rfl, by decide +kernel, by decide +kernel⟩
abbrev st9 : Stmt := top 17
abbrev N9 : List Str := ["kind", "parts", "found", "part"]
abbrev P9 : List Str := ["kind", "parts"]
theorem sc9 : FnScope N9 P9 (defScope st9) := ⟨rfl, rfl, rfl, by decide +kernel, rfl, by decide +kernel, by decide +kernel⟩
abbrev st10 : Stmt := top 18
abbrev N10 : List Str := ["f"]
abbrev P10 : List Str := ["f"]
theorem sc10 : FnScope N10 P10 (defScope st10) := ⟨rfl, rfl, rfl, by decide +kernel, rfl, by decide +kernel, by decide +kernel⟩
abbrev st11 : Stmt := top 19
abbrev N11 : List Str := ["f"]
abbrev P11 : List Str := ["f"]
theorem sc11 : FnScope N11 P11 (defScope st11) := ⟨rfl, rfl, rfl, by decide +kernel, rfl, by decide +kernel, by decide +kernel⟩
abbrev st12 : Stmt := top 20
abbrev N12 : List Str := ["f"]
abbrev P12 : List Str := ["f"]
theorem sc12 : FnScope N12 P12 (defScope st12) := ⟨rfl, rfl, rfl, by decide +kernel, rfl, by decide +kernel, by decide +kernel⟩
abbrev st13 : Stmt := top 21
abbrev N13 : List Str := ["formula", "kind", "part"]
abbrev P13 : List Str := ["formula"]
theorem sc13 : FnScope N13 P13 (defScope st13) := ⟨rfl, rfl, rfl, by decide +kernel, rfl, by decide +kernel, by decide +kernel⟩
abbrev st14 : Stmt := top 22
abbrev N14 : List Str := ["formula", "pairs", "kind", "part"]
abbrev P14 : List Str := ["formula", "pairs"]
theorem sc14 : FnScope N14 P14 (defScope st14) := ⟨rfl, rfl, rfl, by decide +kernel, rfl, by decide +kernel, by decide +kernel⟩
abbrev st15 : Stmt := top 23
abbrev N15 : List Str := ["formula", "part", "atom"]
abbrev P15 : List Str := ["formula"]
theorem sc15 : FnScope N15 P15 (defScope st15) := ⟨rfl, rfl, rfl, by decide +kernel, rfl, by decide +kernel, by decide +kernel⟩
abbrev st16 : Stmt := top 24
abbrev N16 : List Str := ["formula", "part", "name"]
abbrev P16 : List Str := ["formula"]
theorem sc16 : FnScope N16 P16 (defScope st16) := ⟨rfl, rfl, rfl, by decide +kernel, rfl, by decide +kernel, by decide +kernel⟩
abbrev st17 : Stmt := top 25
abbrev N17 : List Str := ["formula", "turns", "found", "atom", "name", "number"]
abbrev P17 : List Str := ["formula"]
theorem sc17 : FnScope N17 P17 (defScope st17) := ⟨rfl, rfl, rfl, by decide +kernel, rfl, by decide +kernel, by decide +kernel⟩
abbrev st18 : Stmt := top 26
abbrev N18 : List Str := ["datum", "names"]
abbrev P18 : List Str := ["datum", "names"]
theorem sc18 : FnScope N18 P18 (defScope st18) := ⟨rfl, rfl, rfl, by decide +kernel, rfl, by decide +kernel, by decide +kernel⟩
abbrev st19 : Stmt := top 27
abbrev N19 : List Str := ["datum", "names", "part"]
abbrev P19 : List Str := ["datum", "names"]
theorem sc19 : FnScope N19 P19 (defScope st19) := ⟨rfl, rfl, rfl, by decide +kernel, rfl, by decide +kernel, by decide +kernel⟩
abbrev st20 : Stmt := top 29
abbrev N20 : List Str := ["script"]
abbrev P20 : List Str := ["script"]
theorem sc20 : FnScope N20 P20 (defScope st20) := ⟨rfl, rfl, rfl, by decide +kernel, rfl, by decide +kernel, by decide +kernel⟩
abbrev st21 : Stmt := top 30
abbrev N21 : List Str := ["state", "most", "found", "cell", "mixed"]
abbrev P21 : List Str := ["state", "most"]
theorem sc21 : FnScope N21 P21 (defScope st21) := ⟨rfl, rfl, rfl, by decide +kernel, rfl, by decide +kernel, by decide +kernel⟩
abbrev st22 : Stmt := top 31
abbrev N22 : List Str := ["state", "many", "letters", "start", "step", "shared", "k"]
abbrev P22 : List Str := ["state", "many"]
theorem sc22 : FnScope N22 P22 (defScope st22) := ⟨rfl, rfl, rfl, by decide +kernel, rfl, by decide +kernel, by decide +kernel⟩
abbrev st23 : Stmt := top 32
abbrev N23 : List Str := ["name"]
abbrev P23 : List Str := ["name"]
theorem sc23 : FnScope N23 P23 (defScope st23) := ⟨rfl, rfl, rfl, by decide +kernel, rfl, by decide +kernel, by decide +kernel⟩
abbrev st24 : Stmt := top 33
abbrev N24 : List Str := ["constant", "pairs", "sums", "name", "number"]
abbrev P24 : List Str := ["constant", "pairs"]
theorem sc24 : FnScope N24 P24 (defScope st24) := ⟨rfl, rfl, rfl, by decide +kernel, rfl, by decide +kernel, by decide +kernel⟩
abbrev st25 : Stmt := top 34
abbrev N25 : List Str := ["parts", "constant", "pairs", "factor", "f", "name", "number"]
abbrev P25 : List Str := ["parts"]
theorem sc25 : FnScope N25 P25 (defScope st25) := ⟨rfl, rfl, rfl, by decide +kernel, rfl, by decide +kernel, by decide +kernel⟩
abbrev st26 : Stmt := top 35
abbrev N26 : List Str := ["f"]
abbrev P26 : List Str := ["f"]
theorem sc26 : FnScope N26 P26 (defScope st26) := ⟨rfl, rfl, rfl, by decide +kernel, rfl, by decide +kernel, by decide +kernel⟩
abbrev st27 : Stmt := top 36
abbrev N27 : List Str := ["f", "k"]
abbrev P27 : List Str := ["f", "k"]
theorem sc27 : FnScope N27 P27 (defScope st27) := ⟨rfl, rfl, rfl, by decide +kernel, rfl, by decide +kernel, by decide +kernel⟩
abbrev st28 : Stmt := top 37
abbrev N28 : List Str := ["kind", "parts", "found", "part"]
abbrev P28 : List Str := ["kind", "parts"]
theorem sc28 : FnScope N28 P28 (defScope st28) := ⟨rfl, rfl, rfl, by decide +kernel, rfl, by decide +kernel, by decide +kernel⟩
abbrev st29 : Stmt := top 38
abbrev N29 : List Str := ["F", "kind", "part"]
abbrev P29 : List Str := ["F"]
theorem sc29 : FnScope N29 P29 (defScope st29) := ⟨rfl, rfl, rfl, by decide +kernel, rfl, by decide +kernel, by decide +kernel⟩
abbrev st30 : Stmt := top 39
abbrev N30 : List Str := ["e", "table", "sign"]
abbrev P30 : List Str := ["e", "table"]
theorem sc30 : FnScope N30 P30 (defScope st30) := ⟨rfl, rfl, rfl, by decide +kernel, rfl, by decide +kernel, by decide +kernel⟩
abbrev st31 : Stmt := top 40
abbrev N31 : List Str := ["F", "table", "f", "g", "less", "more"]
abbrev P31 : List Str := ["F", "table"]
theorem sc31 : FnScope N31 P31 (defScope st31) := ⟨rfl, rfl, rfl, by decide +kernel, rfl, by decide +kernel, by decide +kernel⟩
abbrev st32 : Stmt := top 41
abbrev N32 : List Str := ["others", "F", "table", "count", "kind", "name", "inner", "first", "other", "opens", "body", "k", "saying"]
abbrev P32 : List Str := ["others", "F", "table", "count"]
theorem sc32 : FnScope N32 P32 (defScope st32) := ⟨rfl, rfl, rfl, by decide +kernel, rfl, by decide +kernel, by decide +kernel⟩
abbrev st33 : Stmt := top 42
abbrev N33 : List Str := ["state", "items"]
abbrev P33 : List Str := ["state", "items"]
theorem sc33 : FnScope N33 P33 (defScope st33) := ⟨rfl, rfl, rfl, by decide +kernel, rfl, by decide +kernel, by decide +kernel⟩
abbrev st34 : Stmt := top 43
abbrev N34 : List Str := ["state", "names", "depth", "pick", "first"]
abbrev P34 : List Str := ["state", "names", "depth"]
theorem sc34 : FnScope N34 P34 (defScope st34) := ⟨rfl, rfl, rfl, by decide +kernel, rfl, by decide +kernel, by decide +kernel⟩
abbrev st35 : Stmt := top 44
abbrev N35 : List Str := ["state", "names", "depth", "first", "divisor", "sign"]
abbrev P35 : List Str := ["state", "names", "depth"]
theorem sc35 : FnScope N35 P35 (defScope st35) := ⟨rfl, rfl, rfl, by decide +kernel, rfl, by decide +kernel, by decide +kernel⟩
abbrev st36 : Stmt := top 45
abbrev N36 : List Str := ["state", "names", "depth", "pick", "kind", "first"]
abbrev P36 : List Str := ["state", "names", "depth"]
theorem sc36 : FnScope N36 P36 (defScope st36) := ⟨rfl, rfl, rfl, by decide +kernel, rfl, by decide +kernel, by decide +kernel⟩
abbrev st37 : Stmt := top 46
abbrev N37 : List Str := ["x"]
abbrev P37 : List Str := ["x"]
theorem sc37 : FnScope N37 P37 (defScope st37) := ⟨rfl, rfl, rfl, by decide +kernel, rfl, by decide +kernel, by decide +kernel⟩
abbrev st38 : Stmt := top 47
abbrev N38 : List Str := ["x", "y", "k"]
abbrev P38 : List Str := ["x", "y"]
theorem sc38 : FnScope N38 P38 (defScope st38) := ⟨rfl, rfl, rfl, by decide +kernel, rfl, by decide +kernel, by decide +kernel⟩
abbrev st39 : Stmt := top 48
abbrev N39 : List Str := ["F", "found", "part"]
abbrev P39 : List Str := ["F"]
theorem sc39 : FnScope N39 P39 (defScope st39) := ⟨rfl, rfl, rfl, by decide +kernel, rfl, by decide +kernel, by decide +kernel⟩
abbrev st40 : Stmt := top 49
abbrev N40 : List Str := ["F", "found", "part"]
abbrev P40 : List Str := ["F"]
theorem sc40 : FnScope N40 P40 (defScope st40) := ⟨rfl, rfl, rfl, by decide +kernel, rfl, by decide +kernel, by decide +kernel⟩
abbrev st41 : Stmt := top 50
abbrev N41 : List Str := ["F", "found", "turns", "atom", "name", "number"]
abbrev P41 : List Str := ["F"]
theorem sc41 : FnScope N41 P41 (defScope st41) := ⟨rfl, rfl, rfl, by decide +kernel, rfl, by decide +kernel, by decide +kernel⟩
abbrev st42 : Stmt := top 51
abbrev N42 : List Str := ["f", "table", "total", "name", "number"]
abbrev P42 : List Str := ["f", "table"]
theorem sc42 : FnScope N42 P42 (defScope st42) := ⟨rfl, rfl, rfl, by decide +kernel, rfl, by decide +kernel, by decide +kernel⟩
abbrev st43 : Stmt := top 52
abbrev N43 : List Str := ["F", "table", "number", "part"]
abbrev P43 : List Str := ["F", "table"]
theorem sc43 : FnScope N43 P43 (defScope st43) := ⟨rfl, rfl, rfl, by decide +kernel, rfl, by decide +kernel, by decide +kernel⟩
abbrev st44 : Stmt := top 53
abbrev N44 : List Str := ["state", "items", "found", "item"]
abbrev P44 : List Str := ["state", "items"]
theorem sc44 : FnScope N44 P44 (defScope st44) := ⟨rfl, rfl, rfl, by decide +kernel, rfl, by decide +kernel, by decide +kernel⟩
abbrev st45 : Stmt := top 54
abbrev N45 : List Str := ["f", "table", "parts", "name", "number"]
abbrev P45 : List Str := ["f", "table"]
theorem sc45 : FnScope N45 P45 (defScope st45) := ⟨rfl, rfl, rfl, by decide +kernel, rfl, by decide +kernel, by decide +kernel⟩
abbrev st46 : Stmt := top 55
abbrev N46 : List Str := ["F", "table", "part"]
abbrev P46 : List Str := ["F", "table"]
theorem sc46 : FnScope N46 P46 (defScope st46) := ⟨rfl, rfl, rfl, by decide +kernel, rfl, by decide +kernel, by decide +kernel⟩
abbrev st47 : Stmt := top 56
abbrev N47 : List Str := ["state", "datum", "depth", "at", "other"]
abbrev P47 : List Str := ["state", "datum", "depth"]
theorem sc47 : FnScope N47 P47 (defScope st47) := ⟨rfl, rfl, rfl, by decide +kernel, rfl, by decide +kernel, by decide +kernel⟩
abbrev st48 : Stmt := top 57
abbrev N48 : List Str := ["answer", "due"]
abbrev P48 : List Str := ["answer", "due"]
theorem sc48 : FnScope N48 P48 (defScope st48) := ⟨rfl, rfl, rfl, by decide +kernel, rfl, by decide +kernel, by decide +kernel⟩
abbrev st49 : Stmt := top 58
abbrev N49 : List Str := ["x", "sign"]
abbrev P49 : List Str := ["x"]
theorem sc49 : FnScope N49 P49 (defScope st49) := ⟨rfl, rfl, rfl, by decide +kernel, rfl, by decide +kernel, by decide +kernel⟩
abbrev st50 : Stmt := top 59
abbrev N50 : List Str := ["f", "names", "last", "term"]
abbrev P50 : List Str := ["f", "names"]
theorem sc50 : FnScope N50 P50 (defScope st50) := ⟨rfl, rfl, rfl, by decide +kernel, rfl, by decide +kernel, by decide +kernel⟩
abbrev st51 : Stmt := top 60
abbrev N51 : List Str := ["datum", "names", "part"]
abbrev P51 : List Str := ["datum", "names"]
theorem sc51 : FnScope N51 P51 (defScope st51) := ⟨rfl, rfl, rfl, by decide +kernel, rfl, by decide +kernel, by decide +kernel⟩
abbrev st52 : Stmt := top 61
abbrev N52 : List Str := ["names", "f", "found"]
abbrev P52 : List Str := ["names"]
theorem sc52 : FnScope N52 P52 (defScope st52) := ⟨rfl, rfl, rfl, by decide +kernel, rfl, by decide +kernel, by decide +kernel⟩
abbrev st53 : Stmt := top 62
abbrev N53 : List Str := ["script", "state", "words", "table", "x", "turn", "F", "other", "k", "numbers", "shapes", "pairs", "turned", "given", "datum", "some", "y"]
abbrev P53 : List Str := ["script"]
theorem sc53 : FnScope N53 P53 (defScope st53) := ⟨rfl, rfl, rfl, by decide +kernel, rfl, by decide +kernel, by decide +kernel⟩
def ent (fa : Nat → Addr) (fd : Nat → FuncData) : Nat → Option Ent
  | 0 => some ⟨"form", st0, N0, P0, fa 0, fd 0⟩
  | 1 => some ⟨"plus", st1, N1, P1, fa 1, fd 1⟩
  | 2 => some ⟨"times", st2, N2, P2, fa 2, fd 2⟩
  | 3 => some ⟨"image", st3, N3, P3, fa 3, fd 3⟩
  | 4 => some ⟨"is_integer", st4, N4, P4, fa 4, fd 4⟩
  | 5 => some ⟨"is_tuple", st5, N5, P5, fa 5, fd 5⟩
  | 6 => some ⟨"is_name", st6, N6, P6, fa 6, fd 6⟩
  | 7 => some ⟨"is_form", st7, N7, P7, fa 7, fd 7⟩
  | 8 => some ⟨"is_form_over", st8, N8, P8, fa 8, fd 8⟩
  | 9 => some ⟨"joined", st9, N9, P9, fa 9, fd 9⟩
  | 10 => some ⟨"least", st10, N10, P10, fa 10, fd 10⟩
  | 11 => some ⟨"below", st11, N11, P11, fa 11, fd 11⟩
  | 12 => some ⟨"unlike", st12, N12, P12, fa 12, fd 12⟩
  | 13 => some ⟨"opposite", st13, N13, P13, fa 13, fd 13⟩
  | 14 => some ⟨"put", st14, N14, P14, fa 14, fd 14⟩
  | 15 => some ⟨"atoms_of", st15, N15, P15, fa 15, fd 15⟩
  | 16 => some ⟨"turns_of", st16, N16, P16, fa 16, fd 16⟩
  | 17 => some ⟨"open_names", st17, N17, P17, fa 17, fd 17⟩
  | 18 => some ⟨"is_atom", st18, N18, P18, fa 18, fd 18⟩
  | 19 => some ⟨"is_formula", st19, N19, P19, fa 19, fd 19⟩
  | 20 => some ⟨"_law_start", st20, N20, P20, fa 20, fd 20⟩
  | 21 => some ⟨"_law_draw", st21, N21, P21, fa 21, fd 21⟩
  | 22 => some ⟨"_law_words", st22, N22, P22, fa 22, fd 22⟩
  | 23 => some ⟨"_law_var", st23, N23, P23, fa 23, fd 23⟩
  | 24 => some ⟨"_law_form", st24, N24, P24, fa 24, fd 24⟩
  | 25 => some ⟨"_law_sum", st25, N25, P25, fa 25, fd 25⟩
  | 26 => some ⟨"_law_below", st26, N26, P26, fa 26, fd 26⟩
  | 27 => some ⟨"_law_more", st27, N27, P27, fa 27, fd 27⟩
  | 28 => some ⟨"_law_joined", st28, N28, P28, fa 28, fd 28⟩
  | 29 => some ⟨"_law_opposite", st29, N29, P29, fa 29, fd 29⟩
  | 30 => some ⟨"_law_sum_form", st30, N30, P30, fa 30, fd 30⟩
  | 31 => some ⟨"_law_atom_core", st31, N31, P31, fa 31, fd 31⟩
  | 32 => some ⟨"_law_core", st32, N32, P32, fa 32, fd 32⟩
  | 33 => some ⟨"_law_one_of", st33, N33, P33, fa 33, fd 33⟩
  | 34 => some ⟨"_law_sum_ast", st34, N34, P34, fa 34, fd 34⟩
  | 35 => some ⟨"_law_atom_ast", st35, N35, P35, fa 35, fd 35⟩
  | 36 => some ⟨"_law_condition", st36, N36, P36, fa 36, fd 36⟩
  | 37 => some ⟨"_law_is_int", st37, N37, P37, fa 37, fd 37⟩
  | 38 => some ⟨"_law_same", st38, N38, P38, fa 38, fd 38⟩
  | 39 => some ⟨"_law_turns", st39, N39, P39, fa 39, fd 39⟩
  | 40 => some ⟨"_law_atoms", st40, N40, P40, fa 40, fd 40⟩
  | 41 => some ⟨"_law_open_names", st41, N41, P41, fa 41, fd 41⟩
  | 42 => some ⟨"_law_at", st42, N42, P42, fa 42, fd 42⟩
  | 43 => some ⟨"_law_true", st43, N43, P43, fa 43, fd 43⟩
  | 44 => some ⟨"_law_shuffled", st44, N44, P44, fa 44, fd 44⟩
  | 45 => some ⟨"_law_put", st45, N45, P45, fa 45, fd 45⟩
  | 46 => some ⟨"_law_put_in", st46, N46, P46, fa 46, fd 46⟩
  | 47 => some ⟨"_law_bent", st47, N47, P47, fa 47, fd 47⟩
  | 48 => some ⟨"_law_says", st48, N48, P48, fa 48, fd 48⟩
  | 49 => some ⟨"_law_is_word", st49, N49, P49, fa 49, fd 49⟩
  | 50 => some ⟨"_law_is_form", st50, N50, P50, fa 50, fd 50⟩
  | 51 => some ⟨"_law_is_formula", st51, N51, P51, fa 51, fd 51⟩
  | 52 => some ⟨"_law_odd_data", st52, N52, P52, fa 52, fd 52⟩
  | 53 => some ⟨"law", st53, N53, P53, fa 53, fd 53⟩
  | _ => none
/-- what the top has written -/
structure Txt (w : World) (cA : Nat → Addr) (K : PySem.W.Frag) (mg : Str → Option Value) (fa : Nat → Addr) : Prop where
  hK : True
  g_form : mg "form" = some (.ref (fa 0))
  g_plus : mg "plus" = some (.ref (fa 1))
  g_times : mg "times" = some (.ref (fa 2))
  g_image : mg "image" = some (.ref (fa 3))
  g_is_integer : mg "is_integer" = some (.ref (fa 4))
  g_is_tuple : mg "is_tuple" = some (.ref (fa 5))
  g_is_name : mg "is_name" = some (.ref (fa 6))
  g_is_form : mg "is_form" = some (.ref (fa 7))
  g_is_form_over : mg "is_form_over" = some (.ref (fa 8))
  g_joined : mg "joined" = some (.ref (fa 9))
  g_least : mg "least" = some (.ref (fa 10))
  g_below : mg "below" = some (.ref (fa 11))
  g_unlike : mg "unlike" = some (.ref (fa 12))
  g_opposite : mg "opposite" = some (.ref (fa 13))
  g_put : mg "put" = some (.ref (fa 14))
  g_atoms_of : mg "atoms_of" = some (.ref (fa 15))
  g_turns_of : mg "turns_of" = some (.ref (fa 16))
  g_open_names : mg "open_names" = some (.ref (fa 17))
  g_is_atom : mg "is_atom" = some (.ref (fa 18))
  g_is_formula : mg "is_formula" = some (.ref (fa 19))
  g__law_start : mg "_law_start" = some (.ref (fa 20))
  g__law_draw : mg "_law_draw" = some (.ref (fa 21))
  g__law_words : mg "_law_words" = some (.ref (fa 22))
  g__law_var : mg "_law_var" = some (.ref (fa 23))
  g__law_form : mg "_law_form" = some (.ref (fa 24))
  g__law_sum : mg "_law_sum" = some (.ref (fa 25))
  g__law_below : mg "_law_below" = some (.ref (fa 26))
  g__law_more : mg "_law_more" = some (.ref (fa 27))
  g__law_joined : mg "_law_joined" = some (.ref (fa 28))
  g__law_opposite : mg "_law_opposite" = some (.ref (fa 29))
  g__law_sum_form : mg "_law_sum_form" = some (.ref (fa 30))
  g__law_atom_core : mg "_law_atom_core" = some (.ref (fa 31))
  g__law_core : mg "_law_core" = some (.ref (fa 32))
  g__law_one_of : mg "_law_one_of" = some (.ref (fa 33))
  g__law_sum_ast : mg "_law_sum_ast" = some (.ref (fa 34))
  g__law_atom_ast : mg "_law_atom_ast" = some (.ref (fa 35))
  g__law_condition : mg "_law_condition" = some (.ref (fa 36))
  g__law_is_int : mg "_law_is_int" = some (.ref (fa 37))
  g__law_same : mg "_law_same" = some (.ref (fa 38))
  g__law_turns : mg "_law_turns" = some (.ref (fa 39))
  g__law_atoms : mg "_law_atoms" = some (.ref (fa 40))
  g__law_open_names : mg "_law_open_names" = some (.ref (fa 41))
  g__law_at : mg "_law_at" = some (.ref (fa 42))
  g__law_true : mg "_law_true" = some (.ref (fa 43))
  g__law_shuffled : mg "_law_shuffled" = some (.ref (fa 44))
  g__law_put : mg "_law_put" = some (.ref (fa 45))
  g__law_put_in : mg "_law_put_in" = some (.ref (fa 46))
  g__law_bent : mg "_law_bent" = some (.ref (fa 47))
  g__law_says : mg "_law_says" = some (.ref (fa 48))
  g__law_is_word : mg "_law_is_word" = some (.ref (fa 49))
  g__law_is_form : mg "_law_is_form" = some (.ref (fa 50))
  g__law_is_formula : mg "_law_is_formula" = some (.ref (fa 51))
  g__law_odd_data : mg "_law_odd_data" = some (.ref (fa 52))
  n_abs : mg "abs" = none
  n_all : mg "all" = none
  n_any : mg "any" = none
  n_bool : mg "bool" = none
  n_dict : mg "dict" = none
  n_int : mg "int" = none
  n_isinstance : mg "isinstance" = none
  n_len : mg "len" = none
  n_list : mg "list" = none
  n_range : mg "range" = none
  n_sorted : mg "sorted" = none
  n_str : mg "str" = none
  n_tuple : mg "tuple" = none
  c_JOINED : ∃ v u, mg "JOINED" = some u ∧ RelV v u ∧ ∀ H ρ, RV K H ρ c_JOINED v
  c_MINUS_ONE : ∃ v u, mg "MINUS_ONE" = some u ∧ RelV v u ∧ ∀ H ρ, RV K H ρ c_MINUS_ONE v
  c_RESTS : ∃ v u, mg "RESTS" = some u ∧ RelV v u ∧ ∀ H ρ, RV K H ρ c_RESTS v
  c_TURNS : ∃ v u, mg "TURNS" = some u ∧ RelV v u ∧ ∀ H ρ, RV K H ρ c_TURNS v
  c_ZERO : ∃ v u, mg "ZERO" = some u ∧ RelV v u ∧ ∀ H ρ, RV K H ρ c_ZERO v
  w_OTHERS : WD K w mg "OTHERS" d_OTHERS_
section
variable {cA : Nat → Addr} {P : Program} {w : World} {K : PySem.W.Frag} {mg : Str → Option Value} {base : Heap} {fa : Nat → Addr} {fd : Nat → FuncData}
theorem bd0 (T : Txt w cA K mg fa) : BodyOk ⟨K, cA⟩ P w K mg base (ent fa fd) ⟨"form", st0, N0, P0, fa 0, fd 0⟩ d_form := fun G cdv A outer s H E cl => by
  have tk : Takes (Ctx P w K mg base ⟨"form", st0, N0, P0, fa 0, fd 0⟩ cdv A outer s H E) (WB E) := takes_of rfl rfl rfl rfl
  have ps := passes_of (X := Ctx P w K mg base ⟨"form", st0, N0, P0, fa 0, fd 0⟩ cdv A outer s H E) rfl
  have hu := cl.room.units
  have hC : (⟨K, cA⟩ : Cfg).K = K := rfl
  have sc := sc0
  show PSs _ _ (tS _ _ (b_form G))
  delta b_form
  exact (ms_cons (m_set (i := 2) sc.nd (m_dic0)) (
ms_cons (m_for (vs := [3, 4]) ps rfl (mi_any hC (m_var (i := 1))) (mg_tup rfl hC (mgs_cons (mg_name (i := 3) sc.nd) (mgs_cons (mg_name (i := 4) sc.nd) (mgs_nil)))) (
ms_one (m_putD hu (m_var (i := 2)) (m_var (i := 3)) (m_op op_addM sim_add (m_get2 hu (m_var (i := 2)) (m_var (i := 3)) (m_int)) (m_var (i := 4)))))) (
ms_one (m_ret (m_tup (ma_cons (m_var (i := 0)) (ma_cons (m_gc (m_bty call_tuple_of sim_tuple T.n_tuple (ma_cons (m_lc (own := [("name", 3)]) rfl sc.nd (mi_any hC (m_bif (call_sortM rfl) sim_sorted T.n_sorted (ma_cons (m_var (i := 2)) ma_nil))) (blkOk_by (by kernel_rfl)) (fun _ _ _ _ _ => mg_name (i := 3) sc.nd) (fun _ _ _ _ _ => mts_one (mt_cmp (op_neM hu) sim_ne (m_ixA hu hC (m_var (i := 2)) (m_var (i := 3))) (m_int))) (fun _ _ _ _ _ => m_tup (ma_cons (m_var (i := 3)) (ma_cons (m_ixA hu hC (m_var (i := 2)) (m_var (i := 3))) ma_nil)))) ma_nil))) ma_nil)))))))
theorem bd1 (T : Txt w cA K mg fa) : BodyOk ⟨K, cA⟩ P w K mg base (ent fa fd) ⟨"plus", st1, N1, P1, fa 1, fd 1⟩ d_plus := fun G cdv A outer s H E cl => by
  have tk : Takes (Ctx P w K mg base ⟨"plus", st1, N1, P1, fa 1, fd 1⟩ cdv A outer s H E) (WB E) := takes_of rfl rfl rfl rfl
  have ps := passes_of (X := Ctx P w K mg base ⟨"plus", st1, N1, P1, fa 1, fd 1⟩ cdv A outer s H E) rfl
  have hu := cl.room.units
  have hC : (⟨K, cA⟩ : Cfg).K = K := rfl
  have sc := sc1
  show PSs _ _ (tS _ _ (b_plus G))
  delta b_plus
  exact (ms_cons (m_if (mt_not (mt_val (m_ix hC (m_var (i := 1)) (m_int)) hC)) (
ms_one (m_ret (m_tup (ma_cons (m_op op_addM sim_add (m_ix hC (m_var (i := 0)) (m_int)) (m_ix hC (m_var (i := 1)) (m_int))) (ma_cons (m_ix hC (m_var (i := 0)) (m_int)) ma_nil))))) (
ms_nil)) (
ms_one (m_ret (m_call (cl.call 0 _ rfl) T.g_form tk (ma_cons (m_op op_addM sim_add (m_ix hC (m_var (i := 0)) (m_int)) (m_ix hC (m_var (i := 1)) (m_int))) (ma_cons (m_op op_addM sim_add (m_ix hC (m_var (i := 0)) (m_int)) (m_ix hC (m_var (i := 1)) (m_int))) ma_nil))))))
theorem bd2 (T : Txt w cA K mg fa) : BodyOk ⟨K, cA⟩ P w K mg base (ent fa fd) ⟨"times", st2, N2, P2, fa 2, fd 2⟩ d_times := fun G cdv A outer s H E cl => by
  have tk : Takes (Ctx P w K mg base ⟨"times", st2, N2, P2, fa 2, fd 2⟩ cdv A outer s H E) (WB E) := takes_of rfl rfl rfl rfl
  have ps := passes_of (X := Ctx P w K mg base ⟨"times", st2, N2, P2, fa 2, fd 2⟩ cdv A outer s H E) rfl
  have hu := cl.room.units
  have hC : (⟨K, cA⟩ : Cfg).K = K := rfl
  have sc := sc2
  show PSs _ _ (tS _ _ (b_times G))
  delta b_times
  exact (ms_cons (m_if (mt_cmp (op_eqM hu) sim_eq (m_var (i := 0)) (m_int)) (
ms_one (m_ret (m_globE T.c_ZERO))) (
ms_nil)) (
ms_one (m_ret (m_tup (ma_cons (m_op op_mulM sim_mul (m_var (i := 0)) (m_ix hC (m_var (i := 1)) (m_int))) (ma_cons (m_gc (m_bty call_tuple_of sim_tuple T.n_tuple (ma_cons (m_lc (own := [("name", 2), ("coefficient", 3)]) rfl sc.nd (mi_any hC (m_ix hC (m_var (i := 1)) (m_int))) (blkOk_by (by kernel_rfl)) (fun _ _ _ _ _ => mg_tup rfl hC (mgs_cons (mg_name (i := 2) sc.nd) (mgs_cons (mg_name (i := 3) sc.nd) (mgs_nil)))) (fun _ _ _ _ _ => mts_nil) (fun _ _ _ _ _ => m_tup (ma_cons (m_var (i := 2)) (ma_cons (m_op op_mulM sim_mul (m_var (i := 0)) (m_var (i := 3))) ma_nil)))) ma_nil))) ma_nil))))))
theorem bd3 (T : Txt w cA K mg fa) : BodyOk ⟨K, cA⟩ P w K mg base (ent fa fd) ⟨"image", st3, N3, P3, fa 3, fd 3⟩ d_image := fun G cdv A outer s H E cl => by
  have tk : Takes (Ctx P w K mg base ⟨"image", st3, N3, P3, fa 3, fd 3⟩ cdv A outer s H E) (WB E) := takes_of rfl rfl rfl rfl
  have ps := passes_of (X := Ctx P w K mg base ⟨"image", st3, N3, P3, fa 3, fd 3⟩ cdv A outer s H E) rfl
  have hu := cl.room.units
  have hC : (⟨K, cA⟩ : Cfg).K = K := rfl
  have sc := sc3
  show PSs _ _ (tS _ _ (b_image G))
  delta b_image
  exact (ms_cons (m_setDc (i := 2) (own := [("name", 5), ("g", 7)]) rfl sc.nd rfl (sw_trueD rfl rfl rfl (by kernel_rfl)) (mi_any hC (m_var (i := 1))) (blkOk_by (by kernel_rfl)) (fun _ _ _ _ _ => mg_tup rfl hC (mgs_cons (mg_name (i := 5) sc.nd) (mgs_cons (mg_name (i := 7) sc.nd) (mgs_nil)))) (fun _ _ _ _ _ => mts_nil) (fun _ _ _ _ _ => m_var (i := 5)) (fun _ _ _ _ _ => m_var (i := 7))) (
ms_cons (m_set (i := 3) sc.nd (m_ix hC (m_var (i := 0)) (m_int))) (
ms_cons (m_set (i := 4) sc.nd (m_lst (ma_nil))) (
ms_cons (m_for (vs := [5, 6]) ps rfl (mi_any hC (m_ix hC (m_var (i := 0)) (m_int))) (mg_tup rfl hC (mgs_cons (mg_name (i := 5) sc.nd) (mgs_cons (mg_name (i := 6) sc.nd) (mgs_nil)))) (
ms_one (m_if (mt_inA hu hC (m_var (i := 5)) (m_var (i := 2))) (
ms_cons (m_set (i := 7) sc.nd (m_ixA hu hC (m_var (i := 2)) (m_var (i := 5)))) (
ms_cons (m_aug (i := 3) sc.nd inp_addM sim_inpAdd (m_op op_mulM sim_mul (m_var (i := 6)) (m_ix hC (m_var (i := 7)) (m_int)))) (
ms_one (m_ex (m_gc (m_met (ty := .list) hC PySem.F.plainAttrs_list PySem.F.slot_list_extend PySem.F.type_list_extend mt_extendM sim_extend (m_var (i := 4)) (ma_cons (m_lc (own := [("other", 8), ("factor", 9)]) rfl sc.nd (mi_any hC (m_ix hC (m_var (i := 7)) (m_int))) (blkOk_by (by kernel_rfl)) (fun _ _ _ _ _ => mg_tup rfl hC (mgs_cons (mg_name (i := 8) sc.nd) (mgs_cons (mg_name (i := 9) sc.nd) (mgs_nil)))) (fun _ _ _ _ _ => mts_nil) (fun _ _ _ _ _ => m_tup (ma_cons (m_var (i := 8)) (ma_cons (m_op op_mulM sim_mul (m_var (i := 6)) (m_var (i := 9))) ma_nil)))) ma_nil))))))) (
ms_one (m_ex (m_met (ty := .list) hC PySem.F.plainAttrs_list PySem.F.slot_list_append PySem.F.type_list_append mt_append sim_append (m_var (i := 4)) (ma_cons (m_tup (ma_cons (m_var (i := 5)) (ma_cons (m_var (i := 6)) ma_nil))) ma_nil))))))) (
ms_one (m_ret (m_call (cl.call 0 _ rfl) T.g_form tk (ma_cons (m_var (i := 3)) (ma_cons (m_var (i := 4)) ma_nil)))))))))
theorem bd4 (T : Txt w cA K mg fa) : BodyOk ⟨K, cA⟩ P w K mg base (ent fa fd) ⟨"is_integer", st4, N4, P4, fa 4, fd 4⟩ d_is_integer := fun G cdv A outer s H E cl => by
  have tk : Takes (Ctx P w K mg base ⟨"is_integer", st4, N4, P4, fa 4, fd 4⟩ cdv A outer s H E) (WB E) := takes_of rfl rfl rfl rfl
  have ps := passes_of (X := Ctx P w K mg base ⟨"is_integer", st4, N4, P4, fa 4, fd 4⟩ cdv A outer s H E) rfl
  have hu := cl.room.units
  have hC : (⟨K, cA⟩ : Cfg).K = K := rfl
  have sc := sc4
  show PSs _ _ (tS _ _ (b_is_integer G))
  delta b_is_integer
  exact (ms_one (m_ret (m_and (m_isi (c := "int") hC (m_var (i := 0)) T.n_isinstance T.n_int) (m_one (m_not (m_isi (c := "bool") hC (m_var (i := 0)) T.n_isinstance T.n_bool))))))
theorem bd5 (T : Txt w cA K mg fa) : BodyOk ⟨K, cA⟩ P w K mg base (ent fa fd) ⟨"is_tuple", st5, N5, P5, fa 5, fd 5⟩ d_is_tuple := fun G cdv A outer s H E cl => by
  have tk : Takes (Ctx P w K mg base ⟨"is_tuple", st5, N5, P5, fa 5, fd 5⟩ cdv A outer s H E) (WB E) := takes_of rfl rfl rfl rfl
  have ps := passes_of (X := Ctx P w K mg base ⟨"is_tuple", st5, N5, P5, fa 5, fd 5⟩ cdv A outer s H E) rfl
  have hu := cl.room.units
  have hC : (⟨K, cA⟩ : Cfg).K = K := rfl
  have sc := sc5
  show PSs _ _ (tS _ _ (b_is_tuple G))
  delta b_is_tuple
  exact (ms_one (m_ret (m_and (m_isi (c := "tuple") hC (m_var (i := 0)) T.n_isinstance T.n_tuple) (m_one (m_cmp (op_eqM hu) sim_eq (m_bif call_len sim_len T.n_len (ma_cons (m_var (i := 0)) ma_nil)) (m_var (i := 1)))))))
theorem bd6 (T : Txt w cA K mg fa) : BodyOk ⟨K, cA⟩ P w K mg base (ent fa fd) ⟨"is_name", st6, N6, P6, fa 6, fd 6⟩ d_is_name := fun G cdv A outer s H E cl => by
  have tk : Takes (Ctx P w K mg base ⟨"is_name", st6, N6, P6, fa 6, fd 6⟩ cdv A outer s H E) (WB E) := takes_of rfl rfl rfl rfl
  have ps := passes_of (X := Ctx P w K mg base ⟨"is_name", st6, N6, P6, fa 6, fd 6⟩ cdv A outer s H E) rfl
  have hu := cl.room.units
  have hC : (⟨K, cA⟩ : Cfg).K = K := rfl
  have sc := sc6
  show PSs _ _ (tS _ _ (b_is_name G))
  delta b_is_name
  exact (ms_one (m_ret (m_and (m_isi (c := "str") hC (m_var (i := 0)) T.n_isinstance T.n_str) (m_and (m_cmp (op_neM hu) sim_ne (m_var (i := 0)) (m_str)) (m_and (m_notInA hu hC (m_str) (m_var (i := 0))) (m_one (m_notInA hu hC (m_str) (m_var (i := 0)))))))))
theorem bd7 (T : Txt w cA K mg fa) : BodyOk ⟨K, cA⟩ P w K mg base (ent fa fd) ⟨"is_form", st7, N7, P7, fa 7, fd 7⟩ d_is_form := fun G cdv A outer s H E cl => by
  have tk : Takes (Ctx P w K mg base ⟨"is_form", st7, N7, P7, fa 7, fd 7⟩ cdv A outer s H E) (WB E) := takes_of rfl rfl rfl rfl
  have ps := passes_of (X := Ctx P w K mg base ⟨"is_form", st7, N7, P7, fa 7, fd 7⟩ cdv A outer s H E) rfl
  have hu := cl.room.units
  have hC : (⟨K, cA⟩ : Cfg).K = K := rfl
  have sc := sc7
  show PSs _ _ (tS _ _ (b_is_form G))
  delta b_is_form
  exact (ms_cons (m_if (PW.pt (mw_or (mt_not (mt_val (m_call (cl.call 5 _ rfl) T.g_is_tuple tk (ma_cons (m_var (i := 0)) (ma_cons (m_int) ma_nil))) hC)) (mw_or (mt_not (mt_val (m_call (cl.call 4 _ rfl) T.g_is_integer tk (ma_cons (m_ix hC (m_var (i := 0)) (m_int)) ma_nil)) hC)) (mw_or1 (mt_not (mt_val (m_isi (c := "tuple") hC (m_ix hC (m_var (i := 0)) (m_int)) T.n_isinstance T.n_tuple) hC)))))) (
ms_one (m_ret (m_bl))) (
ms_nil)) (
ms_cons (m_set (i := 1) sc.nd (m_str)) (
ms_cons (m_for (vs := [2]) ps rfl (mi_any hC (m_ix hC (m_var (i := 0)) (m_int))) (mg_name (i := 2) sc.nd) (
ms_cons (m_if (PW.pt (mw_or (mt_not (mt_val (m_call (cl.call 5 _ rfl) T.g_is_tuple tk (ma_cons (m_var (i := 2)) (ma_cons (m_int) ma_nil))) hC)) (mw_or (mt_not (mt_val (m_call (cl.call 6 _ rfl) T.g_is_name tk (ma_cons (m_ix hC (m_var (i := 2)) (m_int)) ma_nil)) hC)) (mw_or1 (mt_not (mt_val (m_call (cl.call 4 _ rfl) T.g_is_integer tk (ma_cons (m_ix hC (m_var (i := 2)) (m_int)) ma_nil)) hC)))))) (
ms_one (m_ret (m_bl))) (
ms_nil)) (
ms_cons (m_if (PW.pt (mw_or (mt_cmp op_leM sim_le (m_ix hC (m_var (i := 2)) (m_int)) (m_var (i := 1))) (mw_or1 (mt_cmp (op_eqM hu) sim_eq (m_ix hC (m_var (i := 2)) (m_int)) (m_int))))) (
ms_one (m_ret (m_bl))) (
ms_nil)) (
ms_one (m_set (i := 1) sc.nd (m_ix hC (m_var (i := 2)) (m_int))))))) (
ms_one (m_ret (m_bl))))))
theorem bd8 (T : Txt w cA K mg fa) : BodyOk ⟨K, cA⟩ P w K mg base (ent fa fd) ⟨"is_form_over", st8, N8, P8, fa 8, fd 8⟩ d_is_form_over := fun G cdv A outer s H E cl => by
  have tk : Takes (Ctx P w K mg base ⟨"is_form_over", st8, N8, P8, fa 8, fd 8⟩ cdv A outer s H E) (WB E) := takes_of rfl rfl rfl rfl
  have ps := passes_of (X := Ctx P w K mg base ⟨"is_form_over", st8, N8, P8, fa 8, fd 8⟩ cdv A outer s H E) rfl
  have hu := cl.room.units
  have hC : (⟨K, cA⟩ : Cfg).K = K := rfl
  have sc := sc8
  show PSs _ _ (tS _ _ (b_is_form_over G))
  delta b_is_form_over
  exact (ms_one (m_ret (m_and (m_call (cl.call 7 _ rfl) T.g_is_form tk (ma_cons (m_var (i := 0)) ma_nil)) (m_one (m_gc (m_bif (cr_all rfl) sim_allG T.n_all (ma_cons (m_lc (own := [("name", 2), ("coefficient", 3)]) rfl sc.nd (mi_any hC (m_ix hC (m_var (i := 0)) (m_int))) (blkOk_by (by kernel_rfl)) (fun _ _ _ _ _ => mg_tup rfl hC (mgs_cons (mg_name (i := 2) sc.nd) (mgs_cons (mg_name (i := 3) sc.nd) (mgs_nil)))) (fun _ _ _ _ _ => mts_nil) (fun _ _ _ _ _ => m_inA hu hC (m_var (i := 2)) (m_var (i := 1)))) ma_nil)))))))
theorem bd9 (T : Txt w cA K mg fa) : BodyOk ⟨K, cA⟩ P w K mg base (ent fa fd) ⟨"joined", st9, N9, P9, fa 9, fd 9⟩ d_joined := fun G cdv A outer s H E cl => by
  have tk : Takes (Ctx P w K mg base ⟨"joined", st9, N9, P9, fa 9, fd 9⟩ cdv A outer s H E) (WB E) := takes_of rfl rfl rfl rfl
  have ps := passes_of (X := Ctx P w K mg base ⟨"joined", st9, N9, P9, fa 9, fd 9⟩ cdv A outer s H E) rfl
  have hu := cl.room.units
  have hC : (⟨K, cA⟩ : Cfg).K = K := rfl
  have sc := sc9
  show PSs _ _ (tS _ _ (b_joined G))
  delta b_joined
  exact (ms_cons (m_set (i := 2) sc.nd (m_lst (ma_nil))) (
ms_cons (m_for (vs := [3]) ps rfl (mi_any hC (m_var (i := 1))) (mg_name (i := 3) sc.nd) (
ms_one (m_if (mt_cmp (op_eqM hu) sim_eq (m_ix hC (m_var (i := 3)) (m_int)) (m_var (i := 0))) (
ms_one (m_ex (m_met (ty := .list) hC PySem.F.plainAttrs_list PySem.F.slot_list_extend PySem.F.type_list_extend mt_extendM sim_extend (m_var (i := 2)) (ma_cons (m_ix hC (m_var (i := 3)) (m_int)) ma_nil)))) (
ms_one (m_ex (m_met (ty := .list) hC PySem.F.plainAttrs_list PySem.F.slot_list_append PySem.F.type_list_append mt_append sim_append (m_var (i := 2)) (ma_cons (m_var (i := 3)) ma_nil))))))) (
ms_one (m_ret (m_tup (ma_cons (m_var (i := 0)) (ma_cons (m_bty call_tuple_of sim_tuple T.n_tuple (ma_cons (m_var (i := 2)) ma_nil)) ma_nil)))))))
theorem bd10 (T : Txt w cA K mg fa) : BodyOk ⟨K, cA⟩ P w K mg base (ent fa fd) ⟨"least", st10, N10, P10, fa 10, fd 10⟩ d_least := fun G cdv A outer s H E cl => by
  have tk : Takes (Ctx P w K mg base ⟨"least", st10, N10, P10, fa 10, fd 10⟩ cdv A outer s H E) (WB E) := takes_of rfl rfl rfl rfl
  have ps := passes_of (X := Ctx P w K mg base ⟨"least", st10, N10, P10, fa 10, fd 10⟩ cdv A outer s H E) rfl
  have hu := cl.room.units
  have hC : (⟨K, cA⟩ : Cfg).K = K := rfl
  have sc := sc10
  show PSs _ _ (tS _ _ (b_least G))
  delta b_least
  exact (ms_one (m_ret (m_tup (ma_cons (m_str) (ma_cons (m_var (i := 0)) ma_nil)))))
theorem bd11 (T : Txt w cA K mg fa) : BodyOk ⟨K, cA⟩ P w K mg base (ent fa fd) ⟨"below", st11, N11, P11, fa 11, fd 11⟩ d_below := fun G cdv A outer s H E cl => by
  have tk : Takes (Ctx P w K mg base ⟨"below", st11, N11, P11, fa 11, fd 11⟩ cdv A outer s H E) (WB E) := takes_of rfl rfl rfl rfl
  have ps := passes_of (X := Ctx P w K mg base ⟨"below", st11, N11, P11, fa 11, fd 11⟩ cdv A outer s H E) rfl
  have hu := cl.room.units
  have hC : (⟨K, cA⟩ : Cfg).K = K := rfl
  have sc := sc11
  show PSs _ _ (tS _ _ (b_below G))
  delta b_below
  exact (ms_one (m_ret (m_call (cl.call 1 _ rfl) T.g_plus tk (ma_cons (m_call (cl.call 2 _ rfl) T.g_times tk (ma_cons (m_un un_neg sim_neg (m_int)) (ma_cons (m_var (i := 0)) ma_nil))) (ma_cons (m_globE T.c_MINUS_ONE) ma_nil)))))
theorem bd12 (T : Txt w cA K mg fa) : BodyOk ⟨K, cA⟩ P w K mg base (ent fa fd) ⟨"unlike", st12, N12, P12, fa 12, fd 12⟩ d_unlike := fun G cdv A outer s H E cl => by
  have tk : Takes (Ctx P w K mg base ⟨"unlike", st12, N12, P12, fa 12, fd 12⟩ cdv A outer s H E) (WB E) := takes_of rfl rfl rfl rfl
  have ps := passes_of (X := Ctx P w K mg base ⟨"unlike", st12, N12, P12, fa 12, fd 12⟩ cdv A outer s H E) rfl
  have hu := cl.room.units
  have hC : (⟨K, cA⟩ : Cfg).K = K := rfl
  have sc := sc12
  show PSs _ _ (tS _ _ (b_unlike G))
  delta b_unlike
  exact (ms_one (m_ret (m_tup (ma_cons (m_str) (ma_cons (m_tup (ma_cons (m_call (cl.call 10 _ rfl) T.g_least tk (ma_cons (m_call (cl.call 1 _ rfl) T.g_plus tk (ma_cons (m_var (i := 0)) (ma_cons (m_globE T.c_MINUS_ONE) ma_nil))) ma_nil)) (ma_cons (m_call (cl.call 10 _ rfl) T.g_least tk (ma_cons (m_call (cl.call 11 _ rfl) T.g_below tk (ma_cons (m_var (i := 0)) ma_nil)) ma_nil)) ma_nil))) ma_nil)))))
theorem bd13 (T : Txt w cA K mg fa) : BodyOk ⟨K, cA⟩ P w K mg base (ent fa fd) ⟨"opposite", st13, N13, P13, fa 13, fd 13⟩ d_opposite := fun G cdv A outer s H E cl => by
  have tk : Takes (Ctx P w K mg base ⟨"opposite", st13, N13, P13, fa 13, fd 13⟩ cdv A outer s H E) (WB E) := takes_of rfl rfl rfl rfl
  have ps := passes_of (X := Ctx P w K mg base ⟨"opposite", st13, N13, P13, fa 13, fd 13⟩ cdv A outer s H E) rfl
  have hu := cl.room.units
  have hC : (⟨K, cA⟩ : Cfg).K = K := rfl
  have sc := sc13
  show PSs _ _ (tS _ _ (b_opposite G))
  delta b_opposite
  exact (ms_cons (m_set (i := 1) sc.nd (m_ix hC (m_var (i := 0)) (m_int))) (
ms_cons (m_if (mt_cmp (op_eqM hu) sim_eq (m_var (i := 1)) (m_str)) (
ms_one (m_ret (m_call (cl.call 10 _ rfl) T.g_least tk (ma_cons (m_call (cl.call 11 _ rfl) T.g_below tk (ma_cons (m_ix hC (m_var (i := 0)) (m_int)) ma_nil)) ma_nil)))) (
ms_nil)) (
ms_cons (m_if (mt_cmp (op_eqM hu) sim_eq (m_var (i := 1)) (m_str)) (
ms_one (m_ret (m_call (cl.call 12 _ rfl) T.g_unlike tk (ma_cons (m_ix hC (m_var (i := 0)) (m_int)) ma_nil)))) (
ms_nil)) (
ms_cons (m_if (mt_cmp op_inM sim_in (m_var (i := 1)) (m_globE T.c_RESTS)) (
ms_one (m_ret (m_op op_addM sim_add (m_tup (ma_cons (m_kd T.w_OTHERS hC (m_var (i := 1))) ma_nil)) (m_slice hC (m_var (i := 0)) (mo_some (m_int)) (mo_none))))) (
ms_nil)) (
ms_cons (m_if (mt_cmp op_inM sim_in (m_var (i := 1)) (m_globE T.c_TURNS)) (
ms_one (m_ret (m_tup (ma_cons (m_kd T.w_OTHERS hC (m_var (i := 1))) (ma_cons (m_ix hC (m_var (i := 0)) (m_int)) (ma_cons (m_call (cl.call 13 _ rfl) T.g_opposite tk (ma_cons (m_ix hC (m_var (i := 0)) (m_int)) ma_nil)) ma_nil)))))) (
ms_nil)) (
ms_one (m_ret (m_call (cl.call 9 _ rfl) T.g_joined tk (ma_cons (m_kd T.w_OTHERS hC (m_var (i := 1))) (ma_cons (m_lc (own := [("part", 2)]) rfl sc.nd (mi_any hC (m_ix hC (m_var (i := 0)) (m_int))) (blkOk_by (by kernel_rfl)) (fun _ _ _ _ _ => mg_name (i := 2) sc.nd) (fun _ _ _ _ _ => mts_nil) (fun _ _ _ _ _ => m_call (cl.call 13 _ rfl) T.g_opposite takes0 (ma_cons (m_var (i := 2)) ma_nil))) ma_nil))))))))))
theorem bd14 (T : Txt w cA K mg fa) : BodyOk ⟨K, cA⟩ P w K mg base (ent fa fd) ⟨"put", st14, N14, P14, fa 14, fd 14⟩ d_put := fun G cdv A outer s H E cl => by
  have tk : Takes (Ctx P w K mg base ⟨"put", st14, N14, P14, fa 14, fd 14⟩ cdv A outer s H E) (WB E) := takes_of rfl rfl rfl rfl
  have ps := passes_of (X := Ctx P w K mg base ⟨"put", st14, N14, P14, fa 14, fd 14⟩ cdv A outer s H E) rfl
  have hu := cl.room.units
  have hC : (⟨K, cA⟩ : Cfg).K = K := rfl
  have sc := sc14
  show PSs _ _ (tS _ _ (b_put G))
  delta b_put
  exact (ms_cons (m_set (i := 2) sc.nd (m_ix hC (m_var (i := 0)) (m_int))) (
ms_cons (m_if (mt_cmp op_inM sim_in (m_var (i := 2)) (m_globE T.c_JOINED)) (
ms_one (m_ret (m_tup (ma_cons (m_var (i := 2)) (ma_cons (m_gc (m_bty call_tuple_of sim_tuple T.n_tuple (ma_cons (m_lc (own := [("part", 3)]) rfl sc.nd (mi_any hC (m_ix hC (m_var (i := 0)) (m_int))) (blkOk_by (by kernel_rfl)) (fun _ _ _ _ _ => mg_name (i := 3) sc.nd) (fun _ _ _ _ _ => mts_nil) (fun _ _ _ _ _ => m_call (cl.call 14 _ rfl) T.g_put takes0 (ma_cons (m_var (i := 3)) (ma_cons (m_var (i := 1)) ma_nil)))) ma_nil))) ma_nil))))) (
ms_nil)) (
ms_cons (m_if (mt_cmp op_inM sim_in (m_var (i := 2)) (m_globE T.c_TURNS)) (
ms_one (m_ret (m_tup (ma_cons (m_var (i := 2)) (ma_cons (m_ix hC (m_var (i := 0)) (m_int)) (ma_cons (m_call (cl.call 14 _ rfl) T.g_put tk (ma_cons (m_ix hC (m_var (i := 0)) (m_int)) (ma_cons (m_var (i := 1)) ma_nil))) ma_nil)))))) (
ms_nil)) (
ms_one (m_ret (m_op op_addM sim_add (m_slice hC (m_var (i := 0)) (mo_none) (mo_some (m_un un_neg sim_neg (m_int)))) (m_tup (ma_cons (m_call (cl.call 3 _ rfl) T.g_image tk (ma_cons (m_ix hC (m_var (i := 0)) (m_un un_neg sim_neg (m_int))) (ma_cons (m_var (i := 1)) ma_nil))) ma_nil))))))))
theorem bd15 (T : Txt w cA K mg fa) : BodyOk ⟨K, cA⟩ P w K mg base (ent fa fd) ⟨"atoms_of", st15, N15, P15, fa 15, fd 15⟩ d_atoms_of := fun G cdv A outer s H E cl => by
  have tk : Takes (Ctx P w K mg base ⟨"atoms_of", st15, N15, P15, fa 15, fd 15⟩ cdv A outer s H E) (WB E) := takes_of rfl rfl rfl rfl
  have ps := passes_of (X := Ctx P w K mg base ⟨"atoms_of", st15, N15, P15, fa 15, fd 15⟩ cdv A outer s H E) rfl
  have hu := cl.room.units
  have hC : (⟨K, cA⟩ : Cfg).K = K := rfl
  have sc := sc15
  show PSs _ _ (tS _ _ (b_atoms_of G))
  delta b_atoms_of
  exact (ms_cons (m_if (mt_cmp op_inM sim_in (m_ix hC (m_var (i := 0)) (m_int)) (m_globE T.c_JOINED)) (
ms_one (m_ret (m_lc2 (own := [("part", 1), ("atom", 2)]) (vs1 := [2]) rfl sc.nd (mi_any hC (m_ix hC (m_var (i := 0)) (m_int))) (blkOk_by (by kernel_rfl)) (by decide) (fun _ _ _ _ _ => mg_name (i := 1) sc.nd) (fun _ _ _ _ _ => mts_nil) (fun _ _ _ _ _ => mi_any hC (m_call (cl.call 15 _ rfl) T.g_atoms_of takes0 (ma_cons (m_var (i := 1)) ma_nil))) (fun _ _ _ _ _ => mg_name (i := 2) sc.nd) (fun _ _ _ _ _ => mts_nil) (fun _ _ _ _ _ => m_var (i := 2))))) (
ms_nil)) (
ms_cons (m_if (mt_cmp op_inM sim_in (m_ix hC (m_var (i := 0)) (m_int)) (m_globE T.c_TURNS)) (
ms_one (m_ret (m_call (cl.call 15 _ rfl) T.g_atoms_of tk (ma_cons (m_ix hC (m_var (i := 0)) (m_int)) ma_nil)))) (
ms_nil)) (
ms_one (m_ret (m_lst (ma_cons (m_var (i := 0)) ma_nil))))))
theorem bd16 (T : Txt w cA K mg fa) : BodyOk ⟨K, cA⟩ P w K mg base (ent fa fd) ⟨"turns_of", st16, N16, P16, fa 16, fd 16⟩ d_turns_of := fun G cdv A outer s H E cl => by
  have tk : Takes (Ctx P w K mg base ⟨"turns_of", st16, N16, P16, fa 16, fd 16⟩ cdv A outer s H E) (WB E) := takes_of rfl rfl rfl rfl
  have ps := passes_of (X := Ctx P w K mg base ⟨"turns_of", st16, N16, P16, fa 16, fd 16⟩ cdv A outer s H E) rfl
  have hu := cl.room.units
  have hC : (⟨K, cA⟩ : Cfg).K = K := rfl
  have sc := sc16
  show PSs _ _ (tS _ _ (b_turns_of G))
  delta b_turns_of
  exact (ms_cons (m_if (mt_cmp op_inM sim_in (m_ix hC (m_var (i := 0)) (m_int)) (m_globE T.c_JOINED)) (
ms_one (m_ret (m_lc2 (own := [("part", 1), ("name", 2)]) (vs1 := [2]) rfl sc.nd (mi_any hC (m_ix hC (m_var (i := 0)) (m_int))) (blkOk_by (by kernel_rfl)) (by decide) (fun _ _ _ _ _ => mg_name (i := 1) sc.nd) (fun _ _ _ _ _ => mts_nil) (fun _ _ _ _ _ => mi_any hC (m_call (cl.call 16 _ rfl) T.g_turns_of takes0 (ma_cons (m_var (i := 1)) ma_nil))) (fun _ _ _ _ _ => mg_name (i := 2) sc.nd) (fun _ _ _ _ _ => mts_nil) (fun _ _ _ _ _ => m_var (i := 2))))) (
ms_nil)) (
ms_cons (m_if (mt_cmp op_inM sim_in (m_ix hC (m_var (i := 0)) (m_int)) (m_globE T.c_TURNS)) (
ms_one (m_ret (m_op op_addM sim_add (m_lst (ma_cons (m_ix hC (m_var (i := 0)) (m_int)) ma_nil)) (m_call (cl.call 16 _ rfl) T.g_turns_of tk (ma_cons (m_ix hC (m_var (i := 0)) (m_int)) ma_nil))))) (
ms_nil)) (
ms_one (m_ret (m_lst (ma_nil))))))
theorem bd17 (T : Txt w cA K mg fa) : BodyOk ⟨K, cA⟩ P w K mg base (ent fa fd) ⟨"open_names", st17, N17, P17, fa 17, fd 17⟩ d_open_names := fun G cdv A outer s H E cl => by
  have tk : Takes (Ctx P w K mg base ⟨"open_names", st17, N17, P17, fa 17, fd 17⟩ cdv A outer s H E) (WB E) := takes_of rfl rfl rfl rfl
  have ps := passes_of (X := Ctx P w K mg base ⟨"open_names", st17, N17, P17, fa 17, fd 17⟩ cdv A outer s H E) rfl
  have hu := cl.room.units
  have hC : (⟨K, cA⟩ : Cfg).K = K := rfl
  have sc := sc17
  show PSs _ _ (tS _ _ (b_open_names G))
  delta b_open_names
  exact (ms_cons (m_set (i := 1) sc.nd (m_call (cl.call 16 _ rfl) T.g_turns_of tk (ma_cons (m_var (i := 0)) ma_nil))) (
ms_cons (m_set (i := 2) sc.nd (m_dic0)) (
ms_cons (m_for (vs := [3]) ps rfl (mi_any hC (m_call (cl.call 15 _ rfl) T.g_atoms_of tk (ma_cons (m_var (i := 0)) ma_nil))) (mg_name (i := 3) sc.nd) (
ms_one (m_for (vs := [4, 5]) ps rfl (mi_any hC (m_ix hC (m_ix hC (m_var (i := 3)) (m_un un_neg sim_neg (m_int))) (m_int))) (mg_tup rfl hC (mgs_cons (mg_name (i := 4) sc.nd) (mgs_cons (mg_name (i := 5) sc.nd) (mgs_nil)))) (
ms_one (m_putD hu (m_var (i := 2)) (m_var (i := 4)) (m_bl)))))) (
ms_one (m_ret (m_gc (m_bty call_tuple_of sim_tuple T.n_tuple (ma_cons (m_lc (own := [("name", 4)]) rfl sc.nd (mi_any hC (m_bif (call_sortM rfl) sim_sorted T.n_sorted (ma_cons (m_var (i := 2)) ma_nil))) (blkOk_by (by kernel_rfl)) (fun _ _ _ _ _ => mg_name (i := 4) sc.nd) (fun _ _ _ _ _ => mts_one (mt_notInA hu hC (m_var (i := 4)) (m_var (i := 1)))) (fun _ _ _ _ _ => m_var (i := 4))) ma_nil))))))))
theorem bd18 (T : Txt w cA K mg fa) : BodyOk ⟨K, cA⟩ P w K mg base (ent fa fd) ⟨"is_atom", st18, N18, P18, fa 18, fd 18⟩ d_is_atom := fun G cdv A outer s H E cl => by
  have tk : Takes (Ctx P w K mg base ⟨"is_atom", st18, N18, P18, fa 18, fd 18⟩ cdv A outer s H E) (WB E) := takes_of rfl rfl rfl rfl
  have ps := passes_of (X := Ctx P w K mg base ⟨"is_atom", st18, N18, P18, fa 18, fd 18⟩ cdv A outer s H E) rfl
  have hu := cl.room.units
  have hC : (⟨K, cA⟩ : Cfg).K = K := rfl
  have sc := sc18
  show PSs _ _ (tS _ _ (b_is_atom G))
  delta b_is_atom
  exact (ms_cons (m_if (mt_cmp op_inM sim_in (m_ix hC (m_var (i := 0)) (m_int)) (m_globE T.c_RESTS)) (
ms_one (m_ret (m_and (m_call (cl.call 5 _ rfl) T.g_is_tuple tk (ma_cons (m_var (i := 0)) (ma_cons (m_int) ma_nil))) (m_and (m_call (cl.call 4 _ rfl) T.g_is_integer tk (ma_cons (m_ix hC (m_var (i := 0)) (m_int)) ma_nil)) (m_and (m_cmp op_geM sim_ge (m_ix hC (m_var (i := 0)) (m_int)) (m_int)) (m_one (m_call (cl.call 8 _ rfl) T.g_is_form_over tk (ma_cons (m_ix hC (m_var (i := 0)) (m_int)) (ma_cons (m_var (i := 1)) ma_nil))))))))) (
ms_nil)) (
ms_one (m_ret (m_and (m_cmp op_inM sim_in (m_ix hC (m_var (i := 0)) (m_int)) (m_tup (ma_cons (m_str) (ma_cons (m_str) ma_nil)))) (m_and (m_call (cl.call 5 _ rfl) T.g_is_tuple tk (ma_cons (m_var (i := 0)) (ma_cons (m_int) ma_nil))) (m_one (m_call (cl.call 8 _ rfl) T.g_is_form_over tk (ma_cons (m_ix hC (m_var (i := 0)) (m_int)) (ma_cons (m_var (i := 1)) ma_nil)))))))))
theorem bd19 (T : Txt w cA K mg fa) : BodyOk ⟨K, cA⟩ P w K mg base (ent fa fd) ⟨"is_formula", st19, N19, P19, fa 19, fd 19⟩ d_is_formula := fun G cdv A outer s H E cl => by
  have tk : Takes (Ctx P w K mg base ⟨"is_formula", st19, N19, P19, fa 19, fd 19⟩ cdv A outer s H E) (WB E) := takes_of rfl rfl rfl rfl
  have ps := passes_of (X := Ctx P w K mg base ⟨"is_formula", st19, N19, P19, fa 19, fd 19⟩ cdv A outer s H E) rfl
  have hu := cl.room.units
  have hC : (⟨K, cA⟩ : Cfg).K = K := rfl
  have sc := sc19
  show PSs _ _ (tS _ _ (b_is_formula G))
  delta b_is_formula
  exact (ms_cons (m_if (PW.pt (mw_or (mt_not (mt_val (m_isi (c := "tuple") hC (m_var (i := 0)) T.n_isinstance T.n_tuple) hC)) (mw_or (mt_cmp (op_eqM hu) sim_eq (m_var (i := 0)) (m_tup (ma_nil))) (mw_or1 (mt_not (mt_val (m_isi (c := "str") hC (m_ix hC (m_var (i := 0)) (m_int)) T.n_isinstance T.n_str) hC)))))) (
ms_one (m_ret (m_bl))) (
ms_nil)) (
ms_cons (m_if (mt_cmp op_inM sim_in (m_ix hC (m_var (i := 0)) (m_int)) (m_globE T.c_JOINED)) (
ms_cons (m_if (PW.pt (mw_or (mt_not (mt_val (m_call (cl.call 5 _ rfl) T.g_is_tuple tk (ma_cons (m_var (i := 0)) (ma_cons (m_int) ma_nil))) hC)) (mw_or1 (mt_not (mt_val (m_isi (c := "tuple") hC (m_ix hC (m_var (i := 0)) (m_int)) T.n_isinstance T.n_tuple) hC))))) (
ms_one (m_ret (m_bl))) (
ms_nil)) (
ms_one (m_ret (m_gc (m_bif (cr_all rfl) sim_allG T.n_all (ma_cons (m_lc (own := [("part", 2)]) rfl sc.nd (mi_any hC (m_ix hC (m_var (i := 0)) (m_int))) (blkOk_by (by kernel_rfl)) (fun _ _ _ _ _ => mg_name (i := 2) sc.nd) (fun _ _ _ _ _ => mts_nil) (fun _ _ _ _ _ => m_call (cl.call 19 _ rfl) T.g_is_formula takes0 (ma_cons (m_var (i := 2)) (ma_cons (m_var (i := 1)) ma_nil)))) ma_nil)))))) (
ms_nil)) (
ms_cons (m_if (mt_cmp op_inM sim_in (m_ix hC (m_var (i := 0)) (m_int)) (m_globE T.c_TURNS)) (
ms_cons (m_if (PW.pt (mw_or (mt_not (mt_val (m_call (cl.call 5 _ rfl) T.g_is_tuple tk (ma_cons (m_var (i := 0)) (ma_cons (m_int) ma_nil))) hC)) (mw_or (mt_not (mt_val (m_call (cl.call 6 _ rfl) T.g_is_name tk (ma_cons (m_ix hC (m_var (i := 0)) (m_int)) ma_nil)) hC)) (mw_or1 (mt_inA hu hC (m_ix hC (m_var (i := 0)) (m_int)) (m_var (i := 1))))))) (
ms_one (m_ret (m_bl))) (
ms_nil)) (
ms_one (m_ret (m_call (cl.call 19 _ rfl) T.g_is_formula tk (ma_cons (m_ix hC (m_var (i := 0)) (m_int)) (ma_cons (m_op op_addM sim_add (m_var (i := 1)) (m_tup (ma_cons (m_ix hC (m_var (i := 0)) (m_int)) ma_nil))) ma_nil)))))) (
ms_nil)) (
ms_one (m_ret (m_call (cl.call 18 _ rfl) T.g_is_atom tk (ma_cons (m_var (i := 0)) (ma_cons (m_var (i := 1)) ma_nil))))))))
theorem bd20 (T : Txt w cA K mg fa) : BodyOk ⟨K, cA⟩ P w K mg base (ent fa fd) ⟨"_law_start", st20, N20, P20, fa 20, fd 20⟩ d__law_start := fun G cdv A outer s H E cl => by
  have tk : Takes (Ctx P w K mg base ⟨"_law_start", st20, N20, P20, fa 20, fd 20⟩ cdv A outer s H E) (WB E) := takes_of rfl rfl rfl rfl
  have ps := passes_of (X := Ctx P w K mg base ⟨"_law_start", st20, N20, P20, fa 20, fd 20⟩ cdv A outer s H E) rfl
  have hu := cl.room.units
  have hC : (⟨K, cA⟩ : Cfg).K = K := rfl
  have sc := sc20
  show PSs _ _ (tS _ _ (b__law_start G))
  delta b__law_start
  exact (ms_one (m_ret (m_lst (ma_cons (m_bty (call_listM rfl) sim_listA T.n_list (ma_cons (m_var (i := 0)) ma_nil)) (ma_cons (m_int) (ma_cons (m_int) (ma_cons (m_int) ma_nil)))))))
theorem bd21 (T : Txt w cA K mg fa) : BodyOk ⟨K, cA⟩ P w K mg base (ent fa fd) ⟨"_law_draw", st21, N21, P21, fa 21, fd 21⟩ d__law_draw := fun G cdv A outer s H E cl => by
  have tk : Takes (Ctx P w K mg base ⟨"_law_draw", st21, N21, P21, fa 21, fd 21⟩ cdv A outer s H E) (WB E) := takes_of rfl rfl rfl rfl
  have ps := passes_of (X := Ctx P w K mg base ⟨"_law_draw", st21, N21, P21, fa 21, fd 21⟩ cdv A outer s H E) rfl
  have hu := cl.room.units
  have hC : (⟨K, cA⟩ : Cfg).K = K := rfl
  have sc := sc21
  show PSs _ _ (tS _ _ (b__law_draw G))
  delta b__law_draw
  exact (ms_cons (m_asg (vs := []) (m_op op_addM sim_add (m_ix hC (m_var (i := 0)) (m_int)) (m_int)) (mg_ixL (m_var (i := 0)) (m_int))) (
ms_cons (m_if (mt_cmp op_gtM sim_gt (m_ix hC (m_var (i := 0)) (m_int)) (m_int)) (
ms_cons (m_set (i := 2) sc.nd (m_op op_mod sim_mod (m_bty call_intOf sim_intOf T.n_int (ma_cons (m_ix hC (m_var (i := 0)) (m_int)) ma_nil)) (m_var (i := 1)))) (
ms_cons (m_asg (vs := []) (m_op op_fdivW sim_div (m_ix hC (m_var (i := 0)) (m_int)) (m_var (i := 1))) (mg_ixL (m_var (i := 0)) (m_int))) (
ms_one (m_ret (m_var (i := 2)))))) (
ms_nil)) (
ms_cons (m_set (i := 3) sc.nd (m_int)) (
ms_cons (m_if (mt_cmp op_gtM sim_gt (m_bif call_len sim_len T.n_len (ma_cons (m_ix hC (m_var (i := 0)) (m_int)) ma_nil)) (m_int)) (
ms_one (m_set (i := 3) sc.nd (m_bif call_abs sim_abs T.n_abs (ma_cons (m_ixA hu hC (m_ix hC (m_var (i := 0)) (m_int)) (m_op op_mod sim_mod (m_bty call_intOf sim_intOf T.n_int (ma_cons (m_ix hC (m_var (i := 0)) (m_int)) ma_nil)) (m_bif call_len sim_len T.n_len (ma_cons (m_ix hC (m_var (i := 0)) (m_int)) ma_nil)))) ma_nil)))) (
ms_nil)) (
ms_cons (m_asg (vs := []) (m_op op_addM sim_add (m_ix hC (m_var (i := 0)) (m_int)) (m_int)) (mg_ixL (m_var (i := 0)) (m_int))) (
ms_cons (m_if (mt_cmp op_geM sim_ge (m_var (i := 3)) (m_op op_pow sim_pow (m_int) (m_int))) (
ms_cons (m_asg (vs := []) (m_op op_fdivW sim_div (m_var (i := 3)) (m_var (i := 1))) (mg_ixL (m_var (i := 0)) (m_int))) (
ms_one (m_ret (m_op op_mod sim_mod (m_bty call_intOf sim_intOf T.n_int (ma_cons (m_var (i := 3)) ma_nil)) (m_var (i := 1)))))) (
ms_nil)) (
ms_cons (m_set (i := 4) sc.nd (m_op op_mod sim_mod (m_bty call_intOf sim_intOf T.n_int (ma_cons (m_op op_addM sim_add (m_op op_mulM sim_mul (m_op op_addM sim_add (m_var (i := 3)) (m_int)) (m_int)) (m_op op_mulM sim_mul (m_ix hC (m_var (i := 0)) (m_int)) (m_int))) ma_nil)) (m_int))) (
ms_cons (m_set (i := 4) sc.nd (m_op op_mod sim_mod (m_bty call_intOf sim_intOf T.n_int (ma_cons (m_op op_addM sim_add (m_op op_addM sim_add (m_op op_mulM sim_mul (m_var (i := 4)) (m_int)) (m_op op_fdivW sim_div (m_var (i := 3)) (m_int))) (m_ix hC (m_var (i := 0)) (m_int))) ma_nil)) (m_int))) (
ms_one (m_ret (m_op op_mod sim_mod (m_op op_fdivW sim_div (m_var (i := 4)) (m_int)) (m_var (i := 1)))))))))))))
theorem bd22 (T : Txt w cA K mg fa) : BodyOk ⟨K, cA⟩ P w K mg base (ent fa fd) ⟨"_law_words", st22, N22, P22, fa 22, fd 22⟩ d__law_words := fun G cdv A outer s H E cl => by
  have tk : Takes (Ctx P w K mg base ⟨"_law_words", st22, N22, P22, fa 22, fd 22⟩ cdv A outer s H E) (WB E) := takes_of rfl rfl rfl rfl
  have ps := passes_of (X := Ctx P w K mg base ⟨"_law_words", st22, N22, P22, fa 22, fd 22⟩ cdv A outer s H E) rfl
  have hu := cl.room.units
  have hC : (⟨K, cA⟩ : Cfg).K = K := rfl
  have sc := sc22
  show PSs _ _ (tS _ _ (b__law_words G))
  delta b__law_words
  exact (ms_cons (m_set (i := 2) sc.nd (m_str)) (
ms_cons (m_set (i := 3) sc.nd (m_call (cl.call 21 _ rfl) T.g__law_draw tk (ma_cons (m_var (i := 0)) (ma_cons (m_int) ma_nil)))) (
ms_cons (m_set (i := 4) sc.nd (m_op op_addM sim_add (m_int) (m_op op_mulM sim_mul (m_int) (m_call (cl.call 21 _ rfl) T.g__law_draw tk (ma_cons (m_var (i := 0)) (ma_cons (m_int) ma_nil)))))) (
ms_cons (m_set (i := 5) sc.nd (m_slice hC (m_str) (mo_none) (mo_some (m_call (cl.call 21 _ rfl) T.g__law_draw tk (ma_cons (m_var (i := 0)) (ma_cons (m_int) ma_nil)))))) (
ms_cons (m_if (mt_cmp (op_eqM hu) sim_eq (m_call (cl.call 21 _ rfl) T.g__law_draw tk (ma_cons (m_var (i := 0)) (ma_cons (m_int) ma_nil))) (m_int)) (
ms_one (m_ret (m_lc (own := [("k", 6)]) rfl sc.nd (mi_range1 T.n_range (ma_cons (m_var (i := 1)) ma_nil)) (blkOk_by (by kernel_rfl)) (fun _ _ _ _ _ => mg_name (i := 6) sc.nd) (fun _ _ _ _ _ => mts_nil) (fun _ _ _ _ _ => m_op op_addM sim_add (m_var (i := 5)) (m_ixA hu hC (m_var (i := 2)) (m_op op_mod sim_mod (m_bty call_intOf sim_intOf T.n_int (ma_cons (m_op op_addM sim_add (m_var (i := 3)) (m_op op_mulM sim_mul (m_var (i := 6)) (m_var (i := 4)))) ma_nil)) (m_int))))))) (
ms_nil)) (
ms_one (m_ret (m_lc (own := [("k", 6)]) rfl sc.nd (mi_range1 T.n_range (ma_cons (m_var (i := 1)) ma_nil)) (blkOk_by (by kernel_rfl)) (fun _ _ _ _ _ => mg_name (i := 6) sc.nd) (fun _ _ _ _ _ => mts_nil) (fun _ _ _ _ _ => m_op op_addM sim_add (m_ixA hu hC (m_var (i := 2)) (m_op op_mod sim_mod (m_bty call_intOf sim_intOf T.n_int (ma_cons (m_op op_addM sim_add (m_var (i := 3)) (m_op op_mulM sim_mul (m_var (i := 6)) (m_var (i := 4)))) ma_nil)) (m_int))) (m_var (i := 5)))))))))))
theorem bd23 (T : Txt w cA K mg fa) : BodyOk ⟨K, cA⟩ P w K mg base (ent fa fd) ⟨"_law_var", st23, N23, P23, fa 23, fd 23⟩ d__law_var := fun G cdv A outer s H E cl => by
  have tk : Takes (Ctx P w K mg base ⟨"_law_var", st23, N23, P23, fa 23, fd 23⟩ cdv A outer s H E) (WB E) := takes_of rfl rfl rfl rfl
  have ps := passes_of (X := Ctx P w K mg base ⟨"_law_var", st23, N23, P23, fa 23, fd 23⟩ cdv A outer s H E) rfl
  have hu := cl.room.units
  have hC : (⟨K, cA⟩ : Cfg).K = K := rfl
  have sc := sc23
  show PSs _ _ (tS _ _ (b__law_var G))
  delta b__law_var
  exact (ms_one (m_ret (m_tup (ma_cons (m_int) (ma_cons (m_tup (ma_cons (m_tup (ma_cons (m_var (i := 0)) (ma_cons (m_int) ma_nil))) ma_nil)) ma_nil)))))
theorem bd24 (T : Txt w cA K mg fa) : BodyOk ⟨K, cA⟩ P w K mg base (ent fa fd) ⟨"_law_form", st24, N24, P24, fa 24, fd 24⟩ d__law_form := fun G cdv A outer s H E cl => by
  have tk : Takes (Ctx P w K mg base ⟨"_law_form", st24, N24, P24, fa 24, fd 24⟩ cdv A outer s H E) (WB E) := takes_of rfl rfl rfl rfl
  have ps := passes_of (X := Ctx P w K mg base ⟨"_law_form", st24, N24, P24, fa 24, fd 24⟩ cdv A outer s H E) rfl
  have hu := cl.room.units
  have hC : (⟨K, cA⟩ : Cfg).K = K := rfl
  have sc := sc24
  show PSs _ _ (tS _ _ (b__law_form G))
  delta b__law_form
  exact (ms_cons (m_set (i := 2) sc.nd (m_dic0)) (
ms_cons (m_for (vs := [3, 4]) ps rfl (mi_any hC (m_var (i := 1))) (mg_tup rfl hC (mgs_cons (mg_name (i := 3) sc.nd) (mgs_cons (mg_name (i := 4) sc.nd) (mgs_nil)))) (
ms_one (m_putD hu (m_var (i := 2)) (m_var (i := 3)) (m_op op_addM sim_add (m_get2 hu (m_var (i := 2)) (m_var (i := 3)) (m_int)) (m_var (i := 4)))))) (
ms_one (m_ret (m_tup (ma_cons (m_var (i := 0)) (ma_cons (m_gc (m_bty call_tuple_of sim_tuple T.n_tuple (ma_cons (m_lc (own := [("name", 3)]) rfl sc.nd (mi_any hC (m_bif (call_sortM rfl) sim_sorted T.n_sorted (ma_cons (m_var (i := 2)) ma_nil))) (blkOk_by (by kernel_rfl)) (fun _ _ _ _ _ => mg_name (i := 3) sc.nd) (fun _ _ _ _ _ => mts_one (mt_cmp (op_neM hu) sim_ne (m_ixA hu hC (m_var (i := 2)) (m_var (i := 3))) (m_int))) (fun _ _ _ _ _ => m_tup (ma_cons (m_var (i := 3)) (ma_cons (m_ixA hu hC (m_var (i := 2)) (m_var (i := 3))) ma_nil)))) ma_nil))) ma_nil)))))))
theorem bd25 (T : Txt w cA K mg fa) : BodyOk ⟨K, cA⟩ P w K mg base (ent fa fd) ⟨"_law_sum", st25, N25, P25, fa 25, fd 25⟩ d__law_sum := fun G cdv A outer s H E cl => by
  have tk : Takes (Ctx P w K mg base ⟨"_law_sum", st25, N25, P25, fa 25, fd 25⟩ cdv A outer s H E) (WB E) := takes_of rfl rfl rfl rfl
  have ps := passes_of (X := Ctx P w K mg base ⟨"_law_sum", st25, N25, P25, fa 25, fd 25⟩ cdv A outer s H E) rfl
  have hu := cl.room.units
  have hC : (⟨K, cA⟩ : Cfg).K = K := rfl
  have sc := sc25
  show PSs _ _ (tS _ _ (b__law_sum G))
  delta b__law_sum
  exact (ms_cons (m_set (i := 1) sc.nd (m_int)) (
ms_cons (m_set (i := 2) sc.nd (m_lst (ma_nil))) (
ms_cons (m_for (vs := [3, 4]) ps rfl (mi_any hC (m_var (i := 0))) (mg_tup rfl hC (mgs_cons (mg_name (i := 3) sc.nd) (mgs_cons (mg_name (i := 4) sc.nd) (mgs_nil)))) (
ms_cons (m_set (i := 1) sc.nd (m_op op_addM sim_add (m_var (i := 1)) (m_op op_mulM sim_mul (m_var (i := 3)) (m_ix hC (m_var (i := 4)) (m_int))))) (
ms_one (m_for (vs := [5, 6]) ps rfl (mi_any hC (m_ix hC (m_var (i := 4)) (m_int))) (mg_tup rfl hC (mgs_cons (mg_name (i := 5) sc.nd) (mgs_cons (mg_name (i := 6) sc.nd) (mgs_nil)))) (
ms_one (m_ex (m_met (ty := .list) hC PySem.F.plainAttrs_list PySem.F.slot_list_append PySem.F.type_list_append mt_append sim_append (m_var (i := 2)) (ma_cons (m_tup (ma_cons (m_var (i := 5)) (ma_cons (m_op op_mulM sim_mul (m_var (i := 3)) (m_var (i := 6))) ma_nil))) ma_nil)))))))) (
ms_one (m_ret (m_call (cl.call 24 _ rfl) T.g__law_form tk (ma_cons (m_var (i := 1)) (ma_cons (m_var (i := 2)) ma_nil))))))))
theorem bd26 (T : Txt w cA K mg fa) : BodyOk ⟨K, cA⟩ P w K mg base (ent fa fd) ⟨"_law_below", st26, N26, P26, fa 26, fd 26⟩ d__law_below := fun G cdv A outer s H E cl => by
  have tk : Takes (Ctx P w K mg base ⟨"_law_below", st26, N26, P26, fa 26, fd 26⟩ cdv A outer s H E) (WB E) := takes_of rfl rfl rfl rfl
  have ps := passes_of (X := Ctx P w K mg base ⟨"_law_below", st26, N26, P26, fa 26, fd 26⟩ cdv A outer s H E) rfl
  have hu := cl.room.units
  have hC : (⟨K, cA⟩ : Cfg).K = K := rfl
  have sc := sc26
  show PSs _ _ (tS _ _ (b__law_below G))
  delta b__law_below
  exact (ms_one (m_ret (m_call (cl.call 25 _ rfl) T.g__law_sum tk (ma_cons (m_lst (ma_cons (m_tup (ma_cons (m_un un_neg sim_neg (m_int)) (ma_cons (m_var (i := 0)) ma_nil))) (ma_cons (m_tup (ma_cons (m_un un_neg sim_neg (m_int)) (ma_cons (m_tup (ma_cons (m_int) (ma_cons (m_tup (ma_nil)) ma_nil))) ma_nil))) ma_nil))) ma_nil))))
theorem bd27 (T : Txt w cA K mg fa) : BodyOk ⟨K, cA⟩ P w K mg base (ent fa fd) ⟨"_law_more", st27, N27, P27, fa 27, fd 27⟩ d__law_more := fun G cdv A outer s H E cl => by
  have tk : Takes (Ctx P w K mg base ⟨"_law_more", st27, N27, P27, fa 27, fd 27⟩ cdv A outer s H E) (WB E) := takes_of rfl rfl rfl rfl
  have ps := passes_of (X := Ctx P w K mg base ⟨"_law_more", st27, N27, P27, fa 27, fd 27⟩ cdv A outer s H E) rfl
  have hu := cl.room.units
  have hC : (⟨K, cA⟩ : Cfg).K = K := rfl
  have sc := sc27
  show PSs _ _ (tS _ _ (b__law_more G))
  delta b__law_more
  exact (ms_one (m_ret (m_tup (ma_cons (m_op op_addM sim_add (m_ix hC (m_var (i := 0)) (m_int)) (m_var (i := 1))) (ma_cons (m_ix hC (m_var (i := 0)) (m_int)) ma_nil)))))
theorem bd28 (T : Txt w cA K mg fa) : BodyOk ⟨K, cA⟩ P w K mg base (ent fa fd) ⟨"_law_joined", st28, N28, P28, fa 28, fd 28⟩ d__law_joined := fun G cdv A outer s H E cl => by
  have tk : Takes (Ctx P w K mg base ⟨"_law_joined", st28, N28, P28, fa 28, fd 28⟩ cdv A outer s H E) (WB E) := takes_of rfl rfl rfl rfl
  have ps := passes_of (X := Ctx P w K mg base ⟨"_law_joined", st28, N28, P28, fa 28, fd 28⟩ cdv A outer s H E) rfl
  have hu := cl.room.units
  have hC : (⟨K, cA⟩ : Cfg).K = K := rfl
  have sc := sc28
  show PSs _ _ (tS _ _ (b__law_joined G))
  delta b__law_joined
  exact (ms_cons (m_set (i := 2) sc.nd (m_tup (ma_nil))) (
ms_cons (m_for (vs := [3]) ps rfl (mi_any hC (m_var (i := 1))) (mg_name (i := 3) sc.nd) (
ms_one (m_if (mt_cmp (op_eqM hu) sim_eq (m_ix hC (m_var (i := 3)) (m_int)) (m_var (i := 0))) (
ms_one (m_set (i := 2) sc.nd (m_op op_addM sim_add (m_var (i := 2)) (m_ix hC (m_var (i := 3)) (m_int))))) (
ms_one (m_set (i := 2) sc.nd (m_op op_addM sim_add (m_var (i := 2)) (m_tup (ma_cons (m_var (i := 3)) ma_nil)))))))) (
ms_one (m_ret (m_tup (ma_cons (m_var (i := 0)) (ma_cons (m_var (i := 2)) ma_nil)))))))
theorem bd29 (T : Txt w cA K mg fa) : BodyOk ⟨K, cA⟩ P w K mg base (ent fa fd) ⟨"_law_opposite", st29, N29, P29, fa 29, fd 29⟩ d__law_opposite := fun G cdv A outer s H E cl => by
  have tk : Takes (Ctx P w K mg base ⟨"_law_opposite", st29, N29, P29, fa 29, fd 29⟩ cdv A outer s H E) (WB E) := takes_of rfl rfl rfl rfl
  have ps := passes_of (X := Ctx P w K mg base ⟨"_law_opposite", st29, N29, P29, fa 29, fd 29⟩ cdv A outer s H E) rfl
  have hu := cl.room.units
  have hC : (⟨K, cA⟩ : Cfg).K = K := rfl
  have sc := sc29
  show PSs _ _ (tS _ _ (b__law_opposite G))
  delta b__law_opposite
  exact (ms_cons (m_set (i := 1) sc.nd (m_ix hC (m_var (i := 0)) (m_int))) (
ms_cons (m_if (mt_cmp (op_eqM hu) sim_eq (m_var (i := 1)) (m_str)) (
ms_one (m_ret (m_tup (ma_cons (m_str) (ma_cons (m_call (cl.call 26 _ rfl) T.g__law_below tk (ma_cons (m_ix hC (m_var (i := 0)) (m_int)) ma_nil)) ma_nil))))) (
ms_nil)) (
ms_cons (m_if (mt_cmp (op_eqM hu) sim_eq (m_var (i := 1)) (m_str)) (
ms_one (m_ret (m_tup (ma_cons (m_str) (ma_cons (m_tup (ma_cons (m_tup (ma_cons (m_str) (ma_cons (m_call (cl.call 27 _ rfl) T.g__law_more tk (ma_cons (m_ix hC (m_var (i := 0)) (m_int)) (ma_cons (m_un un_neg sim_neg (m_int)) ma_nil))) ma_nil))) (ma_cons (m_tup (ma_cons (m_str) (ma_cons (m_call (cl.call 26 _ rfl) T.g__law_below tk (ma_cons (m_ix hC (m_var (i := 0)) (m_int)) ma_nil)) ma_nil))) ma_nil))) ma_nil))))) (
ms_nil)) (
ms_cons (m_if (mt_cmp op_inM sim_in (m_var (i := 1)) (m_lst (ma_cons (m_str) (ma_cons (m_str) ma_nil)))) (
ms_one (m_ret (m_op op_addM sim_add (m_tup (ma_cons (m_ixA hu hC (m_lst (ma_cons (m_str) (ma_cons (m_str) ma_nil))) (m_bty call_intOf sim_intOf T.n_int (ma_cons (m_cmp (op_eqM hu) sim_eq (m_var (i := 1)) (m_str)) ma_nil))) ma_nil)) (m_slice hC (m_var (i := 0)) (mo_some (m_int)) (mo_none))))) (
ms_nil)) (
ms_cons (m_if (mt_cmp op_inM sim_in (m_var (i := 1)) (m_lst (ma_cons (m_str) (ma_cons (m_str) ma_nil)))) (
ms_one (m_ret (m_tup (ma_cons (m_ixA hu hC (m_lst (ma_cons (m_str) (ma_cons (m_str) ma_nil))) (m_bty call_intOf sim_intOf T.n_int (ma_cons (m_cmp (op_eqM hu) sim_eq (m_var (i := 1)) (m_str)) ma_nil))) (ma_cons (m_ix hC (m_var (i := 0)) (m_int)) (ma_cons (m_call (cl.call 29 _ rfl) T.g__law_opposite tk (ma_cons (m_ix hC (m_var (i := 0)) (m_int)) ma_nil)) ma_nil)))))) (
ms_nil)) (
ms_one (m_ret (m_call (cl.call 28 _ rfl) T.g__law_joined tk (ma_cons (m_ixA hu hC (m_lst (ma_cons (m_str) (ma_cons (m_str) ma_nil))) (m_bty call_intOf sim_intOf T.n_int (ma_cons (m_cmp (op_eqM hu) sim_eq (m_var (i := 1)) (m_str)) ma_nil))) (ma_cons (m_lc (own := [("part", 2)]) rfl sc.nd (mi_any hC (m_ix hC (m_var (i := 0)) (m_int))) (blkOk_by (by kernel_rfl)) (fun _ _ _ _ _ => mg_name (i := 2) sc.nd) (fun _ _ _ _ _ => mts_nil) (fun _ _ _ _ _ => m_call (cl.call 29 _ rfl) T.g__law_opposite takes0 (ma_cons (m_var (i := 2)) ma_nil))) ma_nil))))))))))
theorem bd30 (T : Txt w cA K mg fa) : BodyOk ⟨K, cA⟩ P w K mg base (ent fa fd) ⟨"_law_sum_form", st30, N30, P30, fa 30, fd 30⟩ d__law_sum_form := fun G cdv A outer s H E cl => by
  have tk : Takes (Ctx P w K mg base ⟨"_law_sum_form", st30, N30, P30, fa 30, fd 30⟩ cdv A outer s H E) (WB E) := takes_of rfl rfl rfl rfl
  have ps := passes_of (X := Ctx P w K mg base ⟨"_law_sum_form", st30, N30, P30, fa 30, fd 30⟩ cdv A outer s H E) rfl
  have hu := cl.room.units
  have hC : (⟨K, cA⟩ : Cfg).K = K := rfl
  have sc := sc30
  show PSs _ _ (tS _ _ (b__law_sum_form G))
  delta b__law_sum_form
  exact (ms_cons (m_if (mt_cmp (op_eqM hu) sim_eq (m_ix hC (m_var (i := 0)) (m_int)) (m_str)) (
ms_one (m_ret (m_tup (ma_cons (m_ix hC (m_var (i := 0)) (m_int)) (ma_cons (m_tup (ma_nil)) ma_nil))))) (
ms_nil)) (
ms_cons (m_if (mt_cmp (op_eqM hu) sim_eq (m_ix hC (m_var (i := 0)) (m_int)) (m_str)) (
ms_one (m_ret (m_ixA hu hC (m_var (i := 1)) (m_ix hC (m_var (i := 0)) (m_int))))) (
ms_nil)) (
ms_cons (m_if (mt_cmp (op_eqM hu) sim_eq (m_ix hC (m_var (i := 0)) (m_int)) (m_str)) (
ms_one (m_ret (m_call (cl.call 25 _ rfl) T.g__law_sum tk (ma_cons (m_lst (ma_cons (m_tup (ma_cons (m_ix hC (m_var (i := 0)) (m_int)) (ma_cons (m_call (cl.call 30 _ rfl) T.g__law_sum_form tk (ma_cons (m_ix hC (m_var (i := 0)) (m_int)) (ma_cons (m_var (i := 1)) ma_nil))) ma_nil))) ma_nil)) ma_nil)))) (
ms_nil)) (
ms_cons (m_if (mt_cmp (op_eqM hu) sim_eq (m_ix hC (m_var (i := 0)) (m_int)) (m_str)) (
ms_one (m_ret (m_call (cl.call 25 _ rfl) T.g__law_sum tk (ma_cons (m_lst (ma_cons (m_tup (ma_cons (m_un un_neg sim_neg (m_int)) (ma_cons (m_call (cl.call 30 _ rfl) T.g__law_sum_form tk (ma_cons (m_ix hC (m_var (i := 0)) (m_int)) (ma_cons (m_var (i := 1)) ma_nil))) ma_nil))) ma_nil)) ma_nil)))) (
ms_nil)) (
ms_cons (m_set (i := 2) sc.nd (m_op op_sub sim_int2 (m_int) (m_op op_mulM sim_mul (m_int) (m_bty call_intOf sim_intOf T.n_int (ma_cons (m_cmp (op_eqM hu) sim_eq (m_ix hC (m_var (i := 0)) (m_int)) (m_str)) ma_nil))))) (
ms_one (m_ret (m_call (cl.call 25 _ rfl) T.g__law_sum tk (ma_cons (m_lst (ma_cons (m_tup (ma_cons (m_int) (ma_cons (m_call (cl.call 30 _ rfl) T.g__law_sum_form tk (ma_cons (m_ix hC (m_var (i := 0)) (m_int)) (ma_cons (m_var (i := 1)) ma_nil))) ma_nil))) (ma_cons (m_tup (ma_cons (m_var (i := 2)) (ma_cons (m_call (cl.call 30 _ rfl) T.g__law_sum_form tk (ma_cons (m_ix hC (m_var (i := 0)) (m_int)) (ma_cons (m_var (i := 1)) ma_nil))) ma_nil))) ma_nil))) ma_nil)))))))))
theorem bd31 (T : Txt w cA K mg fa) : BodyOk ⟨K, cA⟩ P w K mg base (ent fa fd) ⟨"_law_atom_core", st31, N31, P31, fa 31, fd 31⟩ d__law_atom_core := fun G cdv A outer s H E cl => by
  have tk : Takes (Ctx P w K mg base ⟨"_law_atom_core", st31, N31, P31, fa 31, fd 31⟩ cdv A outer s H E) (WB E) := takes_of rfl rfl rfl rfl
  have ps := passes_of (X := Ctx P w K mg base ⟨"_law_atom_core", st31, N31, P31, fa 31, fd 31⟩ cdv A outer s H E) rfl
  have hu := cl.room.units
  have hC : (⟨K, cA⟩ : Cfg).K = K := rfl
  have sc := sc31
  show PSs _ _ (tS _ _ (b__law_atom_core G))
  delta b__law_atom_core
  exact (ms_cons (m_set (i := 2) sc.nd (m_call (cl.call 30 _ rfl) T.g__law_sum_form tk (ma_cons (m_ix hC (m_var (i := 0)) (m_int)) (ma_cons (m_var (i := 1)) ma_nil)))) (
ms_cons (m_if (mt_cmp (op_eqM hu) sim_eq (m_ix hC (m_var (i := 0)) (m_int)) (m_str)) (
ms_one (m_ret (m_tup (ma_cons (m_ixA hu hC (m_lst (ma_cons (m_str) (ma_cons (m_str) ma_nil))) (m_bty call_intOf sim_intOf T.n_int (ma_cons (m_cmp (op_eqM hu) sim_eq (m_ix hC (m_var (i := 0)) (m_int)) (m_str)) ma_nil))) (ma_cons (m_ix hC (m_var (i := 0)) (m_int)) (ma_cons (m_call (cl.call 27 _ rfl) T.g__law_more tk (ma_cons (m_var (i := 2)) (ma_cons (m_un un_neg sim_neg (m_ix hC (m_var (i := 0)) (m_int))) ma_nil))) ma_nil)))))) (
ms_nil)) (
ms_cons (m_set (i := 3) sc.nd (m_call (cl.call 30 _ rfl) T.g__law_sum_form tk (ma_cons (m_ix hC (m_var (i := 0)) (m_int)) (ma_cons (m_var (i := 1)) ma_nil)))) (
ms_cons (m_set (i := 4) sc.nd (m_call (cl.call 25 _ rfl) T.g__law_sum tk (ma_cons (m_lst (ma_cons (m_tup (ma_cons (m_int) (ma_cons (m_var (i := 3)) ma_nil))) (ma_cons (m_tup (ma_cons (m_un un_neg sim_neg (m_int)) (ma_cons (m_var (i := 2)) ma_nil))) ma_nil))) ma_nil))) (
ms_cons (m_set (i := 5) sc.nd (m_call (cl.call 25 _ rfl) T.g__law_sum tk (ma_cons (m_lst (ma_cons (m_tup (ma_cons (m_int) (ma_cons (m_var (i := 2)) ma_nil))) (ma_cons (m_tup (ma_cons (m_un un_neg sim_neg (m_int)) (ma_cons (m_var (i := 3)) ma_nil))) ma_nil))) ma_nil))) (
ms_cons (m_if (mt_cmp op_inM sim_in (m_ix hC (m_var (i := 0)) (m_int)) (m_lst (ma_cons (m_str) (ma_cons (m_str) ma_nil)))) (
ms_one (m_ret (m_tup (ma_cons (m_str) (ma_cons (m_call (cl.call 27 _ rfl) T.g__law_more tk (ma_cons (m_var (i := 4)) (ma_cons (m_un un_neg sim_neg (m_bty call_intOf sim_intOf T.n_int (ma_cons (m_cmp (op_eqM hu) sim_eq (m_ix hC (m_var (i := 0)) (m_int)) (m_str)) ma_nil))) ma_nil))) ma_nil))))) (
ms_nil)) (
ms_cons (m_if (mt_cmp op_inM sim_in (m_ix hC (m_var (i := 0)) (m_int)) (m_lst (ma_cons (m_str) (ma_cons (m_str) ma_nil)))) (
ms_one (m_ret (m_tup (ma_cons (m_str) (ma_cons (m_call (cl.call 27 _ rfl) T.g__law_more tk (ma_cons (m_var (i := 5)) (ma_cons (m_un un_neg sim_neg (m_bty call_intOf sim_intOf T.n_int (ma_cons (m_cmp (op_eqM hu) sim_eq (m_ix hC (m_var (i := 0)) (m_int)) (m_str)) ma_nil))) ma_nil))) ma_nil))))) (
ms_nil)) (
ms_cons (m_if (mt_cmp (op_eqM hu) sim_eq (m_ix hC (m_var (i := 0)) (m_int)) (m_str)) (
ms_one (m_ret (m_tup (ma_cons (m_str) (ma_cons (m_var (i := 5)) ma_nil))))) (
ms_nil)) (
ms_one (m_ret (m_call (cl.call 29 _ rfl) T.g__law_opposite tk (ma_cons (m_tup (ma_cons (m_str) (ma_cons (m_var (i := 5)) ma_nil))) ma_nil))))))))))))
theorem bd32 (T : Txt w cA K mg fa) : BodyOk ⟨K, cA⟩ P w K mg base (ent fa fd) ⟨"_law_core", st32, N32, P32, fa 32, fd 32⟩ d__law_core := fun G cdv A outer s H E cl => by
  have tk : Takes (Ctx P w K mg base ⟨"_law_core", st32, N32, P32, fa 32, fd 32⟩ cdv A outer s H E) (WB E) := takes_of rfl rfl rfl rfl
  have ps := passes_of (X := Ctx P w K mg base ⟨"_law_core", st32, N32, P32, fa 32, fd 32⟩ cdv A outer s H E) rfl
  have hu := cl.room.units
  have hC : (⟨K, cA⟩ : Cfg).K = K := rfl
  have sc := sc32
  show PSs _ _ (tS _ _ (b__law_core G))
  delta b__law_core
  exact (ms_cons (m_set (i := 4) sc.nd (m_ix hC (m_var (i := 1)) (m_int))) (
ms_cons (m_if (mt_cmp op_inM sim_in (m_var (i := 4)) (m_lst (ma_cons (m_str) (ma_cons (m_str) ma_nil)))) (
ms_cons (m_asg (vs := []) (m_op op_addM sim_add (m_ix hC (m_var (i := 3)) (m_int)) (m_int)) (mg_ixL (m_var (i := 3)) (m_int))) (
ms_cons (m_set (i := 5) sc.nd (m_op op_addM sim_add (m_str) (m_bty call_str_int sim_str T.n_str (ma_cons (m_ix hC (m_var (i := 3)) (m_int)) ma_nil)))) (
ms_cons (m_set (i := 6) sc.nd (m_bty call_dictM sim_dict T.n_dict (ma_cons (m_var (i := 2)) ma_nil))) (
ms_cons (m_putD hu (m_var (i := 6)) (m_ix hC (m_var (i := 1)) (m_int)) (m_call (cl.call 23 _ rfl) T.g__law_var tk (ma_cons (m_var (i := 5)) ma_nil))) (
ms_one (m_ret (m_tup (ma_cons (m_var (i := 4)) (ma_cons (m_var (i := 5)) (ma_cons (m_call (cl.call 32 _ rfl) T.g__law_core tk (ma_cons (m_var (i := 0)) (ma_cons (m_ix hC (m_var (i := 1)) (m_int)) (ma_cons (m_var (i := 6)) (ma_cons (m_var (i := 3)) ma_nil))))) ma_nil)))))))))) (
ms_nil)) (
ms_cons (m_if (mt_cmp (op_eqM hu) sim_eq (m_var (i := 4)) (m_str)) (
ms_one (m_ret (m_call (cl.call 29 _ rfl) T.g__law_opposite tk (ma_cons (m_call (cl.call 32 _ rfl) T.g__law_core tk (ma_cons (m_var (i := 0)) (ma_cons (m_ix hC (m_var (i := 1)) (m_int)) (ma_cons (m_var (i := 2)) (ma_cons (m_var (i := 3)) ma_nil))))) ma_nil)))) (
ms_nil)) (
ms_cons (m_if (mt_cmp op_inM sim_in (m_var (i := 4)) (m_lst (ma_cons (m_str) (ma_cons (m_str) (ma_cons (m_str) ma_nil))))) (
ms_cons (m_set (i := 7) sc.nd (m_call (cl.call 32 _ rfl) T.g__law_core tk (ma_cons (m_var (i := 0)) (ma_cons (m_ix hC (m_var (i := 1)) (m_int)) (ma_cons (m_var (i := 2)) (ma_cons (m_var (i := 3)) ma_nil)))))) (
ms_cons (m_set (i := 8) sc.nd (m_call (cl.call 32 _ rfl) T.g__law_core tk (ma_cons (m_var (i := 0)) (ma_cons (m_ix hC (m_var (i := 1)) (m_int)) (ma_cons (m_var (i := 2)) (ma_cons (m_var (i := 3)) ma_nil)))))) (
ms_cons (m_if (mt_cmp (op_eqM hu) sim_eq (m_var (i := 4)) (m_str)) (
ms_one (m_ret (m_call (cl.call 28 _ rfl) T.g__law_joined tk (ma_cons (m_str) (ma_cons (m_lst (ma_cons (m_call (cl.call 29 _ rfl) T.g__law_opposite tk (ma_cons (m_var (i := 7)) ma_nil)) (ma_cons (m_var (i := 8)) ma_nil))) ma_nil))))) (
ms_nil)) (
ms_one (m_ret (m_call (cl.call 28 _ rfl) T.g__law_joined tk (ma_cons (m_var (i := 4)) (ma_cons (m_lst (ma_cons (m_var (i := 7)) (ma_cons (m_var (i := 8)) ma_nil))) ma_nil)))))))) (
ms_nil)) (
ms_cons (m_if (mt_cmp (op_eqM hu) sim_eq (m_var (i := 4)) (m_str)) (
ms_cons (m_asg (vs := [5, 9, 10]) (m_ix hC (m_lc (own := [("saying", 12)]) rfl sc.nd (mi_any hC (m_var (i := 0))) (blkOk_by (by kernel_rfl)) (fun _ _ _ _ _ => mg_name (i := 12) sc.nd) (fun _ _ _ _ _ => mts_one (mt_cmp (op_eqM hu) sim_eq (m_ix hC (m_var (i := 12)) (m_int)) (m_ix hC (m_var (i := 1)) (m_int)))) (fun _ _ _ _ _ => m_var (i := 12))) (m_int)) (mg_tup rfl hC (mgs_cons (mg_name (i := 5) sc.nd) (mgs_cons (mg_name (i := 9) sc.nd) (mgs_cons (mg_name (i := 10) sc.nd) (mgs_nil)))))) (
ms_cons (m_set (i := 6) sc.nd (m_dic0)) (
ms_cons (m_for (vs := [11]) ps rfl (mi_range1 T.n_range (ma_cons (m_bif call_len sim_len T.n_len (ma_cons (m_var (i := 9)) ma_nil)) ma_nil)) (mg_name (i := 11) sc.nd) (
ms_one (m_putD hu (m_var (i := 6)) (m_ixA hu hC (m_var (i := 9)) (m_var (i := 11))) (m_call (cl.call 30 _ rfl) T.g__law_sum_form tk (ma_cons (m_ixA hu hC (m_ix hC (m_var (i := 1)) (m_int)) (m_var (i := 11))) (ma_cons (m_var (i := 2)) ma_nil)))))) (
ms_one (m_ret (m_call (cl.call 32 _ rfl) T.g__law_core tk (ma_cons (m_var (i := 0)) (ma_cons (m_var (i := 10)) (ma_cons (m_var (i := 6)) (ma_cons (m_var (i := 3)) ma_nil)))))))))) (
ms_nil)) (
ms_one (m_ret (m_call (cl.call 31 _ rfl) T.g__law_atom_core tk (ma_cons (m_var (i := 1)) (ma_cons (m_var (i := 2)) ma_nil))))))))))
theorem bd33 (T : Txt w cA K mg fa) : BodyOk ⟨K, cA⟩ P w K mg base (ent fa fd) ⟨"_law_one_of", st33, N33, P33, fa 33, fd 33⟩ d__law_one_of := fun G cdv A outer s H E cl => by
  have tk : Takes (Ctx P w K mg base ⟨"_law_one_of", st33, N33, P33, fa 33, fd 33⟩ cdv A outer s H E) (WB E) := takes_of rfl rfl rfl rfl
  have ps := passes_of (X := Ctx P w K mg base ⟨"_law_one_of", st33, N33, P33, fa 33, fd 33⟩ cdv A outer s H E) rfl
  have hu := cl.room.units
  have hC : (⟨K, cA⟩ : Cfg).K = K := rfl
  have sc := sc33
  show PSs _ _ (tS _ _ (b__law_one_of G))
  delta b__law_one_of
  exact (ms_one (m_ret (m_ixA hu hC (m_var (i := 1)) (m_call (cl.call 21 _ rfl) T.g__law_draw tk (ma_cons (m_var (i := 0)) (ma_cons (m_bif call_len sim_len T.n_len (ma_cons (m_var (i := 1)) ma_nil)) ma_nil))))))
theorem bd34 (T : Txt w cA K mg fa) : BodyOk ⟨K, cA⟩ P w K mg base (ent fa fd) ⟨"_law_sum_ast", st34, N34, P34, fa 34, fd 34⟩ d__law_sum_ast := fun G cdv A outer s H E cl => by
  have tk : Takes (Ctx P w K mg base ⟨"_law_sum_ast", st34, N34, P34, fa 34, fd 34⟩ cdv A outer s H E) (WB E) := takes_of rfl rfl rfl rfl
  have ps := passes_of (X := Ctx P w K mg base ⟨"_law_sum_ast", st34, N34, P34, fa 34, fd 34⟩ cdv A outer s H E) rfl
  have hu := cl.room.units
  have hC : (⟨K, cA⟩ : Cfg).K = K := rfl
  have sc := sc34
  show PSs _ _ (tS _ _ (b__law_sum_ast G))
  delta b__law_sum_ast
  exact (ms_cons (m_set (i := 3) sc.nd (m_call (cl.call 21 _ rfl) T.g__law_draw tk (ma_cons (m_var (i := 0)) (ma_cons (m_int) ma_nil)))) (
ms_cons (m_if (PW.pt (mw_and (mt_cmp (op_neM hu) sim_ne (m_var (i := 1)) (m_lst (ma_nil))) (mw_and1 (PW.pt (mw_or (mt_cmp op_ltM sim_lt (m_var (i := 3)) (m_int)) (mw_or1 (PW.pt (mw_and (mt_cmp (op_eqM hu) sim_eq (m_var (i := 2)) (m_int)) (mw_and1 (mt_cmp op_ltM sim_lt (m_var (i := 3)) (m_int))))))))))) (
ms_one (m_ret (m_tup (ma_cons (m_str) (ma_cons (m_call (cl.call 33 _ rfl) T.g__law_one_of tk (ma_cons (m_var (i := 0)) (ma_cons (m_var (i := 1)) ma_nil))) ma_nil))))) (
ms_nil)) (
ms_cons (m_if (PW.pt (mw_or (mt_cmp (op_eqM hu) sim_eq (m_var (i := 3)) (m_int)) (mw_or1 (mt_cmp (op_eqM hu) sim_eq (m_var (i := 2)) (m_int))))) (
ms_one (m_ret (m_tup (ma_cons (m_str) (ma_cons (m_ixA hu hC (m_lst (ma_cons (m_call (cl.call 21 _ rfl) T.g__law_draw tk (ma_cons (m_var (i := 0)) (ma_cons (m_int) ma_nil))) (ma_cons (m_call (cl.call 21 _ rfl) T.g__law_draw tk (ma_cons (m_var (i := 0)) (ma_cons (m_int) ma_nil))) ma_nil))) (m_bty call_intOf sim_intOf T.n_int (ma_cons (m_cmp (op_eqM hu) sim_eq (m_call (cl.call 21 _ rfl) T.g__law_draw tk (ma_cons (m_var (i := 0)) (ma_cons (m_int) ma_nil))) (m_int)) ma_nil))) ma_nil))))) (
ms_nil)) (
ms_cons (m_if (mt_cmp (op_eqM hu) sim_eq (m_var (i := 3)) (m_int)) (
ms_one (m_ret (m_tup (ma_cons (m_str) (ma_cons (m_call (cl.call 21 _ rfl) T.g__law_draw tk (ma_cons (m_var (i := 0)) (ma_cons (m_int) ma_nil))) (ma_cons (m_call (cl.call 34 _ rfl) T.g__law_sum_ast tk (ma_cons (m_var (i := 0)) (ma_cons (m_var (i := 1)) (ma_cons (m_op op_sub sim_int2 (m_var (i := 2)) (m_int)) ma_nil)))) ma_nil)))))) (
ms_nil)) (
ms_cons (m_if (mt_cmp (op_eqM hu) sim_eq (m_var (i := 3)) (m_int)) (
ms_one (m_ret (m_tup (ma_cons (m_str) (ma_cons (m_call (cl.call 34 _ rfl) T.g__law_sum_ast tk (ma_cons (m_var (i := 0)) (ma_cons (m_var (i := 1)) (ma_cons (m_op op_sub sim_int2 (m_var (i := 2)) (m_int)) ma_nil)))) ma_nil))))) (
ms_nil)) (
ms_cons (m_set (i := 4) sc.nd (m_call (cl.call 34 _ rfl) T.g__law_sum_ast tk (ma_cons (m_var (i := 0)) (ma_cons (m_var (i := 1)) (ma_cons (m_op op_sub sim_int2 (m_var (i := 2)) (m_int)) ma_nil))))) (
ms_one (m_ret (m_tup (ma_cons (m_ixA hu hC (m_lst (ma_cons (m_str) (ma_cons (m_str) ma_nil))) (m_call (cl.call 21 _ rfl) T.g__law_draw tk (ma_cons (m_var (i := 0)) (ma_cons (m_int) ma_nil)))) (ma_cons (m_var (i := 4)) (ma_cons (m_call (cl.call 34 _ rfl) T.g__law_sum_ast tk (ma_cons (m_var (i := 0)) (ma_cons (m_var (i := 1)) (ma_cons (m_op op_sub sim_int2 (m_var (i := 2)) (m_int)) ma_nil)))) ma_nil))))))))))))
theorem bd35 (T : Txt w cA K mg fa) : BodyOk ⟨K, cA⟩ P w K mg base (ent fa fd) ⟨"_law_atom_ast", st35, N35, P35, fa 35, fd 35⟩ d__law_atom_ast := fun G cdv A outer s H E cl => by
  have tk : Takes (Ctx P w K mg base ⟨"_law_atom_ast", st35, N35, P35, fa 35, fd 35⟩ cdv A outer s H E) (WB E) := takes_of rfl rfl rfl rfl
  have ps := passes_of (X := Ctx P w K mg base ⟨"_law_atom_ast", st35, N35, P35, fa 35, fd 35⟩ cdv A outer s H E) rfl
  have hu := cl.room.units
  have hC : (⟨K, cA⟩ : Cfg).K = K := rfl
  have sc := sc35
  show PSs _ _ (tS _ _ (b__law_atom_ast G))
  delta b__law_atom_ast
  exact (ms_cons (m_set (i := 3) sc.nd (m_call (cl.call 34 _ rfl) T.g__law_sum_ast tk (ma_cons (m_var (i := 0)) (ma_cons (m_var (i := 1)) (ma_cons (m_var (i := 2)) ma_nil))))) (
ms_cons (m_if (mt_cmp (op_eqM hu) sim_eq (m_call (cl.call 21 _ rfl) T.g__law_draw tk (ma_cons (m_var (i := 0)) (ma_cons (m_int) ma_nil))) (m_int)) (
ms_cons (m_set (i := 4) sc.nd (m_op op_addM sim_add (m_int) (m_call (cl.call 21 _ rfl) T.g__law_draw tk (ma_cons (m_var (i := 0)) (ma_cons (m_int) ma_nil))))) (
ms_one (m_ret (m_tup (ma_cons (m_str) (ma_cons (m_ixA hu hC (m_lst (ma_cons (m_str) (ma_cons (m_str) ma_nil))) (m_call (cl.call 21 _ rfl) T.g__law_draw tk (ma_cons (m_var (i := 0)) (ma_cons (m_int) ma_nil)))) (ma_cons (m_var (i := 3)) (ma_cons (m_var (i := 4)) (ma_cons (m_call (cl.call 21 _ rfl) T.g__law_draw tk (ma_cons (m_var (i := 0)) (ma_cons (m_var (i := 4)) ma_nil))) ma_nil))))))))) (
ms_nil)) (
ms_cons (m_set (i := 5) sc.nd (m_ixA hu hC (m_lst (ma_cons (m_str) (ma_cons (m_str) (ma_cons (m_str) (ma_cons (m_str) (ma_cons (m_str) (ma_cons (m_str) ma_nil))))))) (m_call (cl.call 21 _ rfl) T.g__law_draw tk (ma_cons (m_var (i := 0)) (ma_cons (m_int) ma_nil))))) (
ms_one (m_ret (m_tup (ma_cons (m_str) (ma_cons (m_var (i := 5)) (ma_cons (m_var (i := 3)) (ma_cons (m_call (cl.call 34 _ rfl) T.g__law_sum_ast tk (ma_cons (m_var (i := 0)) (ma_cons (m_var (i := 1)) (ma_cons (m_var (i := 2)) ma_nil)))) ma_nil))))))))))
theorem bd36 (T : Txt w cA K mg fa) : BodyOk ⟨K, cA⟩ P w K mg base (ent fa fd) ⟨"_law_condition", st36, N36, P36, fa 36, fd 36⟩ d__law_condition := fun G cdv A outer s H E cl => by
  have tk : Takes (Ctx P w K mg base ⟨"_law_condition", st36, N36, P36, fa 36, fd 36⟩ cdv A outer s H E) (WB E) := takes_of rfl rfl rfl rfl
  have ps := passes_of (X := Ctx P w K mg base ⟨"_law_condition", st36, N36, P36, fa 36, fd 36⟩ cdv A outer s H E) rfl
  have hu := cl.room.units
  have hC : (⟨K, cA⟩ : Cfg).K = K := rfl
  have sc := sc36
  show PSs _ _ (tS _ _ (b__law_condition G))
  delta b__law_condition
  exact (ms_cons (m_set (i := 3) sc.nd (m_call (cl.call 21 _ rfl) T.g__law_draw tk (ma_cons (m_var (i := 0)) (ma_cons (m_int) ma_nil)))) (
ms_cons (m_if (PW.pt (mw_or (mt_cmp (op_eqM hu) sim_eq (m_var (i := 2)) (m_int)) (mw_or1 (mt_cmp op_ltM sim_lt (m_var (i := 3)) (m_int))))) (
ms_one (m_ret (m_call (cl.call 35 _ rfl) T.g__law_atom_ast tk (ma_cons (m_var (i := 0)) (ma_cons (m_var (i := 1)) (ma_cons (m_int) ma_nil)))))) (
ms_nil)) (
ms_cons (m_if (mt_cmp (op_eqM hu) sim_eq (m_var (i := 3)) (m_int)) (
ms_one (m_ret (m_tup (ma_cons (m_str) (ma_cons (m_call (cl.call 36 _ rfl) T.g__law_condition tk (ma_cons (m_var (i := 0)) (ma_cons (m_var (i := 1)) (ma_cons (m_op op_sub sim_int2 (m_var (i := 2)) (m_int)) ma_nil)))) ma_nil))))) (
ms_nil)) (
ms_cons (m_set (i := 4) sc.nd (m_ixA hu hC (m_lst (ma_cons (m_str) (ma_cons (m_str) ma_nil))) (m_call (cl.call 21 _ rfl) T.g__law_draw tk (ma_cons (m_var (i := 0)) (ma_cons (m_int) ma_nil))))) (
ms_cons (m_set (i := 5) sc.nd (m_call (cl.call 36 _ rfl) T.g__law_condition tk (ma_cons (m_var (i := 0)) (ma_cons (m_var (i := 1)) (ma_cons (m_op op_sub sim_int2 (m_var (i := 2)) (m_int)) ma_nil))))) (
ms_one (m_ret (m_tup (ma_cons (m_var (i := 4)) (ma_cons (m_var (i := 5)) (ma_cons (m_call (cl.call 36 _ rfl) T.g__law_condition tk (ma_cons (m_var (i := 0)) (ma_cons (m_var (i := 1)) (ma_cons (m_op op_sub sim_int2 (m_var (i := 2)) (m_int)) ma_nil)))) ma_nil)))))))))))
theorem bd37 (T : Txt w cA K mg fa) : BodyOk ⟨K, cA⟩ P w K mg base (ent fa fd) ⟨"_law_is_int", st37, N37, P37, fa 37, fd 37⟩ d__law_is_int := fun G cdv A outer s H E cl => by
  have tk : Takes (Ctx P w K mg base ⟨"_law_is_int", st37, N37, P37, fa 37, fd 37⟩ cdv A outer s H E) (WB E) := takes_of rfl rfl rfl rfl
  have ps := passes_of (X := Ctx P w K mg base ⟨"_law_is_int", st37, N37, P37, fa 37, fd 37⟩ cdv A outer s H E) rfl
  have hu := cl.room.units
  have hC : (⟨K, cA⟩ : Cfg).K = K := rfl
  have sc := sc37
  show PSs _ _ (tS _ _ (b__law_is_int G))
  delta b__law_is_int
  exact (ms_one (m_ret (m_and (m_isi (c := "int") hC (m_var (i := 0)) T.n_isinstance T.n_int) (m_one (m_not (m_isi (c := "bool") hC (m_var (i := 0)) T.n_isinstance T.n_bool))))))
theorem bd38 (T : Txt w cA K mg fa) : BodyOk ⟨K, cA⟩ P w K mg base (ent fa fd) ⟨"_law_same", st38, N38, P38, fa 38, fd 38⟩ d__law_same := fun G cdv A outer s H E cl => by
  have tk : Takes (Ctx P w K mg base ⟨"_law_same", st38, N38, P38, fa 38, fd 38⟩ cdv A outer s H E) (WB E) := takes_of rfl rfl rfl rfl
  have ps := passes_of (X := Ctx P w K mg base ⟨"_law_same", st38, N38, P38, fa 38, fd 38⟩ cdv A outer s H E) rfl
  have hu := cl.room.units
  have hC : (⟨K, cA⟩ : Cfg).K = K := rfl
  have sc := sc38
  show PSs _ _ (tS _ _ (b__law_same G))
  delta b__law_same
  exact (ms_cons (m_if (mt_val (m_isi (c := "tuple") hC (m_var (i := 1)) T.n_isinstance T.n_tuple) hC) (
ms_cons (m_if (PW.pt (mw_or (mt_not (mt_val (m_isi (c := "tuple") hC (m_var (i := 0)) T.n_isinstance T.n_tuple) hC)) (mw_or1 (mt_cmp (op_neM hu) sim_ne (m_bif call_len sim_len T.n_len (ma_cons (m_var (i := 0)) ma_nil)) (m_bif call_len sim_len T.n_len (ma_cons (m_var (i := 1)) ma_nil)))))) (
ms_one (m_ret (m_bl))) (
ms_nil)) (
ms_one (m_ret (m_gc (m_bif (cr_all rfl) sim_allG T.n_all (ma_cons (m_lc (own := [("k", 2)]) rfl sc.nd (mi_range1 T.n_range (ma_cons (m_bif call_len sim_len T.n_len (ma_cons (m_var (i := 1)) ma_nil)) ma_nil)) (blkOk_by (by kernel_rfl)) (fun _ _ _ _ _ => mg_name (i := 2) sc.nd) (fun _ _ _ _ _ => mts_nil) (fun _ _ _ _ _ => m_call (cl.call 38 _ rfl) T.g__law_same takes0 (ma_cons (m_ixA hu hC (m_var (i := 0)) (m_var (i := 2))) (ma_cons (m_ixA hu hC (m_var (i := 1)) (m_var (i := 2))) ma_nil)))) ma_nil)))))) (
ms_nil)) (
ms_cons (m_if (mt_val (m_isi (c := "str") hC (m_var (i := 1)) T.n_isinstance T.n_str) hC) (
ms_one (m_ret (m_and (m_isi (c := "str") hC (m_var (i := 0)) T.n_isinstance T.n_str) (m_one (m_cmp (op_eqM hu) sim_eq (m_var (i := 0)) (m_var (i := 1))))))) (
ms_nil)) (
ms_one (m_ret (m_and (m_call (cl.call 37 _ rfl) T.g__law_is_int tk (ma_cons (m_var (i := 0)) ma_nil)) (m_one (m_cmp (op_eqM hu) sim_eq (m_var (i := 0)) (m_var (i := 1)))))))))
theorem bd39 (T : Txt w cA K mg fa) : BodyOk ⟨K, cA⟩ P w K mg base (ent fa fd) ⟨"_law_turns", st39, N39, P39, fa 39, fd 39⟩ d__law_turns := fun G cdv A outer s H E cl => by
  have tk : Takes (Ctx P w K mg base ⟨"_law_turns", st39, N39, P39, fa 39, fd 39⟩ cdv A outer s H E) (WB E) := takes_of rfl rfl rfl rfl
  have ps := passes_of (X := Ctx P w K mg base ⟨"_law_turns", st39, N39, P39, fa 39, fd 39⟩ cdv A outer s H E) rfl
  have hu := cl.room.units
  have hC : (⟨K, cA⟩ : Cfg).K = K := rfl
  have sc := sc39
  show PSs _ _ (tS _ _ (b__law_turns G))
  delta b__law_turns
  exact (ms_cons (m_if (mt_cmp op_inM sim_in (m_ix hC (m_var (i := 0)) (m_int)) (m_lst (ma_cons (m_str) (ma_cons (m_str) ma_nil)))) (
ms_cons (m_set (i := 1) sc.nd (m_lst (ma_nil))) (
ms_cons (m_for (vs := [2]) ps rfl (mi_any hC (m_ix hC (m_var (i := 0)) (m_int))) (mg_name (i := 2) sc.nd) (
ms_one (m_set (i := 1) sc.nd (m_op op_addM sim_add (m_var (i := 1)) (m_call (cl.call 39 _ rfl) T.g__law_turns tk (ma_cons (m_var (i := 2)) ma_nil)))))) (
ms_one (m_ret (m_var (i := 1)))))) (
ms_nil)) (
ms_cons (m_if (mt_cmp op_inM sim_in (m_ix hC (m_var (i := 0)) (m_int)) (m_lst (ma_cons (m_str) (ma_cons (m_str) ma_nil)))) (
ms_one (m_ret (m_op op_addM sim_add (m_lst (ma_cons (m_ix hC (m_var (i := 0)) (m_int)) ma_nil)) (m_call (cl.call 39 _ rfl) T.g__law_turns tk (ma_cons (m_ix hC (m_var (i := 0)) (m_int)) ma_nil))))) (
ms_nil)) (
ms_one (m_ret (m_lst (ma_nil))))))
theorem bd40 (T : Txt w cA K mg fa) : BodyOk ⟨K, cA⟩ P w K mg base (ent fa fd) ⟨"_law_atoms", st40, N40, P40, fa 40, fd 40⟩ d__law_atoms := fun G cdv A outer s H E cl => by
  have tk : Takes (Ctx P w K mg base ⟨"_law_atoms", st40, N40, P40, fa 40, fd 40⟩ cdv A outer s H E) (WB E) := takes_of rfl rfl rfl rfl
  have ps := passes_of (X := Ctx P w K mg base ⟨"_law_atoms", st40, N40, P40, fa 40, fd 40⟩ cdv A outer s H E) rfl
  have hu := cl.room.units
  have hC : (⟨K, cA⟩ : Cfg).K = K := rfl
  have sc := sc40
  show PSs _ _ (tS _ _ (b__law_atoms G))
  delta b__law_atoms
  exact (ms_cons (m_if (mt_cmp op_inM sim_in (m_ix hC (m_var (i := 0)) (m_int)) (m_lst (ma_cons (m_str) (ma_cons (m_str) ma_nil)))) (
ms_cons (m_set (i := 1) sc.nd (m_lst (ma_nil))) (
ms_cons (m_for (vs := [2]) ps rfl (mi_any hC (m_ix hC (m_var (i := 0)) (m_int))) (mg_name (i := 2) sc.nd) (
ms_one (m_set (i := 1) sc.nd (m_op op_addM sim_add (m_var (i := 1)) (m_call (cl.call 40 _ rfl) T.g__law_atoms tk (ma_cons (m_var (i := 2)) ma_nil)))))) (
ms_one (m_ret (m_var (i := 1)))))) (
ms_nil)) (
ms_cons (m_if (mt_cmp op_inM sim_in (m_ix hC (m_var (i := 0)) (m_int)) (m_lst (ma_cons (m_str) (ma_cons (m_str) ma_nil)))) (
ms_one (m_ret (m_call (cl.call 40 _ rfl) T.g__law_atoms tk (ma_cons (m_ix hC (m_var (i := 0)) (m_int)) ma_nil)))) (
ms_nil)) (
ms_one (m_ret (m_lst (ma_cons (m_var (i := 0)) ma_nil))))))
theorem bd41 (T : Txt w cA K mg fa) : BodyOk ⟨K, cA⟩ P w K mg base (ent fa fd) ⟨"_law_open_names", st41, N41, P41, fa 41, fd 41⟩ d__law_open_names := fun G cdv A outer s H E cl => by
  have tk : Takes (Ctx P w K mg base ⟨"_law_open_names", st41, N41, P41, fa 41, fd 41⟩ cdv A outer s H E) (WB E) := takes_of rfl rfl rfl rfl
  have ps := passes_of (X := Ctx P w K mg base ⟨"_law_open_names", st41, N41, P41, fa 41, fd 41⟩ cdv A outer s H E) rfl
  have hu := cl.room.units
  have hC : (⟨K, cA⟩ : Cfg).K = K := rfl
  have sc := sc41
  show PSs _ _ (tS _ _ (b__law_open_names G))
  delta b__law_open_names
  exact (ms_cons (m_set (i := 1) sc.nd (m_lst (ma_nil))) (
ms_cons (m_set (i := 2) sc.nd (m_call (cl.call 39 _ rfl) T.g__law_turns tk (ma_cons (m_var (i := 0)) ma_nil))) (
ms_cons (m_for (vs := [3]) ps rfl (mi_any hC (m_call (cl.call 40 _ rfl) T.g__law_atoms tk (ma_cons (m_var (i := 0)) ma_nil))) (mg_name (i := 3) sc.nd) (
ms_one (m_for (vs := [4, 5]) ps rfl (mi_any hC (m_ix hC (m_ix hC (m_var (i := 3)) (m_un un_neg sim_neg (m_int))) (m_int))) (mg_tup rfl hC (mgs_cons (mg_name (i := 4) sc.nd) (mgs_cons (mg_name (i := 5) sc.nd) (mgs_nil)))) (
ms_one (m_if (PW.pt (mw_and (mt_notInA hu hC (m_var (i := 4)) (m_var (i := 1))) (mw_and1 (mt_notInA hu hC (m_var (i := 4)) (m_var (i := 2)))))) (
ms_one (m_ex (m_met (ty := .list) hC PySem.F.plainAttrs_list PySem.F.slot_list_append PySem.F.type_list_append mt_append sim_append (m_var (i := 1)) (ma_cons (m_var (i := 4)) ma_nil)))) (
ms_nil)))))) (
ms_one (m_ret (m_gc (m_bty call_tuple_of sim_tuple T.n_tuple (ma_cons (m_bif (call_sortM rfl) sim_sorted T.n_sorted (ma_cons (m_var (i := 1)) ma_nil)) ma_nil))))))))
theorem bd42 (T : Txt w cA K mg fa) : BodyOk ⟨K, cA⟩ P w K mg base (ent fa fd) ⟨"_law_at", st42, N42, P42, fa 42, fd 42⟩ d__law_at := fun G cdv A outer s H E cl => by
  have tk : Takes (Ctx P w K mg base ⟨"_law_at", st42, N42, P42, fa 42, fd 42⟩ cdv A outer s H E) (WB E) := takes_of rfl rfl rfl rfl
  have ps := passes_of (X := Ctx P w K mg base ⟨"_law_at", st42, N42, P42, fa 42, fd 42⟩ cdv A outer s H E) rfl
  have hu := cl.room.units
  have hC : (⟨K, cA⟩ : Cfg).K = K := rfl
  have sc := sc42
  show PSs _ _ (tS _ _ (b__law_at G))
  delta b__law_at
  exact (ms_cons (m_set (i := 2) sc.nd (m_ix hC (m_var (i := 0)) (m_int))) (
ms_cons (m_for (vs := [3, 4]) ps rfl (mi_any hC (m_ix hC (m_var (i := 0)) (m_int))) (mg_tup rfl hC (mgs_cons (mg_name (i := 3) sc.nd) (mgs_cons (mg_name (i := 4) sc.nd) (mgs_nil)))) (
ms_one (m_set (i := 2) sc.nd (m_op op_addM sim_add (m_var (i := 2)) (m_op op_mulM sim_mul (m_var (i := 4)) (m_ixA hu hC (m_var (i := 1)) (m_var (i := 3)))))))) (
ms_one (m_ret (m_var (i := 2))))))
theorem bd43 (T : Txt w cA K mg fa) : BodyOk ⟨K, cA⟩ P w K mg base (ent fa fd) ⟨"_law_true", st43, N43, P43, fa 43, fd 43⟩ d__law_true := fun G cdv A outer s H E cl => by
  have tk : Takes (Ctx P w K mg base ⟨"_law_true", st43, N43, P43, fa 43, fd 43⟩ cdv A outer s H E) (WB E) := takes_of rfl rfl rfl rfl
  have ps := passes_of (X := Ctx P w K mg base ⟨"_law_true", st43, N43, P43, fa 43, fd 43⟩ cdv A outer s H E) rfl
  have hu := cl.room.units
  have hC : (⟨K, cA⟩ : Cfg).K = K := rfl
  have sc := sc43
  show PSs _ _ (tS _ _ (b__law_true G))
  delta b__law_true
  exact (ms_cons (m_if (mt_cmp (op_eqM hu) sim_eq (m_ix hC (m_var (i := 0)) (m_int)) (m_str)) (
ms_one (m_ret (m_gc (m_bif (cr_all rfl) sim_allG T.n_all (ma_cons (m_lc (own := [("part", 3)]) rfl sc.nd (mi_any hC (m_ix hC (m_var (i := 0)) (m_int))) (blkOk_by (by kernel_rfl)) (fun _ _ _ _ _ => mg_name (i := 3) sc.nd) (fun _ _ _ _ _ => mts_nil) (fun _ _ _ _ _ => m_call (cl.call 43 _ rfl) T.g__law_true takes0 (ma_cons (m_var (i := 3)) (ma_cons (m_var (i := 1)) ma_nil)))) ma_nil))))) (
ms_nil)) (
ms_cons (m_if (mt_cmp (op_eqM hu) sim_eq (m_ix hC (m_var (i := 0)) (m_int)) (m_str)) (
ms_one (m_ret (m_gc (m_bif (cr_any rfl) sim_allG T.n_any (ma_cons (m_lc (own := [("part", 3)]) rfl sc.nd (mi_any hC (m_ix hC (m_var (i := 0)) (m_int))) (blkOk_by (by kernel_rfl)) (fun _ _ _ _ _ => mg_name (i := 3) sc.nd) (fun _ _ _ _ _ => mts_nil) (fun _ _ _ _ _ => m_call (cl.call 43 _ rfl) T.g__law_true takes0 (ma_cons (m_var (i := 3)) (ma_cons (m_var (i := 1)) ma_nil)))) ma_nil))))) (
ms_nil)) (
ms_cons (m_set (i := 2) sc.nd (m_call (cl.call 42 _ rfl) T.g__law_at tk (ma_cons (m_ix hC (m_var (i := 0)) (m_un un_neg sim_neg (m_int))) (ma_cons (m_var (i := 1)) ma_nil)))) (
ms_cons (m_if (mt_cmp (op_eqM hu) sim_eq (m_ix hC (m_var (i := 0)) (m_int)) (m_str)) (
ms_one (m_ret (m_cmp op_geM sim_ge (m_var (i := 2)) (m_int)))) (
ms_nil)) (
ms_cons (m_if (mt_cmp (op_eqM hu) sim_eq (m_ix hC (m_var (i := 0)) (m_int)) (m_str)) (
ms_one (m_ret (m_cmp (op_eqM hu) sim_eq (m_var (i := 2)) (m_int)))) (
ms_nil)) (
ms_one (m_ret (m_cmp (op_eqM hu) sim_eq (m_cmp (op_eqM hu) sim_eq (m_op op_sub sim_int2 (m_var (i := 2)) (m_op op_mulM sim_mul (m_op op_fdivW sim_div (m_var (i := 2)) (m_ix hC (m_var (i := 0)) (m_int))) (m_ix hC (m_var (i := 0)) (m_int)))) (m_int)) (m_cmp (op_eqM hu) sim_eq (m_ix hC (m_var (i := 0)) (m_int)) (m_str))))))))))
theorem bd44 (T : Txt w cA K mg fa) : BodyOk ⟨K, cA⟩ P w K mg base (ent fa fd) ⟨"_law_shuffled", st44, N44, P44, fa 44, fd 44⟩ d__law_shuffled := fun G cdv A outer s H E cl => by
  have tk : Takes (Ctx P w K mg base ⟨"_law_shuffled", st44, N44, P44, fa 44, fd 44⟩ cdv A outer s H E) (WB E) := takes_of rfl rfl rfl rfl
  have ps := passes_of (X := Ctx P w K mg base ⟨"_law_shuffled", st44, N44, P44, fa 44, fd 44⟩ cdv A outer s H E) rfl
  have hu := cl.room.units
  have hC : (⟨K, cA⟩ : Cfg).K = K := rfl
  have sc := sc44
  show PSs _ _ (tS _ _ (b__law_shuffled G))
  delta b__law_shuffled
  exact (ms_cons (m_set (i := 2) sc.nd (m_lst (ma_nil))) (
ms_cons (m_for (vs := [3]) ps rfl (mi_any hC (m_var (i := 1))) (mg_name (i := 3) sc.nd) (
ms_one (m_ex (m_met (ty := .list) hC PySem.F.plainAttrs_list PySem.F.slot_list_insert PySem.F.type_list_insert mt_insertM sim_insert (m_var (i := 2)) (ma_cons (m_call (cl.call 21 _ rfl) T.g__law_draw tk (ma_cons (m_var (i := 0)) (ma_cons (m_op op_addM sim_add (m_bif call_len sim_len T.n_len (ma_cons (m_var (i := 2)) ma_nil)) (m_int)) ma_nil))) (ma_cons (m_var (i := 3)) ma_nil)))))) (
ms_one (m_ret (m_var (i := 2))))))
theorem bd45 (T : Txt w cA K mg fa) : BodyOk ⟨K, cA⟩ P w K mg base (ent fa fd) ⟨"_law_put", st45, N45, P45, fa 45, fd 45⟩ d__law_put := fun G cdv A outer s H E cl => by
  have tk : Takes (Ctx P w K mg base ⟨"_law_put", st45, N45, P45, fa 45, fd 45⟩ cdv A outer s H E) (WB E) := takes_of rfl rfl rfl rfl
  have ps := passes_of (X := Ctx P w K mg base ⟨"_law_put", st45, N45, P45, fa 45, fd 45⟩ cdv A outer s H E) rfl
  have hu := cl.room.units
  have hC : (⟨K, cA⟩ : Cfg).K = K := rfl
  have sc := sc45
  show PSs _ _ (tS _ _ (b__law_put G))
  delta b__law_put
  exact (ms_cons (m_set (i := 2) sc.nd (m_lst (ma_cons (m_tup (ma_cons (m_int) (ma_cons (m_tup (ma_cons (m_ix hC (m_var (i := 0)) (m_int)) (ma_cons (m_tup (ma_nil)) ma_nil))) ma_nil))) ma_nil))) (
ms_cons (m_for (vs := [3, 4]) ps rfl (mi_any hC (m_ix hC (m_var (i := 0)) (m_int))) (mg_tup rfl hC (mgs_cons (mg_name (i := 3) sc.nd) (mgs_cons (mg_name (i := 4) sc.nd) (mgs_nil)))) (
ms_one (m_ex (m_met (ty := .list) hC PySem.F.plainAttrs_list PySem.F.slot_list_append PySem.F.type_list_append mt_append sim_append (m_var (i := 2)) (ma_cons (m_tup (ma_cons (m_var (i := 4)) (ma_cons (m_get2 hu (m_var (i := 1)) (m_var (i := 3)) (m_call (cl.call 23 _ rfl) T.g__law_var tk (ma_cons (m_var (i := 3)) ma_nil))) ma_nil))) ma_nil))))) (
ms_one (m_ret (m_call (cl.call 25 _ rfl) T.g__law_sum tk (ma_cons (m_var (i := 2)) ma_nil))))))
theorem bd46 (T : Txt w cA K mg fa) : BodyOk ⟨K, cA⟩ P w K mg base (ent fa fd) ⟨"_law_put_in", st46, N46, P46, fa 46, fd 46⟩ d__law_put_in := fun G cdv A outer s H E cl => by
  have tk : Takes (Ctx P w K mg base ⟨"_law_put_in", st46, N46, P46, fa 46, fd 46⟩ cdv A outer s H E) (WB E) := takes_of rfl rfl rfl rfl
  have ps := passes_of (X := Ctx P w K mg base ⟨"_law_put_in", st46, N46, P46, fa 46, fd 46⟩ cdv A outer s H E) rfl
  have hu := cl.room.units
  have hC : (⟨K, cA⟩ : Cfg).K = K := rfl
  have sc := sc46
  show PSs _ _ (tS _ _ (b__law_put_in G))
  delta b__law_put_in
  exact (ms_cons (m_if (mt_cmp op_inM sim_in (m_ix hC (m_var (i := 0)) (m_int)) (m_lst (ma_cons (m_str) (ma_cons (m_str) ma_nil)))) (
ms_one (m_ret (m_tup (ma_cons (m_ix hC (m_var (i := 0)) (m_int)) (ma_cons (m_gc (m_bty call_tuple_of sim_tuple T.n_tuple (ma_cons (m_lc (own := [("part", 2)]) rfl sc.nd (mi_any hC (m_ix hC (m_var (i := 0)) (m_int))) (blkOk_by (by kernel_rfl)) (fun _ _ _ _ _ => mg_name (i := 2) sc.nd) (fun _ _ _ _ _ => mts_nil) (fun _ _ _ _ _ => m_call (cl.call 46 _ rfl) T.g__law_put_in takes0 (ma_cons (m_var (i := 2)) (ma_cons (m_var (i := 1)) ma_nil)))) ma_nil))) ma_nil))))) (
ms_nil)) (
ms_cons (m_if (mt_cmp op_inM sim_in (m_ix hC (m_var (i := 0)) (m_int)) (m_lst (ma_cons (m_str) (ma_cons (m_str) ma_nil)))) (
ms_one (m_ret (m_tup (ma_cons (m_ix hC (m_var (i := 0)) (m_int)) (ma_cons (m_ix hC (m_var (i := 0)) (m_int)) (ma_cons (m_call (cl.call 46 _ rfl) T.g__law_put_in tk (ma_cons (m_ix hC (m_var (i := 0)) (m_int)) (ma_cons (m_var (i := 1)) ma_nil))) ma_nil)))))) (
ms_nil)) (
ms_one (m_ret (m_op op_addM sim_add (m_slice hC (m_var (i := 0)) (mo_none) (mo_some (m_un un_neg sim_neg (m_int)))) (m_tup (ma_cons (m_call (cl.call 45 _ rfl) T.g__law_put tk (ma_cons (m_ix hC (m_var (i := 0)) (m_un un_neg sim_neg (m_int))) (ma_cons (m_var (i := 1)) ma_nil))) ma_nil)))))))
theorem bd47 (T : Txt w cA K mg fa) : BodyOk ⟨K, cA⟩ P w K mg base (ent fa fd) ⟨"_law_bent", st47, N47, P47, fa 47, fd 47⟩ d__law_bent := fun G cdv A outer s H E cl => by
  have tk : Takes (Ctx P w K mg base ⟨"_law_bent", st47, N47, P47, fa 47, fd 47⟩ cdv A outer s H E) (WB E) := takes_of rfl rfl rfl rfl
  have ps := passes_of (X := Ctx P w K mg base ⟨"_law_bent", st47, N47, P47, fa 47, fd 47⟩ cdv A outer s H E) rfl
  have hu := cl.room.units
  have hC : (⟨K, cA⟩ : Cfg).K = K := rfl
  have sc := sc47
  show PSs _ _ (tS _ _ (b__law_bent G))
  delta b__law_bent
  exact (ms_cons (m_if (PW.pt (mw_and (mt_val (m_isi (c := "tuple") hC (m_var (i := 1)) T.n_isinstance T.n_tuple) hC) (mw_and (mt_cmp op_gtM sim_gt (m_bif call_len sim_len T.n_len (ma_cons (m_var (i := 1)) ma_nil)) (m_int)) (mw_and (mt_cmp op_ltM sim_lt (m_var (i := 2)) (m_int)) (mw_and1 (mt_cmp op_gtM sim_gt (m_call (cl.call 21 _ rfl) T.g__law_draw tk (ma_cons (m_var (i := 0)) (ma_cons (m_int) ma_nil))) (m_int))))))) (
ms_cons (m_set (i := 3) sc.nd (m_call (cl.call 21 _ rfl) T.g__law_draw tk (ma_cons (m_var (i := 0)) (ma_cons (m_bif call_len sim_len T.n_len (ma_cons (m_var (i := 1)) ma_nil)) ma_nil)))) (
ms_one (m_ret (m_op op_addM sim_add (m_op op_addM sim_add (m_slice hC (m_var (i := 1)) (mo_none) (mo_some (m_var (i := 3)))) (m_tup (ma_cons (m_call (cl.call 47 _ rfl) T.g__law_bent tk (ma_cons (m_var (i := 0)) (ma_cons (m_ixA hu hC (m_var (i := 1)) (m_var (i := 3))) (ma_cons (m_op op_addM sim_add (m_var (i := 2)) (m_int)) ma_nil)))) ma_nil))) (m_slice hC (m_var (i := 1)) (mo_some (m_op op_addM sim_add (m_var (i := 3)) (m_int))) (mo_none)))))) (
ms_nil)) (
ms_cons (m_if (mt_val (m_isi (c := "tuple") hC (m_var (i := 1)) T.n_isinstance T.n_tuple) hC) (
ms_cons (m_set (i := 3) sc.nd (m_call (cl.call 21 _ rfl) T.g__law_draw tk (ma_cons (m_var (i := 0)) (ma_cons (m_op op_addM sim_add (m_bif call_len sim_len T.n_len (ma_cons (m_var (i := 1)) ma_nil)) (m_int)) ma_nil)))) (
ms_cons (m_set (i := 4) sc.nd (m_lst (ma_cons (m_op op_addM sim_add (m_slice hC (m_var (i := 1)) (mo_none) (mo_some (m_var (i := 3)))) (m_slice hC (m_var (i := 1)) (mo_some (m_op op_addM sim_add (m_var (i := 3)) (m_int))) (mo_none))) (ma_cons (m_op op_addM sim_add (m_op op_addM sim_add (m_slice hC (m_var (i := 1)) (mo_none) (mo_some (m_var (i := 3)))) (m_slice hC (m_var (i := 1)) (mo_some (m_var (i := 3))) (mo_some (m_op op_addM sim_add (m_var (i := 3)) (m_int))))) (m_slice hC (m_var (i := 1)) (mo_some (m_var (i := 3))) (mo_none))) (ma_cons (m_op op_addM sim_add (m_var (i := 1)) (m_tup (ma_cons (m_int) ma_nil))) (ma_cons (m_tup (ma_nil)) (ma_cons (m_int) ma_nil))))))) (
ms_one (m_ret (m_call (cl.call 33 _ rfl) T.g__law_one_of tk (ma_cons (m_var (i := 0)) (ma_cons (m_op op_addM sim_add (m_var (i := 4)) (m_lst (ma_cons (m_op op_addM sim_add (m_slice hC (m_var (i := 1)) (mo_some (m_var (i := 3))) (mo_none)) (m_slice hC (m_var (i := 1)) (mo_none) (mo_some (m_var (i := 3))))) (ma_cons (m_revA hC (m_var (i := 1))) (ma_cons (m_str) (ma_cons (m_tup (ma_cons (m_var (i := 1)) ma_nil)) ma_nil)))))) ma_nil))))))) (
ms_nil)) (
ms_cons (m_if (mt_val (m_isi (c := "str") hC (m_var (i := 1)) T.n_isinstance T.n_str) hC) (
ms_one (m_ret (m_call (cl.call 33 _ rfl) T.g__law_one_of tk (ma_cons (m_var (i := 0)) (ma_cons (m_lst (ma_cons (m_str) (ma_cons (m_str) (ma_cons (m_str) (ma_cons (m_op op_addM sim_add (m_var (i := 1)) (m_str)) (ma_cons (m_slice hC (m_var (i := 1)) (mo_some (m_int)) (mo_none)) (ma_cons (m_slice hC (m_var (i := 1)) (mo_none) (mo_some (m_un un_neg sim_neg (m_int)))) (ma_cons (m_int) (ma_cons (m_tup (ma_nil)) ma_nil))))))))) ma_nil))))) (
ms_nil)) (
ms_one (m_ret (m_call (cl.call 33 _ rfl) T.g__law_one_of tk (ma_cons (m_var (i := 0)) (ma_cons (m_lst (ma_cons (m_op op_addM sim_add (m_var (i := 1)) (m_int)) (ma_cons (m_op op_sub sim_int2 (m_var (i := 1)) (m_int)) (ma_cons (m_un un_neg sim_neg (m_var (i := 1))) (ma_cons (m_op op_mulM sim_mul (m_int) (m_var (i := 1))) (ma_cons (m_int) (ma_cons (m_bty call_str_int sim_str T.n_str (ma_cons (m_var (i := 1)) ma_nil)) (ma_cons (m_tup (ma_cons (m_var (i := 1)) ma_nil)) ma_nil)))))))) ma_nil))))))))
theorem bd48 (T : Txt w cA K mg fa) : BodyOk ⟨K, cA⟩ P w K mg base (ent fa fd) ⟨"_law_says", st48, N48, P48, fa 48, fd 48⟩ d__law_says := fun G cdv A outer s H E cl => by
  have tk : Takes (Ctx P w K mg base ⟨"_law_says", st48, N48, P48, fa 48, fd 48⟩ cdv A outer s H E) (WB E) := takes_of rfl rfl rfl rfl
  have ps := passes_of (X := Ctx P w K mg base ⟨"_law_says", st48, N48, P48, fa 48, fd 48⟩ cdv A outer s H E) rfl
  have hu := cl.room.units
  have hC : (⟨K, cA⟩ : Cfg).K = K := rfl
  have sc := sc48
  show PSs _ _ (tS _ _ (b__law_says G))
  delta b__law_says
  exact (ms_cons (m_if (mt_val (m_var (i := 1)) hC) (
ms_one (m_ret (m_cmp op_isM sim_isG (m_var (i := 0)) (m_bl)))) (
ms_nil)) (
ms_one (m_ret (m_cmp op_isM sim_isG (m_var (i := 0)) (m_bl)))))
theorem bd49 (T : Txt w cA K mg fa) : BodyOk ⟨K, cA⟩ P w K mg base (ent fa fd) ⟨"_law_is_word", st49, N49, P49, fa 49, fd 49⟩ d__law_is_word := fun G cdv A outer s H E cl => by
  have tk : Takes (Ctx P w K mg base ⟨"_law_is_word", st49, N49, P49, fa 49, fd 49⟩ cdv A outer s H E) (WB E) := takes_of rfl rfl rfl rfl
  have ps := passes_of (X := Ctx P w K mg base ⟨"_law_is_word", st49, N49, P49, fa 49, fd 49⟩ cdv A outer s H E) rfl
  have hu := cl.room.units
  have hC : (⟨K, cA⟩ : Cfg).K = K := rfl
  have sc := sc49
  show PSs _ _ (tS _ _ (b__law_is_word G))
  delta b__law_is_word
  exact (ms_one (m_ret (m_and (m_isi (c := "str") hC (m_var (i := 0)) T.n_isinstance T.n_str) (m_and (m_cmp (op_neM hu) sim_ne (m_var (i := 0)) (m_str)) (m_one (m_not (m_gc (m_bif (cr_any rfl) sim_allG T.n_any (ma_cons (m_lc (own := [("sign", 1)]) rfl sc.nd (mi_any hC (m_bty (call_listM rfl) sim_listA T.n_list (ma_cons (m_var (i := 0)) ma_nil))) (blkOk_by (by kernel_rfl)) (fun _ _ _ _ _ => mg_name (i := 1) sc.nd) (fun _ _ _ _ _ => mts_nil) (fun _ _ _ _ _ => m_cmp op_inM sim_in (m_var (i := 1)) (m_lst (ma_cons (m_str) (ma_cons (m_str) ma_nil))))) ma_nil)))))))))
theorem bd50 (T : Txt w cA K mg fa) : BodyOk ⟨K, cA⟩ P w K mg base (ent fa fd) ⟨"_law_is_form", st50, N50, P50, fa 50, fd 50⟩ d__law_is_form := fun G cdv A outer s H E cl => by
  have tk : Takes (Ctx P w K mg base ⟨"_law_is_form", st50, N50, P50, fa 50, fd 50⟩ cdv A outer s H E) (WB E) := takes_of rfl rfl rfl rfl
  have ps := passes_of (X := Ctx P w K mg base ⟨"_law_is_form", st50, N50, P50, fa 50, fd 50⟩ cdv A outer s H E) rfl
  have hu := cl.room.units
  have hC : (⟨K, cA⟩ : Cfg).K = K := rfl
  have sc := sc50
  show PSs _ _ (tS _ _ (b__law_is_form G))
  delta b__law_is_form
  exact (ms_cons (m_if (PW.pt (mw_or (mt_not (mt_val (m_isi (c := "tuple") hC (m_var (i := 0)) T.n_isinstance T.n_tuple) hC)) (mw_or (mt_cmp (op_neM hu) sim_ne (m_bif call_len sim_len T.n_len (ma_cons (m_var (i := 0)) ma_nil)) (m_int)) (mw_or (mt_not (mt_val (m_call (cl.call 37 _ rfl) T.g__law_is_int tk (ma_cons (m_ix hC (m_var (i := 0)) (m_int)) ma_nil)) hC)) (mw_or1 (mt_not (mt_val (m_isi (c := "tuple") hC (m_ix hC (m_var (i := 0)) (m_int)) T.n_isinstance T.n_tuple) hC))))))) (
ms_one (m_ret (m_bl))) (
ms_nil)) (
ms_cons (m_set (i := 2) sc.nd (m_str)) (
ms_cons (m_for (vs := [3]) ps rfl (mi_any hC (m_ix hC (m_var (i := 0)) (m_int))) (mg_name (i := 3) sc.nd) (
ms_cons (m_if (PW.pt (mw_or (mt_not (mt_val (m_isi (c := "tuple") hC (m_var (i := 3)) T.n_isinstance T.n_tuple) hC)) (mw_or (mt_cmp (op_neM hu) sim_ne (m_bif call_len sim_len T.n_len (ma_cons (m_var (i := 3)) ma_nil)) (m_int)) (mw_or (mt_not (mt_val (m_isi (c := "str") hC (m_ix hC (m_var (i := 3)) (m_int)) T.n_isinstance T.n_str) hC)) (mw_or1 (mt_not (mt_val (m_call (cl.call 37 _ rfl) T.g__law_is_int tk (ma_cons (m_ix hC (m_var (i := 3)) (m_int)) ma_nil)) hC))))))) (
ms_one (m_ret (m_bl))) (
ms_nil)) (
ms_cons (m_if (PW.pt (mw_or (mt_cmp op_leM sim_le (m_ix hC (m_var (i := 3)) (m_int)) (m_var (i := 2))) (mw_or (mt_inA hu hC (m_str) (m_ix hC (m_var (i := 3)) (m_int))) (mw_or (mt_notInA hu hC (m_ix hC (m_var (i := 3)) (m_int)) (m_var (i := 1))) (mw_or1 (mt_cmp (op_eqM hu) sim_eq (m_ix hC (m_var (i := 3)) (m_int)) (m_int))))))) (
ms_one (m_ret (m_bl))) (
ms_nil)) (
ms_one (m_set (i := 2) sc.nd (m_ix hC (m_var (i := 3)) (m_int))))))) (
ms_one (m_ret (m_bl))))))
theorem bd51 (T : Txt w cA K mg fa) : BodyOk ⟨K, cA⟩ P w K mg base (ent fa fd) ⟨"_law_is_formula", st51, N51, P51, fa 51, fd 51⟩ d__law_is_formula := fun G cdv A outer s H E cl => by
  have tk : Takes (Ctx P w K mg base ⟨"_law_is_formula", st51, N51, P51, fa 51, fd 51⟩ cdv A outer s H E) (WB E) := takes_of rfl rfl rfl rfl
  have ps := passes_of (X := Ctx P w K mg base ⟨"_law_is_formula", st51, N51, P51, fa 51, fd 51⟩ cdv A outer s H E) rfl
  have hu := cl.room.units
  have hC : (⟨K, cA⟩ : Cfg).K = K := rfl
  have sc := sc51
  show PSs _ _ (tS _ _ (b__law_is_formula G))
  delta b__law_is_formula
  exact (ms_cons (m_if (PW.pt (mw_or (mt_not (mt_val (m_isi (c := "tuple") hC (m_var (i := 0)) T.n_isinstance T.n_tuple) hC)) (mw_or (mt_cmp (op_eqM hu) sim_eq (m_var (i := 0)) (m_tup (ma_nil))) (mw_or1 (mt_not (mt_val (m_isi (c := "str") hC (m_ix hC (m_var (i := 0)) (m_int)) T.n_isinstance T.n_str) hC)))))) (
ms_one (m_ret (m_bl))) (
ms_nil)) (
ms_cons (m_if (mt_cmp op_inM sim_in (m_ix hC (m_var (i := 0)) (m_int)) (m_lst (ma_cons (m_str) (ma_cons (m_str) ma_nil)))) (
ms_cons (m_if (PW.pt (mw_or (mt_cmp (op_neM hu) sim_ne (m_bif call_len sim_len T.n_len (ma_cons (m_var (i := 0)) ma_nil)) (m_int)) (mw_or1 (mt_not (mt_val (m_isi (c := "tuple") hC (m_ix hC (m_var (i := 0)) (m_int)) T.n_isinstance T.n_tuple) hC))))) (
ms_one (m_ret (m_bl))) (
ms_nil)) (
ms_one (m_ret (m_gc (m_bif (cr_all rfl) sim_allG T.n_all (ma_cons (m_lc (own := [("part", 2)]) rfl sc.nd (mi_any hC (m_ix hC (m_var (i := 0)) (m_int))) (blkOk_by (by kernel_rfl)) (fun _ _ _ _ _ => mg_name (i := 2) sc.nd) (fun _ _ _ _ _ => mts_nil) (fun _ _ _ _ _ => m_call (cl.call 51 _ rfl) T.g__law_is_formula takes0 (ma_cons (m_var (i := 2)) (ma_cons (m_var (i := 1)) ma_nil)))) ma_nil)))))) (
ms_nil)) (
ms_cons (m_if (mt_cmp op_inM sim_in (m_ix hC (m_var (i := 0)) (m_int)) (m_lst (ma_cons (m_str) (ma_cons (m_str) ma_nil)))) (
ms_cons (m_if (PW.pt (mw_or (mt_cmp (op_neM hu) sim_ne (m_bif call_len sim_len T.n_len (ma_cons (m_var (i := 0)) ma_nil)) (m_int)) (mw_or (mt_not (mt_val (m_call (cl.call 49 _ rfl) T.g__law_is_word tk (ma_cons (m_ix hC (m_var (i := 0)) (m_int)) ma_nil)) hC)) (mw_or1 (mt_inA hu hC (m_ix hC (m_var (i := 0)) (m_int)) (m_var (i := 1))))))) (
ms_one (m_ret (m_bl))) (
ms_nil)) (
ms_one (m_ret (m_call (cl.call 51 _ rfl) T.g__law_is_formula tk (ma_cons (m_ix hC (m_var (i := 0)) (m_int)) (ma_cons (m_op op_addM sim_add (m_var (i := 1)) (m_tup (ma_cons (m_ix hC (m_var (i := 0)) (m_int)) ma_nil))) ma_nil)))))) (
ms_nil)) (
ms_cons (m_if (mt_cmp op_inM sim_in (m_ix hC (m_var (i := 0)) (m_int)) (m_lst (ma_cons (m_str) (ma_cons (m_str) ma_nil)))) (
ms_one (m_ret (m_and (m_cmp (op_eqM hu) sim_eq (m_bif call_len sim_len T.n_len (ma_cons (m_var (i := 0)) ma_nil)) (m_int)) (m_and (m_call (cl.call 37 _ rfl) T.g__law_is_int tk (ma_cons (m_ix hC (m_var (i := 0)) (m_int)) ma_nil)) (m_and (m_cmp op_geM sim_ge (m_ix hC (m_var (i := 0)) (m_int)) (m_int)) (m_one (m_call (cl.call 50 _ rfl) T.g__law_is_form tk (ma_cons (m_ix hC (m_var (i := 0)) (m_int)) (ma_cons (m_var (i := 1)) ma_nil))))))))) (
ms_nil)) (
ms_one (m_ret (m_and (m_cmp op_inM sim_in (m_ix hC (m_var (i := 0)) (m_int)) (m_lst (ma_cons (m_str) (ma_cons (m_str) ma_nil)))) (m_and (m_cmp (op_eqM hu) sim_eq (m_bif call_len sim_len T.n_len (ma_cons (m_var (i := 0)) ma_nil)) (m_int)) (m_one (m_call (cl.call 50 _ rfl) T.g__law_is_form tk (ma_cons (m_ix hC (m_var (i := 0)) (m_int)) (ma_cons (m_var (i := 1)) ma_nil))))))))))))
theorem bd52 (T : Txt w cA K mg fa) : BodyOk ⟨K, cA⟩ P w K mg base (ent fa fd) ⟨"_law_odd_data", st52, N52, P52, fa 52, fd 52⟩ d__law_odd_data := fun G cdv A outer s H E cl => by
  have tk : Takes (Ctx P w K mg base ⟨"_law_odd_data", st52, N52, P52, fa 52, fd 52⟩ cdv A outer s H E) (WB E) := takes_of rfl rfl rfl rfl
  have ps := passes_of (X := Ctx P w K mg base ⟨"_law_odd_data", st52, N52, P52, fa 52, fd 52⟩ cdv A outer s H E) rfl
  have hu := cl.room.units
  have hC : (⟨K, cA⟩ : Cfg).K = K := rfl
  have sc := sc52
  show PSs _ _ (tS _ _ (b__law_odd_data G))
  delta b__law_odd_data
  exact (ms_cons (m_set (i := 1) sc.nd (m_tup (ma_cons (m_int) (ma_cons (m_tup (ma_cons (m_tup (ma_cons (m_str) (ma_cons (m_int) ma_nil))) ma_nil)) ma_nil)))) (
ms_cons (m_set (i := 2) sc.nd (m_lst (ma_cons (m_tup (ma_nil)) (ma_cons (m_int) (ma_cons (m_str) (ma_cons (m_tup (ma_cons (m_str) ma_nil)) (ma_cons (m_tup (ma_cons (m_str) (ma_cons (m_tup (ma_nil)) (ma_cons (m_tup (ma_nil)) ma_nil)))) (ma_cons (m_tup (ma_cons (m_str) (ma_cons (m_var (i := 1)) (ma_cons (m_var (i := 1)) ma_nil)))) (ma_cons (m_tup (ma_cons (m_str) (ma_cons (m_tup (ma_cons (m_int) (ma_cons (m_tup (ma_nil)) ma_nil))) (ma_cons (m_int) ma_nil)))) ma_nil))))))))) (
ms_cons (m_set (i := 2) sc.nd (m_op op_addM sim_add (m_var (i := 2)) (m_lst (ma_cons (m_tup (ma_cons (m_str) (ma_cons (m_int) (ma_cons (m_var (i := 1)) ma_nil)))) (ma_cons (m_tup (ma_cons (m_str) (ma_cons (m_un un_neg sim_neg (m_int)) (ma_cons (m_var (i := 1)) ma_nil)))) (ma_cons (m_tup (ma_cons (m_str) (ma_cons (m_var (i := 1)) ma_nil))) (ma_cons (m_tup (ma_cons (m_str) (ma_cons (m_tup (ma_cons (m_int) (ma_cons (m_tup (ma_cons (m_tup (ma_cons (m_str) (ma_cons (m_int) ma_nil))) ma_nil)) ma_nil))) ma_nil))) ma_nil))))))) (
ms_cons (m_set (i := 2) sc.nd (m_op op_addM sim_add (m_var (i := 2)) (m_lst (ma_cons (m_tup (ma_cons (m_str) (ma_cons (m_tup (ma_cons (m_str) (ma_cons (m_var (i := 1)) ma_nil))) ma_nil))) (ma_cons (m_tup (ma_cons (m_str) (ma_cons (m_str) (ma_cons (m_tup (ma_cons (m_str) (ma_cons (m_var (i := 1)) ma_nil))) ma_nil)))) (ma_cons (m_tup (ma_cons (m_str) (ma_cons (m_int) (ma_cons (m_tup (ma_cons (m_str) (ma_cons (m_var (i := 1)) ma_nil))) ma_nil)))) ma_nil)))))) (
ms_cons (m_set (i := 2) sc.nd (m_op op_addM sim_add (m_var (i := 2)) (m_lst (ma_cons (m_tup (ma_cons (m_str) (ma_cons (m_str) (ma_cons (m_tup (ma_cons (m_str) (ma_cons (m_str) (ma_cons (m_tup (ma_cons (m_str) (ma_cons (m_var (i := 1)) ma_nil))) ma_nil)))) ma_nil)))) (ma_cons (m_tup (ma_cons (m_str) (ma_cons (m_tup (ma_cons (m_int) (ma_cons (m_tup (ma_cons (m_tup (ma_cons (m_str) (ma_cons (m_int) ma_nil))) ma_nil)) ma_nil))) ma_nil))) ma_nil))))) (
ms_cons (m_set (i := 2) sc.nd (m_op op_addM sim_add (m_var (i := 2)) (m_lst (ma_cons (m_tup (ma_cons (m_str) (ma_cons (m_tup (ma_cons (m_int) (ma_cons (m_tup (ma_cons (m_tup (ma_cons (m_str) (ma_cons (m_int) ma_nil))) (ma_cons (m_tup (ma_cons (m_str) (ma_cons (m_int) ma_nil))) ma_nil))) ma_nil))) ma_nil))) (ma_cons (m_tup (ma_cons (m_str) (ma_cons (m_str) ma_nil))) (ma_cons (m_tup (ma_cons (m_str) (ma_cons (m_tup (ma_nil)) ma_nil))) ma_nil)))))) (
ms_cons (m_set (i := 2) sc.nd (m_op op_addM sim_add (m_var (i := 2)) (m_lst (ma_cons (m_tup (ma_cons (m_str) (ma_cons (m_str) (ma_cons (m_tup (ma_cons (m_str) (ma_cons (m_var (i := 1)) ma_nil))) ma_nil)))) (ma_cons (m_tup (ma_cons (m_str) (ma_cons (m_str) (ma_cons (m_tup (ma_cons (m_str) (ma_cons (m_var (i := 1)) ma_nil))) ma_nil)))) (ma_cons (m_tup (ma_cons (m_str) (ma_cons (m_str) (ma_cons (m_tup (ma_cons (m_str) (ma_cons (m_var (i := 1)) ma_nil))) ma_nil)))) ma_nil)))))) (
ms_cons (m_ex (m_met (ty := .list) hC PySem.F.plainAttrs_list PySem.F.slot_list_append PySem.F.type_list_append mt_append sim_append (m_var (i := 2)) (ma_cons (m_tup (ma_cons (m_str) (ma_cons (m_tup (ma_cons (m_tup (ma_cons (m_str) (ma_cons (m_str) (ma_cons (m_tup (ma_cons (m_str) (ma_cons (m_tup (ma_cons (m_int) (ma_cons (m_tup (ma_cons (m_tup (ma_cons (m_str) (ma_cons (m_int) ma_nil))) ma_nil)) ma_nil))) ma_nil))) ma_nil)))) (ma_cons (m_tup (ma_cons (m_str) (ma_cons (m_str) (ma_cons (m_tup (ma_cons (m_str) (ma_cons (m_var (i := 1)) ma_nil))) ma_nil)))) ma_nil))) ma_nil))) ma_nil))) (
ms_one (m_ret (m_var (i := 2))))))))))))
theorem bd53 (T : Txt w cA K mg fa) : BodyOk ⟨K, cA⟩ P w K mg base (ent fa fd) ⟨"law", st53, N53, P53, fa 53, fd 53⟩ d_law := fun G cdv A outer s H E cl => by
  have tk : Takes (Ctx P w K mg base ⟨"law", st53, N53, P53, fa 53, fd 53⟩ cdv A outer s H E) (WB E) := takes_of rfl rfl rfl rfl
  have ps := passes_of (X := Ctx P w K mg base ⟨"law", st53, N53, P53, fa 53, fd 53⟩ cdv A outer s H E) rfl
  have hu := cl.room.units
  have hC : (⟨K, cA⟩ : Cfg).K = K := rfl
  have sc := sc53
  show PSs _ _ (tS _ _ (b_law G))
  delta b_law
  exact (ms_cons (m_set (i := 1) sc.nd (m_call (cl.call 20 _ rfl) T.g__law_start tk (ma_cons (m_var (i := 0)) ma_nil))) (
ms_cons (m_set (i := 2) sc.nd (m_call (cl.call 22 _ rfl) T.g__law_words tk (ma_cons (m_var (i := 1)) (ma_cons (m_int) ma_nil)))) (
ms_cons (m_set (i := 3) sc.nd (m_dic0)) (
ms_cons (m_for (vs := [4]) ps rfl (mi_any hC (m_var (i := 2))) (mg_name (i := 4) sc.nd) (
ms_one (m_putD hu (m_var (i := 3)) (m_var (i := 4)) (m_call (cl.call 23 _ rfl) T.g__law_var tk (ma_cons (m_var (i := 4)) ma_nil))))) (
ms_cons (m_for (vs := [5]) ps rfl (mi_range1 T.n_range (ma_cons (m_int) ma_nil)) (mg_name (i := 5) sc.nd) (
ms_cons (m_set (i := 6) sc.nd (m_call (cl.call 32 _ rfl) T.g__law_core tk (ma_cons (m_tup (ma_nil)) (ma_cons (m_call (cl.call 36 _ rfl) T.g__law_condition tk (ma_cons (m_var (i := 1)) (ma_cons (m_slice hC (m_var (i := 2)) (mo_none) (mo_some (m_int))) (ma_cons (m_int) ma_nil)))) (ma_cons (m_var (i := 3)) (ma_cons (m_lst (ma_cons (m_int) ma_nil)) ma_nil)))))) (
ms_cons (m_set (i := 7) sc.nd (m_call (cl.call 13 _ rfl) T.g_opposite tk (ma_cons (m_var (i := 6)) ma_nil))) (
ms_cons (m_if (PW.pt (mw_or (mt_not (mt_val (m_call (cl.call 38 _ rfl) T.g__law_same tk (ma_cons (m_var (i := 7)) (ma_cons (m_call (cl.call 29 _ rfl) T.g__law_opposite tk (ma_cons (m_var (i := 6)) ma_nil)) ma_nil))) hC)) (mw_or1 (mt_not (mt_val (m_call (cl.call 38 _ rfl) T.g__law_same tk (ma_cons (m_call (cl.call 17 _ rfl) T.g_open_names tk (ma_cons (m_var (i := 6)) ma_nil)) (ma_cons (m_call (cl.call 41 _ rfl) T.g__law_open_names tk (ma_cons (m_var (i := 6)) ma_nil)) ma_nil))) hC))))) (
ms_one (m_ret (m_bl))) (
ms_nil)) (
ms_cons (m_for (vs := [8]) ps rfl (mi_range1 T.n_range (ma_cons (m_int) ma_nil)) (mg_name (i := 8) sc.nd) (
ms_cons (m_set (i := 9) sc.nd (m_dic0)) (
ms_cons (m_for (vs := [4]) ps rfl (mi_any hC (m_var (i := 2))) (mg_name (i := 4) sc.nd) (
ms_one (m_putD hu (m_var (i := 9)) (m_var (i := 4)) (m_op op_sub sim_int2 (m_call (cl.call 21 _ rfl) T.g__law_draw tk (ma_cons (m_var (i := 1)) (ma_cons (m_int) ma_nil))) (m_int))))) (
ms_one (m_if (mt_cmp (op_eqM hu) sim_eq (m_call (cl.call 43 _ rfl) T.g__law_true tk (ma_cons (m_var (i := 6)) (ma_cons (m_var (i := 9)) ma_nil))) (m_call (cl.call 43 _ rfl) T.g__law_true tk (ma_cons (m_var (i := 7)) (ma_cons (m_var (i := 9)) ma_nil)))) (
ms_one (m_ret (m_bl))) (
ms_nil)))))) (
ms_cons (m_set (i := 10) sc.nd (m_dic0)) (
ms_cons (m_set (i := 11) sc.nd (m_lst (ma_nil))) (
ms_cons (m_for (vs := [4]) ps rfl (mi_any hC (m_call (cl.call 44 _ rfl) T.g__law_shuffled tk (ma_cons (m_var (i := 1)) (ma_cons (m_slice hC (m_var (i := 2)) (mo_none) (mo_some (m_int))) ma_nil)))) (mg_name (i := 4) sc.nd) (
ms_cons (m_putD hu (m_var (i := 10)) (m_var (i := 4)) (m_call (cl.call 24 _ rfl) T.g__law_form tk (ma_cons (m_op op_sub sim_int2 (m_call (cl.call 21 _ rfl) T.g__law_draw tk (ma_cons (m_var (i := 1)) (ma_cons (m_int) ma_nil))) (m_int)) (ma_cons (m_lc (own := [("y", 16)]) rfl sc.nd (mi_any hC (m_var (i := 2))) (blkOk_by (by kernel_rfl)) (fun _ _ _ _ _ => mg_name (i := 16) sc.nd) (fun _ _ _ _ _ => mts_nil) (fun _ _ _ _ _ => m_tup (ma_cons (m_var (i := 16)) (ma_cons (m_op op_sub sim_int2 (m_call (cl.call 21 _ rfl) T.g__law_draw takes0 (ma_cons (m_var (i := 1)) (ma_cons (m_int) ma_nil))) (m_int)) ma_nil)))) ma_nil)))) (
ms_one (m_ex (m_met (ty := .list) hC PySem.F.plainAttrs_list PySem.F.slot_list_append PySem.F.type_list_append mt_append sim_append (m_var (i := 11)) (ma_cons (m_tup (ma_cons (m_var (i := 4)) (ma_cons (m_ixA hu hC (m_var (i := 10)) (m_var (i := 4))) ma_nil))) ma_nil)))))) (
ms_cons (m_if (mt_not (mt_val (m_call (cl.call 38 _ rfl) T.g__law_same tk (ma_cons (m_call (cl.call 14 _ rfl) T.g_put tk (ma_cons (m_var (i := 6)) (ma_cons (m_bty call_tuple_of sim_tuple T.n_tuple (ma_cons (m_var (i := 11)) ma_nil)) ma_nil))) (ma_cons (m_call (cl.call 46 _ rfl) T.g__law_put_in tk (ma_cons (m_var (i := 6)) (ma_cons (m_var (i := 10)) ma_nil))) ma_nil))) hC)) (
ms_one (m_ret (m_bl))) (
ms_nil)) (
ms_cons (m_set (i := 12) sc.nd (m_tup (ma_cons (m_str) (ma_cons (m_str) (ma_cons (m_tup (ma_cons (m_str) (ma_cons (m_str) (ma_cons (m_var (i := 6)) ma_nil)))) ma_nil))))) (
ms_cons (m_set (i := 13) sc.nd (m_op op_addM sim_add (m_lst (ma_cons (m_var (i := 6)) (ma_cons (m_var (i := 12)) (ma_cons (m_tup (ma_cons (m_str) (ma_cons (m_ix hC (m_var (i := 2)) (m_int)) (ma_cons (m_var (i := 6)) ma_nil)))) (ma_cons (m_call (cl.call 13 _ rfl) T.g_opposite tk (ma_cons (m_var (i := 12)) ma_nil)) ma_nil))))) (m_lc (own := [("k", 8)]) rfl sc.nd (mi_range1 T.n_range (ma_cons (m_int) ma_nil)) (blkOk_by (by kernel_rfl)) (fun _ _ _ _ _ => mg_name (i := 8) sc.nd) (fun _ _ _ _ _ => mts_nil) (fun _ _ _ _ _ => m_call (cl.call 47 _ rfl) T.g__law_bent takes0 (ma_cons (m_var (i := 1)) (ma_cons (m_var (i := 12)) (ma_cons (m_int) ma_nil))))))) (
ms_one (m_for (vs := [14]) ps rfl (mi_any hC (m_var (i := 13))) (mg_name (i := 14) sc.nd) (
ms_one (m_for (vs := [15]) ps rfl (mi_any hC (m_lst (ma_cons (m_bty call_tuple_of sim_tuple T.n_tuple (ma_cons (m_var (i := 2)) ma_nil)) (ma_cons (m_bty call_tuple_of sim_tuple T.n_tuple (ma_cons (m_slice hC (m_var (i := 2)) (mo_some (m_int)) (mo_none)) ma_nil)) (ma_cons (m_op op_addM sim_add (m_bty call_tuple_of sim_tuple T.n_tuple (ma_cons (m_var (i := 2)) ma_nil)) (m_tup (ma_cons (m_str) ma_nil))) ma_nil))))) (mg_name (i := 15) sc.nd) (
ms_one (m_if (mt_not (mt_val (m_call (cl.call 48 _ rfl) T.g__law_says tk (ma_cons (m_call (cl.call 19 _ rfl) T.g_is_formula tk (ma_cons (m_var (i := 14)) (ma_cons (m_var (i := 15)) ma_nil))) (ma_cons (m_call (cl.call 51 _ rfl) T.g__law_is_formula tk (ma_cons (m_var (i := 14)) (ma_cons (m_var (i := 15)) ma_nil))) ma_nil))) hC)) (
ms_one (m_ret (m_bl))) (
ms_nil)))))))))))))))))) (
ms_cons (m_for (vs := [14]) ps rfl (mi_any hC (m_call (cl.call 52 _ rfl) T.g__law_odd_data tk (ma_cons (m_tup (ma_cons (m_str) ma_nil)) ma_nil))) (mg_name (i := 14) sc.nd) (
ms_one (m_if (mt_not (mt_val (m_call (cl.call 48 _ rfl) T.g__law_says tk (ma_cons (m_call (cl.call 19 _ rfl) T.g_is_formula tk (ma_cons (m_var (i := 14)) (ma_cons (m_tup (ma_cons (m_str) ma_nil)) ma_nil))) (ma_cons (m_call (cl.call 51 _ rfl) T.g__law_is_formula tk (ma_cons (m_var (i := 14)) (ma_cons (m_tup (ma_cons (m_str) ma_nil)) ma_nil))) ma_nil))) hC)) (
ms_one (m_ret (m_bl))) (
ms_nil)))) (
ms_one (m_ret (m_bl)))))))))
end
end K01
set_option maxRecDepth 100000
namespace K01
open Mi
/-! ### draws -/
/-- the state of the draws, the script's numbers at b -/
def sto (b : Nat) (s : Int × Int × Int) : MO := .lst [.ref b, .int s.1, .int s.2.1, .int s.2.2]
/-- the state stands at a, the script's numbers at b -/
structure Sta (M : Hm) (a b : Nat) (ns : List Int) : Prop where
  ne : a ≠ b
  st : ∃ s, M[a]? = some (sto b s)
  sc : M[b]? = some (.lst (ns.map MV.int))
theorem Sta.la {M : Hm} {a b : Nat} {ns : List Int} (s : Sta M a b ns) : a < M.length := by
  obtain ⟨_, ⟨u, h⟩, _⟩ := s
  exact (List.getElem?_eq_some_iff.mp h).1
theorem Sta.lb {M : Hm} {a b : Nat} {ns : List Int} (s : Sta M a b ns) : b < M.length := (List.getElem?_eq_some_iff.mp s.sc).1
theorem Sta.set {M : Hm} {a b : Nat} {ns : List Int} (s : Sta M a b ns) (u : Int × Int × Int) : Sta (M.set a (sto b u)) a b ns := by
  have hl := s.la
  refine ⟨s.ne, ⟨u, ?_⟩, ?_⟩
  · rw [List.getElem?_set_self hl]
  · rw [List.getElem?_set_ne s.ne]
    exact s.sc
theorem Sta.app {M G : Hm} {a b : Nat} {ns : List Int} (s : Sta M a b ns) : Sta (M ++ G) a b ns := by
  obtain ⟨ne, ⟨u, h⟩, h2⟩ := s
  exact ⟨ne, ⟨u, get_old h⟩, get_old h2⟩
theorem Sta.rf {M : Hm} {a b : Nat} {ns : List Int} (s : Sta M a b ns) (u : Int × Int × Int) : rfsO M.length (sto b u) = true := by
  unfold sto
  simp [s.lb]
theorem set_sto {M G : Hm} {a b : Nat} {ns : List Int} (s : Sta M a b ns) {o : MO} : (M ++ G).set a o = M.set a o ++ G := List.set_append_left _ _ s.la
theorem start_ok {n : Nat} {ns : List Int} {M : Hm} {Q : MV → Hm → Prop} {E : MX → Hm → Prop}
    (h : ∀ M' a b, Sta M' a b ns → Q (.ref a) M') : wp (run tab (n + 1) f__law_start [.rol (ns.map MV.int)] M) Q E := by
  refine w_run rfl rfl ?_
  simp [d__law_start, b__law_start]
  have e : gcQ M (M ++ [MO.lst (List.map MV.int ns), MO.lst [MV.ref M.length, MV.int 0, MV.int 0, MV.int 0]]) (MV.ref (M.length + 1)) Q = Q (MV.ref (M.length + 1)) (M ++ [MO.lst (List.map MV.int ns), MO.lst [MV.ref M.length, MV.int 0, MV.int 0, MV.int 0]]) := by
    unfold gcQ gcV
    rw [if_pos (okH_app _ _ _), if_neg (by simp)]
    simp
  rw [e]
  refine h _ _ M.length ⟨by omega, ⟨(0, 0, 0), ?_⟩, ?_⟩
  · rw [get_app]
    rfl
  · rw [get_app0]
    rfl
theorem draw_ok {n a b : Nat} {ns : List Int} {most : Int} {M : Hm} {Q : MV → Hm → Prop} {E : MX → Hm → Prop} (s : Sta M a b ns) (h0 : 0 < most) (hl : most.natAbs.log2 < 9000)
    (h : ∀ k u, 0 ≤ k → k < most → Q (.int k) (M.set a (sto b u))) : wp (run tab (n + 1) f__law_draw [.ref a, .int most] M) Q E := by
  obtain ⟨hne, ⟨⟨p, q, r⟩, hs⟩, hb⟩ := s
  unfold sto at hs
  have fin : ∀ (k p q r : Int), Q (.int (k % most)) (M.set a (.lst [.ref b, .int p, .int q, .int r])) := fun k p q r =>
    h _ (p, q, r) (Int.emod_nonneg _ (by omega)) (Int.emod_lt_of_pos _ h0)
  have c3 : ∀ i, cDiv i most = true := fun i => by simp [cDiv, h0, hl]
  have c4 := cDiv_of (j := 97) (by decide)
  have c5 := cDiv_of (j := 11) (by decide)
  have c6 : cPow 10 18 = true := by decide
  have hbA : ∀ (o : MO) (F : List MV → Prop) (F2 : List (MV × MV) → Prop), rdLD (M.set a o) b F F2 = F (ns.map MV.int) := fun o F F2 => rdLD_l (by rw [List.getElem?_set_ne hne]; exact hb) F F2
  refine w_run rfl rfl ?_
  simp [d__law_draw, b__law_draw, rdL_of hs, rdL_set hs, rdL_ne hne, rdL_of hb, hbA, c3, h0]
  refine ifB_p (fun _ => fin _ _ _ _) fun _ => ?_
  refine ifB_p (fun hn => ?_) fun _ => ?_
  · obtain ⟨c, hc⟩ := ix_mod (p := p) hn
    refine ⟨hn, ?_⟩
    simp [rdI_of hc, rdL_of hs, rdL_set hs, c3, c4, c5, c6, cMul_r, fin, h0, ifB_eq]
  · simp [rdL_of hs, rdL_set hs, c3, c4, c5, c6, cMul_r, fin, h0]
theorem log2_lt64 {k : Nat} (h : k < 18446744073709551616) : ((k : Nat) : Int).natAbs.log2 < 9000 := by
  rw [Int.natAbs_natCast]
  have := log2_few (k := 64) h (by decide)
  omega
theorem one_of_ok {n a b : Nat} {ns : List Int} {l : List MV} {o : MV} {M : Hm} {Q : MV → Hm → Prop} {E : MX → Hm → Prop} (s : Sta M a b ns) (ho : o = .tup l ∨ ∃ k, o = .ref k ∧ M[k]? = some (.lst l) ∧ k ≠ a) (h0 : 0 < l.length) (hl : l.length < 18446744073709551616)
    (h : ∀ d u, d ∈ l → Q d (M.set a (sto b u))) : wp (run tab (n + 2) f__law_one_of [.ref a, o] M) Q E := by
  have fin : ∀ (i : Nat) (u : Int × Int × Int), i < l.length → rdO l[i]? (fun d => Q d (M.set a (sto b u))) := fun i u hi => by
    rw [List.getElem?_eq_getElem hi]
    exact h _ u (List.getElem_mem hi)
  rcases ho with rfl | ⟨k, rfl, hk, hne⟩
  · refine w_run rfl rfl ?_
    simp [d__law_one_of, b__law_one_of]
    refine draw_ok s (by omega) (log2_lt64 hl) fun i u h1 h2 => ?_
    obtain ⟨j, rfl⟩ : ∃ j : Nat, i = j := ⟨_, (Int.toNat_of_nonneg h1).symm⟩
    simp [rdI_nat]
    exact fin j u (by omega)
  · refine w_run rfl rfl ?_
    simp [d__law_one_of, b__law_one_of, rdL_of hk]
    refine draw_ok s (by omega) (log2_lt64 hl) fun i u h1 h2 => ?_
    obtain ⟨j, rfl⟩ : ∃ j : Nat, i = j := ⟨_, (Int.toNat_of_nonneg h1).symm⟩
    have hk2 : (M.set a (sto b u))[k]? = some (.lst l) := by rw [List.getElem?_set_ne (Ne.symm hne)]; exact hk
    simp [rdLD_l hk2, rdI_nat]
    exact fin j u (by omega)
end K01
set_option maxRecDepth 100000
namespace K01
open Mi
/-! ### forms -/
theorem form_loop {c : Int} {o : MV} {l : Ps} {M : Hm} {ni : Ni} {Qs : O → Mi.Env → Hm → Prop} {Es : MX → Mi.Env → Hm → Prop} {m : Nat} (hm : m = l.length + 1) (hl : l.length ≤ SL) (hw : ∀ G, Wk ni (l.map pr) (M ++ G)) (hq : ∀ u v, Qs .nx [some (.int c), some o, some (.ref M.length), u, v] (M ++ [.dic (dS (sumsA l))])) :
    wpS (forGo ni (gT 2 (gsCons (gN 3) (gsCons (gN 4) gsNil))) (sPutA (eVar 2) (eVar 3) (eOp fAdd (eGet2 (eVar 2) (eVar 3) (eC (.int 0))) (eVar 4))) m 0 [some (.int c), some o, some (.ref M.length), none, none] (M ++ [.dic []])) Qs Es := by
  refine wS_forM (F := pr) (l := l) (fun q env M' => ∃ u v, env = [some (.int c), some o, some (.ref M.length), u, v] ∧ M' = M ++ [.dic (dS (sumsA q))]) ⟨_, _, rfl, rfl⟩ ?_ ?_ ?_ hm
  · rintro p env M' ⟨u, v, rfl, rfl⟩
    exact hw _
  · rintro q d r env M' he ⟨u, v, rfl, rfl⟩
    have hlen := len_sumsA q
    have hql : q.length < SL := by
      have := congrArg List.length he
      rw [List.length_append, List.length_cons] at this
      omega
    simp at hql
    simp [pr, getD_dS, isKey, putD_dS, len_dS]
    refine ⟨by omega, ?_⟩
    unfold sumsA
    rw [List.foldl_append]
    rfl
  · rintro env M' ⟨u, v, rfl, rfl⟩
    exact hq u v
theorem form_ok {n : Nat} {c : Int} {l : Ps} {o : MV} {M : Hm} {Q : MV → Hm → Prop} {E : MX → Hm → Prop} (ho : o = .tup (l.map pr) ∨ ∃ k, o = .ref k ∧ M[k]? = some (.lst (l.map pr))) (hl : l.length ≤ SL) (hk : (sumsA l).length < 64)
    (h : Q (fm c (nf l)) M) : wp (run tab (n + 1) f_form [.int c, o] M) Q E := by
  have sm := sms l
  have fin : ∀ (u v : Option MV) (Es : MX → Hm → Prop), wp (lcGo (nL (M.length + 1)) (gN 3) (cB (eOp fNe (eOp fIxA (eVar 2) (eVar 3)) (eC (.int 0)))) (eTup (aCons (eVar 3) (aCons (eOp fIxA (eVar 2) (eVar 3)) aNil)))
      [some (.int c), some o, some (.ref M.length), none, v] ((sortT ((sumsA l).map (·.1))).length + 1) 0 [] (M ++ [.dic (dS (sumsA l)), .lst ((sortT ((sumsA l).map (·.1))).map MV.str)])) (fun a M' => a = (nf l).map pr ∧ M' = (M ++ [.dic (dS (sumsA l)), .lst ((sortT ((sumsA l).map (·.1))).map MV.str)])) Es := by
    intro u v Es
    refine w_lcFm (F := MV.str) (l := sortT ((sumsA l).map (·.1))) (fun x => (if coef l x = 0 then none else some (x, coef l x)).map pr) (wk_L (by rw [get_app]; rfl)) (by rw [len_sortT, List.length_map]; have := len_sumsA l; omega) ?_ ?_
    · intro x hx
      have hg : getD (dS (sumsA l)) (.str x) = some (.int (coef l x)) := by
        rw [mem_sortT] at hx
        obtain ⟨p, hp, rfl⟩ := List.mem_map.mp hx
        rw [getD_dS, getA_of sm.nd hp, sm.val p hp]
        rfl
      simp [hg]
      refine ifB_np (fun hz => ?_) fun hz => ?_
      · simp [hz, pr]
      · simpa using hz
    · refine ⟨?_, rfl⟩
      unfold nf
      rw [List.map_filterMap]
  refine w_run rfl rfl ?_
  rcases ho with rfl | ⟨k, rfl, hk2⟩
  · simp [d_form, b_form]
    refine form_loop (by simp) hl (fun G => wk_T) fun u v => ?_
    simp [keys_dS, hk, wipeE]
    refine wp_mono (fin u v _) (fun a M' ⟨h1, h2⟩ => ?_) fun _ _ z => z
    subst h1
    subst h2
    simp
    exact h
  · simp [d_form, b_form, rdL_old hk2]
    refine form_loop (by simp) hl (fun G => wk_L (get_old hk2)) fun u v => ?_
    simp [keys_dS, hk, wipeE]
    refine wp_mono (fin u v _) (fun a M' ⟨h1, h2⟩ => ?_) fun _ _ z => z
    subst h1
    subst h2
    simp
    exact h
theorem law_form_ok {n : Nat} {c : Int} {l : Ps} {o : MV} {M : Hm} {Q : MV → Hm → Prop} {E : MX → Hm → Prop} (ho : o = .tup (l.map pr) ∨ ∃ k, o = .ref k ∧ M[k]? = some (.lst (l.map pr))) (hl : l.length ≤ SL) (hk : (sumsA l).length < 64)
    (h : Q (fm c (nf l)) M) : wp (run tab (n + 1) f__law_form [.int c, o] M) Q E := by
  have sm := sms l
  have fin : ∀ (u v : Option MV) (Es : MX → Hm → Prop), wp (lcGo (nL (M.length + 1)) (gN 3) (cB (eOp fNe (eOp fIxA (eVar 2) (eVar 3)) (eC (.int 0)))) (eTup (aCons (eVar 3) (aCons (eOp fIxA (eVar 2) (eVar 3)) aNil)))
      [some (.int c), some o, some (.ref M.length), none, v] ((sortT ((sumsA l).map (·.1))).length + 1) 0 [] (M ++ [.dic (dS (sumsA l)), .lst ((sortT ((sumsA l).map (·.1))).map MV.str)])) (fun a M' => a = (nf l).map pr ∧ M' = (M ++ [.dic (dS (sumsA l)), .lst ((sortT ((sumsA l).map (·.1))).map MV.str)])) Es := by
    intro u v Es
    refine w_lcFm (F := MV.str) (l := sortT ((sumsA l).map (·.1))) (fun x => (if coef l x = 0 then none else some (x, coef l x)).map pr) (wk_L (by rw [get_app]; rfl)) (by rw [len_sortT, List.length_map]; have := len_sumsA l; omega) ?_ ?_
    · intro x hx
      have hg : getD (dS (sumsA l)) (.str x) = some (.int (coef l x)) := by
        rw [mem_sortT] at hx
        obtain ⟨p, hp, rfl⟩ := List.mem_map.mp hx
        rw [getD_dS, getA_of sm.nd hp, sm.val p hp]
        rfl
      simp [hg]
      refine ifB_np (fun hz => ?_) fun hz => ?_
      · simp [hz, pr]
      · simpa using hz
    · refine ⟨?_, rfl⟩
      unfold nf
      rw [List.map_filterMap]
  refine w_run rfl rfl ?_
  rcases ho with rfl | ⟨k, rfl, hk2⟩
  · simp [d__law_form, b__law_form]
    refine form_loop (by simp) hl (fun G => wk_T) fun u v => ?_
    simp [keys_dS, hk, wipeE]
    refine wp_mono (fin u v _) (fun a M' ⟨h1, h2⟩ => ?_) fun _ _ z => z
    subst h1
    subst h2
    simp
    exact h
  · simp [d__law_form, b__law_form, rdL_old hk2]
    refine form_loop (by simp) hl (fun G => wk_L (get_old hk2)) fun u v => ?_
    simp [keys_dS, hk, wipeE]
    refine wp_mono (fin u v _) (fun a M' ⟨h1, h2⟩ => ?_) fun _ _ z => z
    subst h1
    subst h2
    simp
    exact h
theorem coef_zero {l : Ps} : ∀ x, coef [] x = coef (l.map fun p => (p.1, 0 * p.2)) x := fun x => by rw [coef_map]; simp [coef]
theorem cMul_sm {k c : Int} (h : k.natAbs < 18446744073709551616) : cMul k c = true := cMul_l h
theorem times_ok {n : Nat} {k c : Int} {l : Ps} {M : Hm} {Q : MV → Hm → Prop} {E : MX → Hm → Prop} (hk : k.natAbs < 18446744073709551616) (hc : Can l) (hl : l.length ≤ SL)
    (h : Q (fm (k * c) (nf (l.map fun p => (p.1, k * p.2)))) M) : wp (run tab (n + 1) f_times [.int k, fm c l] M) Q E := by
  refine w_run rfl rfl ?_
  simp [d_times, b_times, fm]
  refine ifB_p (fun h0 => ?_) fun h0 => ?_
  · subst h0
    rw [nf_eq Can.nil coef_zero] at h
    simpa [fm, c_ZERO] using h
  · rw [nf_of (hc.map h0)] at h
    simp [cMul_sm hk, wipeE]
    refine w_lcMm (F := pr) (l := l) (fun p => pr (p.1, k * p.2)) wk_T hl ?_ ?_
    · intro p hp
      simp [pr, cMul_sm hk]
    · have e : l.map (fun p => pr (p.1, k * p.2)) = (l.map fun p => (p.1, k * p.2)).map pr := by rw [List.map_map]; rfl
      rw [e]
      simpa [fm, -List.map_map] using h
theorem plus_ok {n : Nat} {c c' : Int} {l l' : Ps} {M : Hm} {Q : MV → Hm → Prop} {E : MX → Hm → Prop} (hc : Can l) (hl : l.length + l'.length ≤ 1000000) (hk : (sumsA (l ++ l')).length < 64)
    (h : Q (fm (c + c') (nf (l ++ l'))) M) : wp (run tab (n + 2) f_plus [fm c l, fm c' l'] M) Q E := by
  refine w_run rfl rfl ?_
  simp [d_plus, b_plus, fm]
  cases l' with
  | nil =>
    rw [List.append_nil, nf_of hc] at h
    simpa [fm] using h
  | cons p l' =>
    simp
    simp at hl
    refine ⟨by omega, ?_⟩
    refine form_ok (l := l ++ p :: l') (.inl (by simp)) (by simp; omega) hk ?_
    simpa using h
theorem law_sum_ok {n : Nat} {ps : List (Int × Int × Ps)} {k : Nat} {M : Hm} {Q : MV → Hm → Prop} {E : MX → Hm → Prop} (hk : M[k]? = some (.lst (ps.map fun q => .tup [.int q.1, fm q.2.1 q.2.2])))
    (hs : ∀ q ∈ ps, q.1.natAbs < 18446744073709551616) (hl : (ps.flatMap fun q => q.2.2.map fun p => (p.1, q.1 * p.2)).length ≤ 1000000) (h64 : (sumsA (ps.flatMap fun q => q.2.2.map fun p => (p.1, q.1 * p.2))).length < 64)
    (h : Q (fm (ps.foldl (fun c q => c + q.1 * q.2.1) 0) (nf (ps.flatMap fun q => q.2.2.map fun p => (p.1, q.1 * p.2)))) M) : wp (run tab (n + 2) f__law_sum [.ref k] M) Q E := by
  refine w_run rfl rfl ?_
  simp [d__law_sum, b__law_sum, rdL_old hk]
  refine wS_forM (F := fun q : Int × Int × Ps => MV.tup [.int q.1, fm q.2.1 q.2.2]) (l := ps) (fun qs env M' => ∃ u1 u2 u3 u4, env = [some (.ref k), some (.int (qs.foldl (fun c q => c + q.1 * q.2.1) 0)), some (.ref M.length), u1, u2, u3, u4] ∧ M' = M ++ [.lst ((qs.flatMap fun q => q.2.2.map fun p => (p.1, q.1 * p.2)).map pr)])
    ⟨_, _, _, _, rfl, rfl⟩ ?_ ?_ ?_ (by simp)
  · rintro p env M' ⟨u1, u2, u3, u4, rfl, rfl⟩
    exact wk_L (get_old hk)
  · rintro qs q r env M' he ⟨u1, u2, u3, u4, rfl, rfl⟩
    have hq := hs q (by rw [he]; simp)
    have hlq : (qs.flatMap fun q => q.2.2.map fun p => (p.1, q.1 * p.2)).length + q.2.2.length ≤ 1000000 := by
      rw [he, List.flatMap_append, List.flatMap_cons, List.length_append, List.length_append, List.length_map] at hl
      omega
    simp [fm, cMul_sm hq]
    refine wS_forM (F := pr) (l := q.2.2) (fun p env M' => ∃ u3 u4, env = [some (.ref k), some (.int (qs.foldl (fun c q => c + q.1 * q.2.1) 0 + q.1 * q.2.1)), some (.ref M.length), some (.int q.1), some (fm q.2.1 q.2.2), u3, u4] ∧
      M' = M ++ [.lst (((qs.flatMap fun q => q.2.2.map fun p => (p.1, q.1 * p.2)) ++ p.map fun p => (p.1, q.1 * p.2)).map pr)]) ⟨u3, u4, by simp [fm], by simp⟩ ?_ ?_ ?_ (by simp)
    · rintro p env M' ⟨u3, u4, rfl, rfl⟩
      exact wk_T
    · rintro p d r' env M' he' ⟨u3, u4, rfl, rfl⟩
      have hp : p.length < q.2.2.length := by
        have := congrArg List.length he'
        rw [List.length_append, List.length_cons] at this
        omega
      simp [pr, cMul_sm hq]
      simp [List.length_flatMap] at hlq
      omega
    · rintro env M' ⟨u3, u4, rfl, rfl⟩
      refine ⟨⟨_, _, _, _, rfl⟩, ?_⟩
      simp
  · rintro env M' ⟨u1, u2, u3, u4, rfl, rfl⟩
    simp
    refine law_form_ok (.inr ⟨_, rfl, by rw [get_app0]; rfl⟩) (by simp at hl ⊢; omega) h64 ?_
    simpa using h
/-! ### below, more -/
def neg (l : Ps) : Ps := l.map fun p => (p.1, -1 * p.2)
theorem neg_can {l : Ps} (h : Can l) : Can (neg l) := h.map (by decide)
theorem sums_le {l : Ps} (h : l.length < 64) : (sumsA l).length < 64 := Nat.lt_of_le_of_lt (len_sumsA l) h
theorem below_ok {n : Nat} {c : Int} {l : Ps} {M : Hm} {Q : MV → Hm → Prop} {E : MX → Hm → Prop} (hc : Can l) (hl : l.length < 64)
    (h : Q (fm (-c - 1) (neg l)) M) : wp (run tab (n + 3) f_below [fm c l] M) Q E := by
  refine w_run rfl rfl ?_
  simp [d_below, b_below]
  refine times_ok (by decide) hc (by simp; omega) ?_
  have e : nf (l.map fun p => (p.1, -1 * p.2)) = neg l := nf_of (neg_can hc)
  rw [e]
  have e2 : c_MINUS_ONE = fm (-1) [] := rfl
  rw [e2]
  refine plus_ok (neg_can hc) (by simp [neg]; omega) (by rw [List.append_nil]; exact sums_le (by simpa [neg] using hl)) ?_
  rw [List.append_nil, nf_of (neg_can hc)]
  have e3 : -1 * c + -1 = -c - 1 := by omega
  rw [e3]
  simpa using h
theorem law_below_ok {n : Nat} {c : Int} {l : Ps} {M : Hm} {Q : MV → Hm → Prop} {E : MX → Hm → Prop} (hc : Can l) (hl : l.length < 64)
    (h : Q (fm (-c - 1) (neg l)) M) : wp (run tab (n + 3) f__law_below [fm c l] M) Q E := by
  refine w_run rfl rfl ?_
  simp [d__law_below, b__law_below]
  have e0 : (MV.tup [.int 1, .tup []]) = fm 1 [] := rfl
  refine law_sum_ok (ps := [(-1, c, l), (-1, 1, [])]) (by rw [get_app0]; simp [e0]) (by simp) (by simp; omega) (sums_le (by simpa using hl)) ?_
  have e : nf ([((-1 : Int), c, l), (-1, 1, [])].flatMap fun q => q.2.2.map fun p => (p.1, q.1 * p.2)) = neg l := by
    simp only [List.flatMap_cons, List.flatMap_nil, List.map_nil, List.append_nil]
    exact nf_of (neg_can hc)
  rw [e]
  have e3 : [((-1 : Int), c, l), (-1, 1, [])].foldl (fun c q => c + q.1 * q.2.1) 0 = -c - 1 := by
    simp only [List.foldl_cons, List.foldl_nil]
    omega
  rw [e3]
  simpa using h
theorem law_more_ok {n : Nat} {c k : Int} {l : Ps} {M : Hm} {Q : MV → Hm → Prop} {E : MX → Hm → Prop}
    (h : Q (fm (c + k) l) M) : wp (run tab (n + 1) f__law_more [fm c l, .int k] M) Q E := by
  refine w_run rfl rfl ?_
  simpa [d__law_more, b__law_more, fm] using h
theorem least_ok {n : Nat} {f : MV} {M : Hm} {Q : MV → Hm → Prop} {E : MX → Hm → Prop} (hf : Pu f)
    (h : Q (.tup [.str [108, 101, 97, 115, 116], f]) M) : wp (run tab (n + 1) f_least [f] M) Q E := by
  refine w_run rfl rfl ?_
  simpa [d_least, b_least] using h
theorem unlike_ok {n : Nat} {c : Int} {l : Ps} {M : Hm} {Q : MV → Hm → Prop} {E : MX → Hm → Prop} (hc : Can l) (hl : l.length < 64)
    (h : Q (.tup [.str [111, 114], .tup [.tup [.str [108, 101, 97, 115, 116], fm (c - 1) l], .tup [.str [108, 101, 97, 115, 116], fm (-c - 1) (neg l)]]]) M) : wp (run tab (n + 4) f_unlike [fm c l] M) Q E := by
  refine w_run rfl rfl ?_
  have e2 : c_MINUS_ONE = fm (-1) [] := rfl
  simp [d_unlike, b_unlike, e2]
  refine plus_ok hc (by simp; omega) (by rw [List.append_nil]; exact sums_le hl) ?_
  rw [List.append_nil, nf_of hc]
  refine least_ok pu_fm ?_
  refine below_ok hc hl ?_
  refine least_ok pu_fm ?_
  simpa [← Int.sub_eq_add_neg] using h
end K01
set_option maxRecDepth 100000
namespace K01
open Mi
/-! ### joined, opposite -/
theorem joined_ok {n : Nat} {k : Tx} {l : List MV} {o : MV} {M : Hm} {Q : MV → Hm → Prop} {E : MX → Hm → Prop} (ho : o = .tup l ∨ ∃ j, o = .ref j ∧ M[j]? = some (.lst l)) (hl : mszL l ≤ 1000000)
    (hp : ∀ p ∈ l, ∃ k' x r, p = .tup (.str k' :: x :: r) ∧ Pu p ∧ (k' = k → ∃ m, x = .tup m ∧ r = [])) (h : Q (joinP k l) M) : wp (run tab (n + 1) f_joined [.str k, o] M) Q E := by
  have loop : ∀ (ni : Ni) (Qs : O → Mi.Env → Hm → Prop) (Es : MX → Mi.Env → Hm → Prop), (∀ G, Wk ni l (M ++ G)) → (∀ u, Qs .nx [some (.str k), some o, some (.ref M.length), u] (M ++ [.lst (flatP k l)])) →
      wpS (forGo ni (gN 3) (sIf (cB (eOp fEq (eOp fIx (eVar 3) (eC (.int 0))) (eVar 0))) (sEx (eMet .list fExtend (eVar 2) (aCons (eOp fIx (eVar 3) (eC (.int 1))) aNil))) (sEx (eMet .list fAppend (eVar 2) (aCons (eVar 3) aNil)))) (l.length + 1) 0 [some (.str k), some o, some (.ref M.length), none] (M ++ [.lst []])) Qs Es := by
    intro ni Qs Es hw hq
    refine wS_forP (fun p env M' => ∃ u, env = [some (.str k), some o, some (.ref M.length), u] ∧ M' = M ++ [.lst (flatP k p)]) ⟨_, rfl, rfl⟩ ?_ ?_ ?_
    · rintro p env M' ⟨u, rfl, rfl⟩
      exact hw _
    · rintro p d r env M' he ⟨u, rfl, rfl⟩
      obtain ⟨k', x, r', rfl, hpu, hx⟩ := hp d (by rw [he]; simp)
      have hlen : (flatP k p).length + msz (.tup (.str k' :: x :: r')) ≤ 1000000 := by
        have h1 := mszL_len (flatP k p)
        have h2 := flatP_msz k p
        rw [he, mszL_app, mszL_cons] at hl
        omega
      have e1 : flatP k (p ++ [.tup (.str k' :: x :: r')]) = flatP k p ++ flatP k [.tup (.str k' :: x :: r')] := flatP_app _ _ _
      rw [flatP_one] at e1
      simp
      refine ifB_p (fun hk => ?_) fun hk => ?_
      · obtain ⟨m, rfl, rfl⟩ := hx hk
        rw [show headM (.tup [.str k', .tup m]) = k' from rfl, if_pos hk] at e1
        have := mszL_len m
        simp at hlen
        simp [e1, partsM]
        omega
      · rw [show headM (.tup (.str k' :: x :: r')) = k' from rfl, if_neg hk] at e1
        simp at hlen
        simp [e1]
        omega
    · rintro env M' ⟨u, rfl, rfl⟩
      exact hq u
  have hpu : ∀ j, rfsL j (flatP k l) = true := fun j => by
    refine Pu.rfL (fun d hd => ?_) j
    unfold flatP at hd
    obtain ⟨q, hq, hd⟩ := List.mem_flatMap.mp hd
    obtain ⟨k', x, r', rfl, hpu, hx⟩ := hp q hq
    split at hd
    · rename_i he
      have he : k' = k := he
      obtain ⟨m, rfl, rfl⟩ := hx he
      have hd : d ∈ m := hd
      simp at hpu
      exact hpu.of d hd
    · have : d = .tup (.str k' :: x :: r') := by simpa using hd
      rw [this]
      exact hpu
  refine w_run rfl rfl ?_
  rcases ho with rfl | ⟨j, rfl, hj⟩
  · simp [d_joined, b_joined]
    refine loop _ _ _ (fun G => wk_T) fun u => ?_
    simp [hpu]
    exact h
  · simp [d_joined, b_joined, rdL_old hj]
    refine loop _ _ _ (fun G => wk_L (get_old hj)) fun u => ?_
    simp [hpu]
    exact h
theorem law_joined_ok {n : Nat} {k : Tx} {l : List MV} {o : MV} {M : Hm} {Q : MV → Hm → Prop} {E : MX → Hm → Prop} (ho : o = .tup l ∨ ∃ j, o = .ref j ∧ M[j]? = some (.lst l)) (hl : mszL l ≤ 1000000)
    (hp : ∀ p ∈ l, ∃ k' x r, p = .tup (.str k' :: x :: r) ∧ Pu p ∧ (k' = k → ∃ m, x = .tup m ∧ r = [])) (h : Q (joinP k l) M) : wp (run tab (n + 1) f__law_joined [.str k, o] M) Q E := by
  have loop : ∀ (ni : Ni) (Qs : O → Mi.Env → Hm → Prop) (Es : MX → Mi.Env → Hm → Prop), Wk ni l M → (∀ u, Qs .nx [some (.str k), some o, some (.tup (flatP k l)), u] M) →
      wpS (forGo ni (gN 3) (sIf (cB (eOp fEq (eOp fIx (eVar 3) (eC (.int 0))) (eVar 0))) (sSet 2 (eOp fAdd (eVar 2) (eOp fIx (eVar 3) (eC (.int 1))))) (sSet 2 (eOp fAdd (eVar 2) (eTup (aCons (eVar 3) aNil))))) (l.length + 1) 0 [some (.str k), some o, some (.tup []), none] M) Qs Es := by
    intro ni Qs Es hw hq
    refine wS_forP (fun p env M' => ∃ u, env = [some (.str k), some o, some (.tup (flatP k p)), u] ∧ M' = M) ⟨_, rfl, rfl⟩ ?_ ?_ ?_
    · rintro p env M' ⟨u, rfl, rfl⟩
      exact hw
    · rintro p d r env M' he ⟨u, rfl, rfl⟩
      obtain ⟨k', x, r', rfl, hpu, hx⟩ := hp d (by rw [he]; simp)
      have hlen : (flatP k p).length + msz (.tup (.str k' :: x :: r')) ≤ 1000000 := by
        have h1 := mszL_len (flatP k p)
        have h2 := flatP_msz k p
        rw [he, mszL_app, mszL_cons] at hl
        omega
      have e1 : flatP k (p ++ [.tup (.str k' :: x :: r')]) = flatP k p ++ flatP k [.tup (.str k' :: x :: r')] := flatP_app _ _ _
      rw [flatP_one] at e1
      simp
      refine ifB_p (fun hk => ?_) fun hk => ?_
      · obtain ⟨m, rfl, rfl⟩ := hx hk
        rw [show headM (.tup [.str k', .tup m]) = k' from rfl, if_pos hk] at e1
        have := mszL_len m
        simp at hlen
        simp [e1, partsM]
        omega
      · rw [show headM (.tup (.str k' :: x :: r')) = k' from rfl, if_neg hk] at e1
        simp at hlen
        simp [e1]
        omega
    · rintro env M' ⟨u, rfl, rfl⟩
      exact hq u
  refine w_run rfl rfl ?_
  rcases ho with rfl | ⟨j, rfl, hj⟩
  · simp [d__law_joined, b__law_joined]
    refine loop _ _ _ wk_T fun u => ?_
    simp
    exact h
  · simp [d__law_joined, b__law_joined, rdL_of hj]
    refine loop _ _ _ (wk_L hj) fun u => ?_
    simp
    exact h
theorem shape_of {b n : Nat} {l : List MV} {k : Tx} (hk : k = s_and ∨ k = s_or) (h : ∀ p ∈ l, Fm b n p) : ∀ p ∈ l, ∃ k' x r, p = .tup (.str k' :: x :: r) ∧ Pu p ∧ (k' = k → ∃ m, x = .tup m ∧ r = []) := fun p hp => by
  obtain ⟨k', x, r, e, hpu, hx⟩ := (h p hp).shape
  exact ⟨k', x, r, e, hpu, hx k hk⟩
theorem opposite_ok {b : Nat} : ∀ (m : Nat) (F : MV), Fm b m F → ∀ {n : Nat} {M : Hm} {Q : MV → Hm → Prop} {E : MX → Hm → Prop}, msz F ≤ 100000 → Q (opp m F) M → wp (run tab (n + m + 4) f_opposite [F] M) Q E := by
  intro m
  induction m with
  | zero => intro F h; cases h
  | succ m ih =>
    intro F hF n M Q E hs h
    have hpu := (opp_fm hF).pu
    have e0 : n + (m + 1) + 4 = (n + m + 4) + 1 := by omega
    rw [e0]
    refine w_run rfl rfl ?_
    cases hF with
    | @least _ c l hc =>
      simp only [opp, if_true, belowM_fm] at h
      simp [d_opposite, b_opposite]
      have e1 : n + m + 4 = (n + m + 1) + 3 := by omega
      rw [e1]
      refine below_ok hc.can (by have := hc.len; omega) ?_
      refine least_ok pu_fm ?_
      simpa [neg] using h
    | @same _ c l hc =>
      have e : opp (m + 1) (.tup [.str s_same, fm c l]) = .tup [.str s_or, .tup [.tup [.str s_least, fm (c - 1) l], .tup [.str s_least, fm (-c - 1) (neg l)]]] := by
        simp only [opp]
        rw [if_neg (by decide), if_pos trivial, belowM_fm, lessM_fm]
        rfl
      rw [e] at h
      simp [d_opposite, b_opposite]
      refine unlike_ok hc.can (by have := hc.len; omega) ?_
      simpa using h
    | @rest _ k d c l hk h1 h2 hc =>
      simp only [opp] at h
      rw [if_pos hk] at h
      have hcut : ∀ x y z : MV, cut [x, y, z] (some 1) none = [y, z] := fun x y z => cut_from [x, y, z] 1
      rcases hk with rfl | rfl
      · simp [d_opposite, b_opposite, c_RESTS, d_OTHERS_, List.lookup, hcut]
        simpa [oth] using h
      · simp [d_opposite, b_opposite, c_RESTS, d_OTHERS_, List.lookup, hcut]
        simpa [oth] using h
    | @join _ k l hk hl =>
      rw [opp_join hk] at h hpu
      have hms : mszL l ≤ 100000 := by simp at hs; omega
      have hm3 : mszL (l.map (opp m)) ≤ 1000000 := by
        have := mszL_map (f := opp m) (c := 3) fun p hp => opp_msz (hl p hp)
        omega
      have hlen := mszL_len l
      have hsh := shape_of (oth_join hk) (l := l.map (opp m)) fun p hp => by
        obtain ⟨q, hq, rfl⟩ := List.mem_map.mp hp
        exact opp_fm (hl q hq)
      have fin : ∀ (M : Hm) (Ql : List MV → Hm → Prop) (Es : MX → Hm → Prop), Ql (l.map (opp m)) M → wp (lcGo (nT l) (gN 2) cYes (eCall (run tab (n + m + 4)) f_opposite (aCons (eVar 2) aNil)) [some (.tup [.str k, .tup l]), some (.str k), none] (l.length + 1) 0 [] M) Ql Es := fun M Ql Es hq => by
        refine w_lcM (opp m) wk_T (by rw [SL_eq]; omega) (fun p hp => ?_) hq
        simp
        refine ih p (hl p hp) ?_ ⟨rfl, rfl⟩
        have := mszL_mem hp
        omega
      rcases hk with rfl | rfl
      · have eo : oth s_and = s_or := rfl
        rw [eo] at h hpu hsh
        simp [d_opposite, b_opposite, c_RESTS, c_TURNS, d_OTHERS_, List.lookup, wipeE]
        refine fin _ _ _ ?_
        refine joined_ok (.inr ⟨_, rfl, by rw [get_app0]; rfl⟩) hm3 hsh ?_
        simp [hpu.rf]
        exact h
      · have eo : oth s_or = s_and := rfl
        rw [eo] at h hpu hsh
        simp [d_opposite, b_opposite, c_RESTS, c_TURNS, d_OTHERS_, List.lookup, wipeE]
        refine fin _ _ _ ?_
        refine joined_ok (.inr ⟨_, rfl, by rw [get_app0]; rfl⟩) hm3 hsh ?_
        simp [hpu.rf]
        exact h
    | @turn _ k x p hk hp =>
      have hn : ¬ (k = s_div ∨ k = s_spl) := by rcases hk with rfl | rfl <;> decide
      simp only [opp] at h hpu
      rw [if_neg hn] at h hpu
      have hms : msz p ≤ 100000 := by simp at hs; omega
      rcases hk with rfl | rfl
      · simp [d_opposite, b_opposite, c_RESTS, c_TURNS, d_OTHERS_, List.lookup]
        refine ih p hp hms ?_
        simp at hpu
        simpa [hpu.rf, oth] using h
      · simp [d_opposite, b_opposite, c_RESTS, c_TURNS, d_OTHERS_, List.lookup]
        refine ih p hp hms ?_
        simp at hpu
        simpa [hpu.rf, oth] using h
theorem law_opposite_ok {b : Nat} : ∀ (m : Nat) (F : MV), Fm b m F → ∀ {n : Nat} {M : Hm} {Q : MV → Hm → Prop} {E : MX → Hm → Prop}, msz F ≤ 100000 → Q (opp m F) M → wp (run tab (n + m + 4) f__law_opposite [F] M) Q E := by
  intro m
  induction m with
  | zero => intro F h; cases h
  | succ m ih =>
    intro F hF n M Q E hs h
    have hpu := (opp_fm hF).pu
    have e0 : n + (m + 1) + 4 = (n + m + 4) + 1 := by omega
    rw [e0]
    refine w_run rfl rfl ?_
    cases hF with
    | @least _ c l hc =>
      simp only [opp, if_true, belowM_fm] at h
      simp [d__law_opposite, b__law_opposite]
      have e1 : n + m + 4 = (n + m + 1) + 3 := by omega
      rw [e1]
      refine law_below_ok hc.can (by have := hc.len; omega) ?_
      simpa [neg] using h
    | @same _ c l hc =>
      have e : opp (m + 1) (.tup [.str s_same, fm c l]) = .tup [.str s_or, .tup [.tup [.str s_least, fm (c - 1) l], .tup [.str s_least, fm (-c - 1) (neg l)]]] := by
        simp only [opp]
        rw [if_neg (by decide), if_pos trivial, belowM_fm, lessM_fm]
        rfl
      rw [e] at h
      simp [d__law_opposite, b__law_opposite]
      have e1 : n + m + 4 = (n + m + 1) + 3 := by omega
      rw [e1]
      refine law_more_ok ?_
      refine law_below_ok hc.can (by have := hc.len; omega) ?_
      simpa [← Int.sub_eq_add_neg] using h
    | @rest _ k d c l hk h1 h2 hc =>
      simp only [opp] at h
      rw [if_pos hk] at h
      have hcut : ∀ x y z : MV, cut [x, y, z] (some 1) none = [y, z] := fun x y z => cut_from [x, y, z] 1
      rcases hk with rfl | rfl
      · simp [d__law_opposite, b__law_opposite, hcut]
        simpa [oth] using h
      · simp [d__law_opposite, b__law_opposite, hcut]
        simpa [oth] using h
    | @join _ k l hk hl =>
      rw [opp_join hk] at h hpu
      have hms : mszL l ≤ 100000 := by simp at hs; omega
      have hm3 : mszL (l.map (opp m)) ≤ 1000000 := by
        have := mszL_map (f := opp m) (c := 3) fun p hp => opp_msz (hl p hp)
        omega
      have hlen := mszL_len l
      have hsh := shape_of (oth_join hk) (l := l.map (opp m)) fun p hp => by
        obtain ⟨q, hq, rfl⟩ := List.mem_map.mp hp
        exact opp_fm (hl q hq)
      have fin : ∀ (M : Hm) (Ql : List MV → Hm → Prop) (Es : MX → Hm → Prop), Ql (l.map (opp m)) M → wp (lcGo (nT l) (gN 2) cYes (eCall (run tab (n + m + 4)) f__law_opposite (aCons (eVar 2) aNil)) [some (.tup [.str k, .tup l]), some (.str k), none] (l.length + 1) 0 [] M) Ql Es := fun M Ql Es hq => by
        refine w_lcM (opp m) wk_T (by rw [SL_eq]; omega) (fun p hp => ?_) hq
        simp
        refine ih p (hl p hp) ?_ ⟨rfl, rfl⟩
        have := mszL_mem hp
        omega
      rcases hk with rfl | rfl
      · have eo : oth s_and = s_or := rfl
        rw [eo] at h hpu hsh
        simp [d__law_opposite, b__law_opposite, wipeE]
        refine fin _ _ _ ?_
        refine law_joined_ok (.inr ⟨_, rfl, by rw [get_app0]; rfl⟩) hm3 hsh ?_
        simp [hpu.rf]
        exact h
      · have eo : oth s_or = s_and := rfl
        rw [eo] at h hpu hsh
        simp [d__law_opposite, b__law_opposite, wipeE]
        refine fin _ _ _ ?_
        refine law_joined_ok (.inr ⟨_, rfl, by rw [get_app0]; rfl⟩) hm3 hsh ?_
        simp [hpu.rf]
        exact h
    | @turn _ k x p hk hp =>
      have hn : ¬ (k = s_div ∨ k = s_spl) := by rcases hk with rfl | rfl <;> decide
      simp only [opp] at h hpu
      rw [if_neg hn] at h hpu
      have hms : msz p ≤ 100000 := by simp at hs; omega
      rcases hk with rfl | rfl
      · simp [d__law_opposite, b__law_opposite]
        refine ih p hp hms ?_
        simp at hpu
        simpa [hpu.rf, oth] using h
      · simp [d__law_opposite, b__law_opposite]
        refine ih p hp hms ?_
        simp at hpu
        simpa [hpu.rf, oth] using h
end K01
set_option maxRecDepth 100000
namespace K01
open Mi
/-! ### names replaced -/
def prT (q : Tx × Int × Ps) : MV := .tup [.str q.1, fm q.2.1 q.2.2]
/-- what is put is not too much -/
structure TbOk (t : Tb) : Prop where
  len : t.length ≤ 100
  few : ∀ q ∈ t, q.2.2.length ≤ 7
theorem imPs_len {t : Tb} (h : TbOk t) (p : Tx × Int) : (imPs t p).length ≤ 7 := by
  unfold imPs
  cases hg : tbG t p.1 with
  | none => simp
  | some g =>
    obtain ⟨q, hq, rfl⟩ := tbG_mem hg
    simpa using h.few q hq
theorem imPs_all {t : Tb} (h : TbOk t) : ∀ l : Ps, (l.flatMap (imPs t)).length ≤ 7 * l.length
  | [] => by simp
  | p :: l => by
    have := imPs_all h l
    have := imPs_len h p
    rw [List.flatMap_cons, List.length_append, List.length_cons]
    omega
theorem imC_snoc (t : Tb) (c : Int) (l : Ps) (p : Tx × Int) : imC t c (l ++ [p]) = match tbG t p.1 with
  | some g => imC t c l + p.2 * g.1
  | none => imC t c l := by
  unfold imC
  rw [List.foldl_append]
  rfl
theorem image_ok {n b : Nat} {c : Int} {l : Ps} {t : Tb} {M : Hm} {Q : MV → Hm → Prop} {E : MX → Hm → Prop} (hc : CF b c l) (hb : b ≤ 18446744073709551616) (ht : TbOk t)
    (h : Q (imF t c l) M) : wp (run tab (n + 2) f_image [fm c l, .tup (t.map prT)] M) Q E := by
  have hlen := imPs_all ht l
  have h7 := hc.len
  refine w_run rfl rfl ?_
  simp [d_image, b_image, wipeE]
  have hll : t.length + 1 = (t.map prT).length + 1 := by simp
  rw [hll]
  refine w_dcM (fun d => match d with | .tup [x, g] => (x, g) | _ => (.non, .non)) wk_T (by simp; have := ht.len; omega) (fun d hd => ?_) ?_
  · obtain ⟨q, hq, rfl⟩ := List.mem_map.mp hd
    simp [prT, isKey]
  have ed : putAll [] ((t.map prT).map fun d => match d with | .tup [x, g] => (x, g) | _ => (.non, .non)) = tbD t := by
    unfold tbD
    rw [List.map_map]
    rfl
  rw [ed]
  simp [fm]
  refine wS_forM (F := pr) (l := l) (fun p env M' => ∃ u5 u6 u7 u8 u9, env = [some (fm c l), some (.tup (t.map prT)), some (.ref M.length), some (.int (imC t c p)), some (.ref (M.length + 1)), u5, u6, u7, u8, u9] ∧ M' = M ++ [.dic (tbD t), .lst ((p.flatMap (imPs t)).map pr)])
    ⟨_, _, _, _, _, rfl, rfl⟩ ?_ ?_ ?_ (by simp)
  · rintro p env M' ⟨u5, u6, u7, u8, u9, rfl, rfl⟩
    exact wk_T
  · rintro p d r env M' he ⟨u5, u6, u7, u8, u9, rfl, rfl⟩
    have hd : d ∈ l := by rw [he]; simp
    have hk : d.2.natAbs < 18446744073709551616 := Nat.lt_of_lt_of_le (hc.kb d hd) hb
    have hpl : (p.flatMap (imPs t)).length + (imPs t d).length ≤ 49 := by
      rw [he, List.flatMap_append, List.flatMap_cons, List.length_append, List.length_append] at hlen
      rw [he] at h7
      simp only [List.length_append, List.length_cons] at h7 hlen
      omega
    cases hg : tbG t d.1 with
    | none =>
      have e1 : imPs t d = [d] := by unfold imPs; rw [hg]
      have e2 : imC t c (p ++ [d]) = imC t c p := by rw [imC_snoc, hg]
      simp [pr, tb_get, hg, isKey, e1, e2]
      simp [List.length_flatMap] at hpl
      omega
    | some g =>
      have e1 : imPs t d = g.2.map fun r => (r.1, d.2 * r.2) := by unfold imPs; rw [hg]
      have e2 : imC t c (p ++ [d]) = imC t c p + d.2 * g.1 := by rw [imC_snoc, hg]
      have hg7 : g.2.length ≤ 7 := by
        obtain ⟨q, hq, rfl⟩ := tbG_mem hg
        exact ht.few q hq
      simp [pr, tb_get, hg, isKey, fm, cMul_sm hk, wipeE]
      refine w_lcMm (F := pr) (l := g.2) (fun r => pr (r.1, d.2 * r.2)) wk_T (by rw [SL_eq]; omega) (fun r hr => by simp [pr, cMul_sm hk]) ?_
      have e3 : g.2.map (fun r => pr (r.1, d.2 * r.2)) = (imPs t d).map pr := by rw [e1, List.map_map]; rfl
      rw [e3]
      have h49 : (List.map (fun a => (imPs t a).length) p).sum + (imPs t d).length ≤ 49 := by simpa [List.length_flatMap] using hpl
      simp [e2]
      omega
  · rintro env M' ⟨u5, u6, u7, u8, u9, rfl, rfl⟩
    simp
    refine form_ok (l := l.flatMap (imPs t)) (.inr ⟨_, rfl, by rw [get_app]; rfl⟩) (by rw [SL_eq]; omega) (sums_le (by omega)) ?_
    simpa [imF] using h
theorem law_var_ok {n : Nat} {x : Tx} {M : Hm} {Q : MV → Hm → Prop} {E : MX → Hm → Prop} (h : Q (fm 0 [(x, 1)]) M) : wp (run tab (n + 1) f__law_var [.str x] M) Q E := by
  refine w_run rfl rfl ?_
  simpa [d__law_var, b__law_var, fm, pr] using h
def lawT (t : Tb) (p : Tx × Int) : Int × Int × Ps := (p.2, (tbG t p.1).getD (0, [(p.1, 1)]))
theorem lawT_ps (t : Tb) (p : Tx × Int) : ((lawT t p).2.2.map fun r => (r.1, (lawT t p).1 * r.2)) = imPs t p := by
  unfold lawT imPs
  cases tbG t p.1 with
  | none => simp
  | some g => rfl
theorem lawT_C (t : Tb) : ∀ (l : Ps) (c : Int), (l.map (lawT t)).foldl (fun c q => c + q.1 * q.2.1) c = imC t c l
  | [], c => rfl
  | p :: l, c => by
    rw [List.map_cons, List.foldl_cons, lawT_C t l]
    unfold imC
    rw [List.foldl_cons]
    congr 1
    unfold lawT
    cases tbG t p.1 with
    | none => simp
    | some g => rfl
theorem law_put_ok {n b k : Nat} {c : Int} {l : Ps} {t : Tb} {M : Hm} {Q : MV → Hm → Prop} {E : MX → Hm → Prop} (hc : CF b c l) (hb : b ≤ 18446744073709551616) (ht : TbOk t) (hk : M[k]? = some (.dic (tbD t)))
    (h : Q (imF t c l) M) : wp (run tab (n + 3) f__law_put [fm c l, .ref k] M) Q E := by
  have hlen := imPs_all ht l
  have h7 := hc.len
  have e0 : MV.tup [.int c, .tup []] = fm c [] := rfl
  refine w_run rfl rfl ?_
  simp [d__law_put, b__law_put]
  simp [fm]
  refine wS_forM (F := pr) (l := l) (fun p env M' => ∃ u3 u4, env = [some (fm c l), some (.ref k), some (.ref M.length), u3, u4] ∧ M' = M ++ [.lst (((1, c, []) :: p.map (lawT t)).map fun q : Int × Int × Ps => .tup [.int q.1, fm q.2.1 q.2.2])])
    ⟨_, _, rfl, rfl⟩ ?_ ?_ ?_ (by simp)
  · rintro p env M' ⟨u3, u4, rfl, rfl⟩
    exact wk_T
  · rintro p d r env M' he ⟨u3, u4, rfl, rfl⟩
    have hpl : p.length < 7 := by
      rw [he] at h7
      simp only [List.length_append, List.length_cons] at h7
      omega
    simp [pr, rdD_old hk]
    refine law_var_ok ?_
    simp [rdD_old hk, isKey, tb_get]
    have e1 : (Option.map (fun g => fm g.1 g.2) (tbG t d.1)).getD (fm 0 [(d.1, 1)]) = fm (lawT t d).2.1 (lawT t d).2.2 := by
      unfold lawT
      cases tbG t d.1 <;> rfl
    rw [e1]
    simp
    refine ⟨by omega, ?_⟩
    rfl
  · rintro env M' ⟨u3, u4, rfl, rfl⟩
    simp
    have e2 : (((1, c, []) :: l.map (lawT t)).flatMap fun q : Int × Int × Ps => q.2.2.map fun p => (p.1, q.1 * p.2)) = l.flatMap (imPs t) := by
      rw [List.flatMap_cons, List.map_nil, List.nil_append, List.flatMap_map]
      congr 1
      funext p
      exact lawT_ps t p
    refine law_sum_ok (ps := (1, c, []) :: l.map (lawT t)) (by rw [get_app0]; simp) ?_ (by rw [e2]; omega) (by rw [e2]; exact sums_le (by omega)) ?_
    · intro q hq
      rcases List.mem_cons.mp hq with e | e
      · rw [e]; show (1 : Int).natAbs < _; decide
      · obtain ⟨p, hp, rfl⟩ := List.mem_map.mp e
        exact Nat.lt_of_lt_of_le (hc.kb p hp) hb
    · rw [e2]
      have e3 : ((1, c, []) :: l.map (lawT t)).foldl (fun c q => c + q.1 * q.2.1) 0 = imC t c l := by
        rw [List.foldl_cons, lawT_C]
        congr 1
        show 0 + 1 * c = c
        omega
      rw [e3]
      simpa [imF] using h
/-- a formula with names replaced -/
def putF (t : Tb) : Nat → MV → MV
  | n + 1, .tup [.str k, x] => if k = s_least ∨ k = s_same then (match psM x with | some (c, l) => .tup [.str k, imF t c l] | none => .non) else match x with
    | .tup l => .tup [.str k, .tup (l.map (putF t n))]
    | _ => .non
  | n + 1, .tup [.str k, a, x] => if k = s_div ∨ k = s_spl then (match psM x with | some (c, l) => .tup [.str k, a, imF t c l] | none => .non) else .tup [.str k, a, putF t n x]
  | _, _ => .non
end K01
set_option maxRecDepth 100000
namespace K01
open Mi
theorem putF_join {t : Tb} {n : Nat} {k : Tx} {l : List MV} (hk : k = s_and ∨ k = s_or) : putF t (n + 1) (.tup [.str k, .tup l]) = .tup [.str k, .tup (l.map (putF t n))] := by
  rcases hk with rfl | rfl
  · simp only [putF]
    rw [if_neg (by decide)]
  · simp only [putF]
    rw [if_neg (by decide)]
theorem putF_turn {t : Tb} {n : Nat} {k : Tx} {a x : MV} (hk : k = s_all ∨ k = s_some) : putF t (n + 1) (.tup [.str k, a, x]) = .tup [.str k, a, putF t n x] := by
  rcases hk with rfl | rfl
  · simp only [putF]
    rw [if_neg (by decide)]
  · simp only [putF]
    rw [if_neg (by decide)]
theorem pu_imF {t : Tb} {c : Int} {l : Ps} : Pu (imF t c l) := pu_fm
theorem _root_.Mi.Pu.rfL' {l : List MV} (h : Pu (.tup l)) (k : Nat) : rfsL k l = true := by have := h.rf k; simpa using this
theorem cut_m1a {x y : MV} : cut [x, y] none (some (-1)) = [x] := rfl
theorem cut_m1b {x y z : MV} : cut [x, y, z] none (some (-1)) = [x, y] := rfl
theorem putF_pu {b n : Nat} {F : MV} {t : Tb} (h : Fm b n F) : Pu (putF t n F) := by
  induction h with
  | least h => simp only [putF, psM_fm, true_or, if_true]; simp [pu_imF]
  | same h => simp only [putF, psM_fm, or_true, if_true]; simp [pu_imF]
  | rest hk h1 h2 h => simp only [putF, psM_fm]; rw [if_pos hk]; simp [pu_imF]
  | join hk h ih =>
    rw [putF_join hk]
    simp
    refine Pu.tup fun d hd => ?_
    obtain ⟨q, hq, rfl⟩ := List.mem_map.mp hd
    exact ih q hq
  | turn hk h ih => rw [putF_turn hk]; simp [ih]
theorem put_ok {b : Nat} {t : Tb} (hb : b ≤ 18446744073709551616) (ht : TbOk t) : ∀ (m : Nat) (F : MV), Fm b m F → ∀ {n : Nat} {M : Hm} {Q : MV → Hm → Prop} {E : MX → Hm → Prop}, msz F ≤ 100000 → Q (putF t m F) M → wp (run tab (n + m + 3) f_put [F, .tup (t.map prT)] M) Q E := by
  intro m
  induction m with
  | zero => intro F h; cases h
  | succ m ih =>
    intro F hF n M Q E hs h
    have hpu := putF_pu (t := t) hF
    have e0 : n + (m + 1) + 3 = (n + m + 3) + 1 := by omega
    rw [e0]
    refine w_run rfl rfl ?_
    have e1 : n + m + 3 = (n + m + 1) + 2 := by omega
    cases hF with
    | @least _ c l hc =>
      simp only [putF, psM_fm, true_or, if_true] at h
      simp [d_put, b_put, c_JOINED, c_TURNS, cut_m1a]
      rw [e1]
      refine image_ok hc hb ht ?_
      simpa [pu_imF.rf] using h
    | @same _ c l hc =>
      simp only [putF, psM_fm, or_true, if_true] at h
      simp [d_put, b_put, c_JOINED, c_TURNS, cut_m1a]
      rw [e1]
      refine image_ok hc hb ht ?_
      simpa [pu_imF.rf] using h
    | @rest _ k d c l hk h1 h2 hc =>
      simp only [putF, psM_fm] at h
      rw [if_pos hk] at h
      rcases hk with rfl | rfl
      · simp [d_put, b_put, c_JOINED, c_TURNS, cut_m1b]
        rw [e1]
        refine image_ok hc hb ht ?_
        simpa [pu_imF.rf] using h
      · simp [d_put, b_put, c_JOINED, c_TURNS, cut_m1b]
        rw [e1]
        refine image_ok hc hb ht ?_
        simpa [pu_imF.rf] using h
    | @join _ k l hk hl =>
      rw [putF_join hk] at h hpu
      have hms : mszL l ≤ 100000 := by simp at hs; omega
      have hlen := mszL_len l
      have fin : ∀ (M : Hm) (x : MV) (Ql : List MV → Hm → Prop) (Es : MX → Hm → Prop), Ql (l.map (putF t m)) M → wp (lcGo (nT l) (gN 3) cYes (eCall (run tab (n + m + 3)) f_put (aCons (eVar 3) (aCons (eVar 1) aNil))) [some (.tup [.str k, .tup l]), some (.tup (t.map prT)), some (.str k), none] (l.length + 1) 0 [] M) Ql Es := fun M x Ql Es hq => by
        refine w_lcM (putF t m) wk_T (by rw [SL_eq]; omega) (fun p hp => ?_) hq
        simp
        refine ih p (hl p hp) ?_ ⟨rfl, rfl⟩
        have := mszL_mem hp
        omega
      rcases hk with rfl | rfl
      · simp [d_put, b_put, c_JOINED, wipeE]
        refine fin _ .non _ _ ?_
        simp at hpu
        simp [hpu.rfL']
        exact h
      · simp [d_put, b_put, c_JOINED, wipeE]
        refine fin _ .non _ _ ?_
        simp at hpu
        simp [hpu.rfL']
        exact h
    | @turn _ k x p hk hp =>
      rw [putF_turn hk] at h hpu
      have hms : msz p ≤ 100000 := by simp at hs; omega
      simp at hpu
      rcases hk with rfl | rfl
      · simp [d_put, b_put, c_JOINED, c_TURNS]
        refine ih p hp hms ?_
        simpa [hpu.rf] using h
      · simp [d_put, b_put, c_JOINED, c_TURNS]
        refine ih p hp hms ?_
        simpa [hpu.rf] using h
theorem law_put_in_ok {b k0 : Nat} {t : Tb} (hb : b ≤ 18446744073709551616) (ht : TbOk t) : ∀ (m : Nat) (F : MV), Fm b m F → ∀ {n : Nat} {M : Hm} {Q : MV → Hm → Prop} {E : MX → Hm → Prop}, M[k0]? = some (.dic (tbD t)) → msz F ≤ 100000 → Q (putF t m F) M → wp (run tab (n + m + 4) f__law_put_in [F, .ref k0] M) Q E := by
  intro m
  induction m with
  | zero => intro F h; cases h
  | succ m ih =>
    intro F hF n M Q E hk0 hs h
    have hpu := putF_pu (t := t) hF
    have e0 : n + (m + 1) + 4 = (n + m + 4) + 1 := by omega
    rw [e0]
    refine w_run rfl rfl ?_
    have e1 : n + m + 4 = (n + m + 1) + 3 := by omega
    cases hF with
    | @least _ c l hc =>
      simp only [putF, psM_fm, true_or, if_true] at h
      simp [d__law_put_in, b__law_put_in, cut_m1a]
      rw [e1]
      refine law_put_ok hc hb ht (get_old hk0) ?_
      simpa [pu_imF.rf] using h
    | @same _ c l hc =>
      simp only [putF, psM_fm, or_true, if_true] at h
      simp [d__law_put_in, b__law_put_in, cut_m1a]
      rw [e1]
      refine law_put_ok hc hb ht (get_old hk0) ?_
      simpa [pu_imF.rf] using h
    | @rest _ k d c l hk h1 h2 hc =>
      simp only [putF, psM_fm] at h
      rw [if_pos hk] at h
      rcases hk with rfl | rfl
      · simp [d__law_put_in, b__law_put_in, cut_m1b]
        rw [e1]
        refine law_put_ok hc hb ht (get_old hk0) ?_
        simpa [pu_imF.rf] using h
      · simp [d__law_put_in, b__law_put_in, cut_m1b]
        rw [e1]
        refine law_put_ok hc hb ht (get_old hk0) ?_
        simpa [pu_imF.rf] using h
    | @join _ k l hk hl =>
      rw [putF_join hk] at h hpu
      have hms : mszL l ≤ 100000 := by simp at hs; omega
      have hlen := mszL_len l
      have fin : ∀ (G : Hm) (Ql : List MV → Hm → Prop) (Es : MX → Hm → Prop), Ql (l.map (putF t m)) (M ++ G) → wp (lcGo (nT l) (gN 2) cYes (eCall (run tab (n + m + 4)) f__law_put_in (aCons (eVar 2) (aCons (eVar 1) aNil))) [some (.tup [.str k, .tup l]), some (.ref k0), none] (l.length + 1) 0 [] (M ++ G)) Ql Es := fun G Ql Es hq => by
        refine w_lcM (putF t m) wk_T (by rw [SL_eq]; omega) (fun p hp => ?_) hq
        simp
        refine ih p (hl p hp) (get_old hk0) ?_ ⟨rfl, rfl⟩
        have := mszL_mem hp
        omega
      rcases hk with rfl | rfl
      · simp [d__law_put_in, b__law_put_in, wipeE]
        refine fin _ _ _ ?_
        simp at hpu
        simp [hpu.rfL']
        exact h
      · simp [d__law_put_in, b__law_put_in, wipeE]
        refine fin _ _ _ ?_
        simp at hpu
        simp [hpu.rfL']
        exact h
    | @turn _ k x p hk hp =>
      rw [putF_turn hk] at h hpu
      have hms : msz p ≤ 100000 := by simp at hs; omega
      simp at hpu
      rcases hk with rfl | rfl
      · simp [d__law_put_in, b__law_put_in]
        refine ih p hp (get_old hk0) hms ?_
        simpa [hpu.rf] using h
      · simp [d__law_put_in, b__law_put_in]
        refine ih p hp (get_old hk0) hms ?_
        simpa [hpu.rf] using h
end K01
set_option maxRecDepth 100000
namespace K01
open Mi
/-! ### what a formula says -/
def roOf (a : Ps) (x : Tx) : Int := (getA a x).getD 0
theorem getA_some {a : Ps} {x : Tx} (h : x ∈ a.map (·.1)) : getA a x = some (roOf a x) := by
  unfold roOf
  cases hg : getA a x with
  | some v => rfl
  | none =>
    unfold getA at hg
    rw [Option.map_eq_none_iff, List.find?_eq_none] at hg
    obtain ⟨p, hp, e⟩ := List.mem_map.mp h
    exact absurd (decide_eq_true e) (hg p hp)
theorem law_at_ok {n b k : Nat} {N : List Tx} {a : Ps} {c : Int} {l : Ps} {M : Hm} {Q : MV → Hm → Prop} {E : MX → Hm → Prop} (hc : CF b c l) (hb : b ≤ 18446744073709551616) (hN : ∀ p ∈ l, p.1 ∈ N) (hNa : ∀ x ∈ N, x ∈ a.map (·.1)) (hk : M[k]? = some (.dic (dS a)))
    (h : Q (.int (fv (roOf a) c l)) M) : wp (run tab (n + 1) f__law_at [fm c l, .ref k] M) Q E := by
  refine w_run rfl rfl ?_
  simp [d__law_at, b__law_at, fm]
  refine wS_forM (F := pr) (l := l) (fun p env M' => ∃ u3 u4, env = [some (fm c l), some (.ref k), some (.int (fv (roOf a) c p)), u3, u4] ∧ M' = M)
    ⟨none, none, by simp [fv, fvS, fm], rfl⟩ ?_ ?_ ?_ (by simp)
  · rintro p env M' ⟨u3, u4, rfl, rfl⟩
    exact wk_T
  · rintro p d r env M' he ⟨u3, u4, rfl, rfl⟩
    have hd : d ∈ l := by rw [he]; simp
    have hg := getA_some (hNa _ (hN d hd))
    have hm : d.2.natAbs < 18446744073709551616 := Nat.lt_of_lt_of_le (hc.kb d hd) hb
    simp [pr, rdD_of hk, getD_dS, hg, cMul_sm hm]
    unfold fv
    rw [fvS_app, fvS, fvS, Int.add_zero, Int.add_assoc]
  · rintro env M' ⟨u3, u4, rfl, rfl⟩
    simpa using h
theorem law_true_ok {b k0 : Nat} {N : List Tx} {a : Ps} (hb : b ≤ 18446744073709551616) (hNa : ∀ x ∈ N, x ∈ a.map (·.1)) : ∀ (m : Nat) (F : MV), Fz b N m F → ∀ {n : Nat} {M : Hm} {Q : MV → Hm → Prop} {E : MX → Hm → Prop}, M[k0]? = some (.dic (dS a)) → msz F ≤ 1000000 → Q (.bl (tv (roOf a) m F)) M → wp (run tab (n + m + 2) f__law_true [F, .ref k0] M) Q E := by
  intro m
  induction m with
  | zero => intro F h; cases h
  | succ m ih =>
    intro F hF n M Q E hk0 hs h
    have e0 : n + (m + 1) + 2 = (n + m + 2) + 1 := by omega
    rw [e0]
    refine w_run rfl rfl ?_
    have e1 : n + m + 2 = (n + m + 1) + 1 := by omega
    cases hF with
    | @least _ c l hc hN =>
      rw [tv_least] at h
      simp [d__law_true, b__law_true]
      rw [e1]
      refine law_at_ok hc hb hN hNa hk0 ?_
      simpa using h
    | @same _ c l hc hN =>
      rw [tv_same] at h
      simp [d__law_true, b__law_true]
      rw [e1]
      refine law_at_ok hc hb hN hNa hk0 ?_
      simpa using h
    | @rest _ k d c l hk h1 h2 hc hN =>
      rw [tv_rest] at h
      have hd : d.natAbs < 18446744073709551616 := by omega
      have hcd : ∀ i, cDiv i d = true := fun i => by
        have := log2_few (n := d.natAbs) (k := 64) (by omega) (by decide)
        simp [cDiv]
        omega
      rcases hk with rfl | rfl
      · simp [d__law_true, b__law_true]
        rw [e1]
        refine law_at_ok hc hb hN hNa hk0 ?_
        simpa [hcd, cMul_r hd] using h
      · simp [d__law_true, b__law_true]
        rw [e1]
        refine law_at_ok hc hb hN hNa hk0 ?_
        simpa [hcd, cMul_r hd] using h
    | @join _ k l hk hl =>
      have hms : mszL l ≤ 1000000 := by simp at hs; omega
      have hlen := mszL_len l
      have fin : ∀ (Ql : List MV → Hm → Prop) (Es : MX → Hm → Prop), Ql (l.map fun p => .bl (tv (roOf a) m p)) M → wp (lcGo (nT l) (gN 3) cYes (eCall (run tab (n + m + 2)) f__law_true (aCons (eVar 3) (aCons (eVar 1) aNil))) [some (.tup [.str k, .tup l]), some (.ref k0), none, none] (l.length + 1) 0 [] M) Ql Es := fun Ql Es hq => by
        refine w_lcM (fun p => .bl (tv (roOf a) m p)) wk_T (by rw [SL_eq]; omega) (fun p hp => ?_) hq
        simp
        refine ih p (hl p hp) hk0 ?_ ⟨rfl, rfl⟩
        have := mszL_mem hp
        omega
      rcases hk with rfl | rfl
      · rw [tv_and] at h
        simp [d__law_true, b__law_true, wipeE]
        refine fin _ _ ?_
        simp [boolsOf_map]
        simpa [List.all_map] using h
      · rw [tv_or] at h
        simp [d__law_true, b__law_true, wipeE]
        refine fin _ _ ?_
        simp [boolsOf_map]
        simpa [List.any_map] using h
end K01
set_option maxRecDepth 100000
namespace K01
open Mi
/-! ### the open names -/
theorem atoms_of_ok {b : Nat} {N : List Tx} : ∀ (m : Nat) (F : MV), Fz b N m F → ∀ {n : Nat} {M : Hm} {Q : MV → Hm → Prop} {E : MX → Hm → Prop}, msz F ≤ 1000000 → Q (.ref M.length) (M ++ [.lst (atomsM m F)]) → wp (run tab (n + m + 1) f_atoms_of [F] M) Q E := by
  intro m
  induction m with
  | zero => intro F h; cases h
  | succ m ih =>
    intro F hF n M Q E hs h
    have hpu : ∀ k, rfsL k (atomsM (m + 1) F) = true := Pu.rfL fun d hd => (atoms_at hF d hd).pu
    have hFp := hF.fm.pu
    have e0 : n + (m + 1) + 1 = (n + m + 1) + 1 := by omega
    rw [e0]
    refine w_run rfl rfl ?_
    cases hF with
    | @least _ c l hc hN =>
      simp only [atomsM] at h hpu
      rw [if_neg (by decide)] at h
      simp [d_atoms_of, b_atoms_of, c_JOINED, c_TURNS, pu_fm.rf]
      exact h
    | @same _ c l hc hN =>
      simp only [atomsM] at h hpu
      rw [if_neg (by decide)] at h
      simp [d_atoms_of, b_atoms_of, c_JOINED, c_TURNS, pu_fm.rf]
      exact h
    | @rest _ k d c l hk h1 h2 hc hN =>
      simp only [atomsM] at h hpu
      rcases hk with rfl | rfl
      · simp [d_atoms_of, b_atoms_of, c_JOINED, c_TURNS, pu_fm.rf]
        exact h
      · simp [d_atoms_of, b_atoms_of, c_JOINED, c_TURNS, pu_fm.rf]
        exact h
    | @join _ k l hk hl =>
      rw [atoms_join hk] at h hpu
      have hms : mszL l ≤ 1000000 := by simp at hs; omega
      have hfl : (l.flatMap (atomsM m)).length ≤ mszL l := flat_len fun p hp => atoms_len (hl p hp)
      have fin : ∀ (Ql : List MV → Hm → Prop) (Es : MX → Hm → Prop), (∀ G, Ql (l.flatMap (atomsM m)) (M ++ G)) → wp (lc2Go (nT l) (gN 1) cYes (iA (eCall (run tab (n + m + 1)) f_atoms_of (aCons (eVar 1) aNil))) (gN 2) cYes (eVar 2) [2] [some (.tup [.str k, .tup l]), none, none] (l.length + 1) 0 [] M) Ql Es := fun Ql Es hq => by
        have := w_lc2G (M := M) (E := Es) (g := gN 1) (it1 := iA (eCall (run tab (n + m + 1)) f_atoms_of (aCons (eVar 1) aNil))) (g1 := gN 2) (c1 := cYes) (e := eVar 2) (vs1 := [2]) (env := [some (.tup [.str k, .tup l]), none, none]) (Ql := Ql) (atomsM m) (fun G => wk_T) (fun p hp G acc K hK hlen => ?_) (by rw [SL_eq]; omega) hq []
        · simpa using this
        · simp
          refine ih p (hl p hp) (by have := mszL_mem hp; omega) ?_
          simp [wipeE]
          refine w_lcM0 id (wk_L (by rw [get_app]; simp)) (by simpa using hlen) (fun d hd => by simp) ?_
          rw [List.map_id]
          exact hK (G ++ [.lst (atomsM m p)])
      rcases hk with rfl | rfl
      · simp [d_atoms_of, b_atoms_of, c_JOINED, wipeE]
        refine fin _ _ fun G => ?_
        have e : (M ++ G).length = M.length + G.length := by simp
        rw [e, List.append_assoc, gcQ_new (i := G.length) (o := .lst (l.flatMap (atomsM m))) (by simp) (by simpa using hpu _)]
        exact h
      · simp [d_atoms_of, b_atoms_of, c_JOINED, wipeE]
        refine fin _ _ fun G => ?_
        have e : (M ++ G).length = M.length + G.length := by simp
        rw [e, List.append_assoc, gcQ_new (i := G.length) (o := .lst (l.flatMap (atomsM m))) (by simp) (by simpa using hpu _)]
        exact h
theorem turns_of_ok {b : Nat} {N : List Tx} : ∀ (m : Nat) (F : MV), Fz b N m F → ∀ {n : Nat} {M : Hm} {Q : MV → Hm → Prop} {E : MX → Hm → Prop}, msz F ≤ 1000000 → Q (.ref M.length) (M ++ [.lst []]) → wp (run tab (n + m + 1) f_turns_of [F] M) Q E := by
  intro m
  induction m with
  | zero => intro F h; cases h
  | succ m ih =>
    intro F hF n M Q E hs h
    have e0 : n + (m + 1) + 1 = (n + m + 1) + 1 := by omega
    rw [e0]
    refine w_run rfl rfl ?_
    cases hF with
    | @least _ c l hc hN =>
      simp [d_turns_of, b_turns_of, c_JOINED, c_TURNS]
      exact h
    | @same _ c l hc hN =>
      simp [d_turns_of, b_turns_of, c_JOINED, c_TURNS]
      exact h
    | @rest _ k d c l hk h1 h2 hc hN =>
      rcases hk with rfl | rfl
      · simp [d_turns_of, b_turns_of, c_JOINED, c_TURNS]
        exact h
      · simp [d_turns_of, b_turns_of, c_JOINED, c_TURNS]
        exact h
    | @join _ k l hk hl =>
      have hms : mszL l ≤ 1000000 := by simp at hs; omega
      have hf0 : l.flatMap (fun _ : MV => ([] : List MV)) = [] := by simp
      have fin : ∀ (Ql : List MV → Hm → Prop) (Es : MX → Hm → Prop), (∀ G, Ql [] (M ++ G)) → wp (lc2Go (nT l) (gN 1) cYes (iA (eCall (run tab (n + m + 1)) f_turns_of (aCons (eVar 1) aNil))) (gN 2) cYes (eVar 2) [2] [some (.tup [.str k, .tup l]), none, none] (l.length + 1) 0 [] M) Ql Es := fun Ql Es hq => by
        have := w_lc2G (M := M) (E := Es) (g := gN 1) (it1 := iA (eCall (run tab (n + m + 1)) f_turns_of (aCons (eVar 1) aNil))) (g1 := gN 2) (c1 := cYes) (e := eVar 2) (vs1 := [2]) (env := [some (.tup [.str k, .tup l]), none, none]) (Ql := Ql) (l := l) (fun _ => []) (fun G => wk_T) (fun p hp G acc K hK hlen => ?_) (by rw [hf0]; simp) (by rw [hf0]; exact hq) []
        · simpa using this
        · simp
          refine ih p (hl p hp) (by have := mszL_mem hp; omega) ?_
          simp [wipeE]
          refine w_lcM0 (l := []) id (wk_L (by rw [get_app]; simp)) (by simpa using hlen) (fun d hd => by simp) ?_
          rw [List.map_id]
          exact hK (G ++ [.lst []])
      rcases hk with rfl | rfl
      · simp [d_turns_of, b_turns_of, c_JOINED, wipeE]
        refine fin _ _ fun G => ?_
        have e : (M ++ G).length = M.length + G.length := by simp
        rw [e, List.append_assoc, gcQ_new (i := G.length) (o := .lst []) (by simp) (by rfl)]
        exact h
      · simp [d_turns_of, b_turns_of, c_JOINED, wipeE]
        refine fin _ _ fun G => ?_
        have e : (M ++ G).length = M.length + G.length := by simp
        rw [e, List.append_assoc, gcQ_new (i := G.length) (o := .lst []) (by simp) (by rfl)]
        exact h
theorem law_atoms_ok {b : Nat} {N : List Tx} : ∀ (m : Nat) (F : MV), Fz b N m F → ∀ {n : Nat} {M : Hm} {Q : MV → Hm → Prop} {E : MX → Hm → Prop}, msz F ≤ 1000000 → Q (.ref M.length) (M ++ [.lst (atomsM m F)]) → wp (run tab (n + m + 1) f__law_atoms [F] M) Q E := by
  intro m
  induction m with
  | zero => intro F h; cases h
  | succ m ih =>
    intro F hF n M Q E hs h
    have hpu : ∀ k, rfsL k (atomsM (m + 1) F) = true := Pu.rfL fun d hd => (atoms_at hF d hd).pu
    have e0 : n + (m + 1) + 1 = (n + m + 1) + 1 := by omega
    rw [e0]
    refine w_run rfl rfl ?_
    cases hF with
    | @least _ c l hc hN =>
      simp only [atomsM] at h hpu
      rw [if_neg (by decide)] at h
      simp [d__law_atoms, b__law_atoms, pu_fm.rf]
      exact h
    | @same _ c l hc hN =>
      simp only [atomsM] at h hpu
      rw [if_neg (by decide)] at h
      simp [d__law_atoms, b__law_atoms, pu_fm.rf]
      exact h
    | @rest _ k d c l hk h1 h2 hc hN =>
      simp only [atomsM] at h hpu
      rcases hk with rfl | rfl
      · simp [d__law_atoms, b__law_atoms, pu_fm.rf]
        exact h
      · simp [d__law_atoms, b__law_atoms, pu_fm.rf]
        exact h
    | @join _ k l hk hl =>
      rw [atoms_join hk] at h hpu
      have hms : mszL l ≤ 1000000 := by simp at hs; omega
      have hfl : (l.flatMap (atomsM m)).length ≤ mszL l := flat_len fun p hp => atoms_len (hl p hp)
      have loop : ∀ (G0 : Hm) (Qs : O → Mi.Env → Hm → Prop) (Es : MX → Mi.Env → Hm → Prop), (∀ (G : Hm) (i : Nat) u, G[i]? = some (.lst (l.flatMap (atomsM m))) → Qs .nx [some (.tup [.str k, .tup l]), some (.ref (M.length + i)), u] (M ++ G)) →
          wpS (forGo (nT l) (gN 2) (sSet 1 (eOp fAdd (eVar 1) (eCall (run tab (n + m + 1)) f__law_atoms (aCons (eVar 2) aNil)))) (l.length + 1) 0 [some (.tup [.str k, .tup l]), some (.ref (M.length + G0.length)), none] (M ++ (G0 ++ [.lst []]))) Qs Es := by
        intro G0 Qs Es hq
        refine wS_forP (fun p env M' => ∃ (G : Hm) (i : Nat) (u : Option MV), G[i]? = some (.lst (p.flatMap (atomsM m))) ∧ env = [some (.tup [.str k, .tup l]), some (.ref (M.length + i)), u] ∧ M' = M ++ G) ⟨G0 ++ [.lst []], G0.length, _, by simp, rfl, rfl⟩ ?_ ?_ ?_
        · rintro p env M' ⟨G, i, u, hi, rfl, rfl⟩
          exact wk_T
        · rintro p d r env M' he ⟨G, i, u, hi, rfl, rfl⟩
          have hd : d ∈ l := by rw [he]; simp
          have hlen : (p.flatMap (atomsM m)).length + (atomsM m d).length ≤ 1000000 := by
            rw [he, List.flatMap_append, List.flatMap_cons, List.length_append, List.length_append] at hfl
            rw [he] at hms
            simp only [mszL_app, mszL_cons] at hms
            rw [mszL_app, mszL_cons] at hfl
            omega
          simp
          refine ih d (hl d hd) (by have := mszL_mem hd; omega) ?_
          have hA : ((M ++ G) ++ [MO.lst (atomsM m d)])[M.length + i]? = some (.lst (p.flatMap (atomsM m))) := get_old (by rw [get_app]; exact hi)
          have hB : ((M ++ G) ++ [MO.lst (atomsM m d)])[(M ++ G).length]? = some (.lst (atomsM m d)) := get_last
          rw [w_addL hA hB]
          refine ⟨by rw [SL_eq]; omega, G ++ [.lst (atomsM m d), .lst (p.flatMap (atomsM m) ++ atomsM m d)], G.length + 1, ?_, ?_, ?_⟩
          · simp
          · simp [Nat.add_assoc]
          · simp
        · rintro env M' ⟨G, i, u, hi, rfl, rfl⟩
          exact hq G i u hi
      rcases hk with rfl | rfl
      · simp [d__law_atoms, b__law_atoms]
        refine loop [_] _ _ fun G i u hi => ?_
        simp
        rw [gcQ_new hi (by simpa using hpu _)]
        exact h
      · simp [d__law_atoms, b__law_atoms]
        refine loop [_] _ _ fun G i u hi => ?_
        simp
        rw [gcQ_new hi (by simpa using hpu _)]
        exact h
theorem law_turns_ok {b : Nat} {N : List Tx} : ∀ (m : Nat) (F : MV), Fz b N m F → ∀ {n : Nat} {M : Hm} {Q : MV → Hm → Prop} {E : MX → Hm → Prop}, msz F ≤ 1000000 → Q (.ref M.length) (M ++ [.lst []]) → wp (run tab (n + m + 1) f__law_turns [F] M) Q E := by
  intro m
  induction m with
  | zero => intro F h; cases h
  | succ m ih =>
    intro F hF n M Q E hs h
    have e0 : n + (m + 1) + 1 = (n + m + 1) + 1 := by omega
    rw [e0]
    refine w_run rfl rfl ?_
    cases hF with
    | @least _ c l hc hN =>
      simp [d__law_turns, b__law_turns]
      exact h
    | @same _ c l hc hN =>
      simp [d__law_turns, b__law_turns]
      exact h
    | @rest _ k d c l hk h1 h2 hc hN =>
      rcases hk with rfl | rfl
      · simp [d__law_turns, b__law_turns]
        exact h
      · simp [d__law_turns, b__law_turns]
        exact h
    | @join _ k l hk hl =>
      have hms : mszL l ≤ 1000000 := by simp at hs; omega
      have loop : ∀ (G0 : Hm) (Qs : O → Mi.Env → Hm → Prop) (Es : MX → Mi.Env → Hm → Prop), (∀ (G : Hm) (i : Nat) u, G[i]? = some (.lst []) → Qs .nx [some (.tup [.str k, .tup l]), some (.ref (M.length + i)), u] (M ++ G)) →
          wpS (forGo (nT l) (gN 2) (sSet 1 (eOp fAdd (eVar 1) (eCall (run tab (n + m + 1)) f__law_turns (aCons (eVar 2) aNil)))) (l.length + 1) 0 [some (.tup [.str k, .tup l]), some (.ref (M.length + G0.length)), none] (M ++ (G0 ++ [.lst []]))) Qs Es := by
        intro G0 Qs Es hq
        refine wS_forP (fun p env M' => ∃ (G : Hm) (i : Nat) (u : Option MV), G[i]? = some (.lst []) ∧ env = [some (.tup [.str k, .tup l]), some (.ref (M.length + i)), u] ∧ M' = M ++ G) ⟨G0 ++ [.lst []], G0.length, _, by simp, rfl, rfl⟩ ?_ ?_ ?_
        · rintro p env M' ⟨G, i, u, hi, rfl, rfl⟩
          exact wk_T
        · rintro p d r env M' he ⟨G, i, u, hi, rfl, rfl⟩
          have hd : d ∈ l := by rw [he]; simp
          simp
          refine ih d (hl d hd) (by have := mszL_mem hd; omega) ?_
          have hA : ((M ++ G) ++ [MO.lst []])[M.length + i]? = some (.lst []) := get_old (by rw [get_app]; exact hi)
          have hB : ((M ++ G) ++ [MO.lst []])[(M ++ G).length]? = some (.lst []) := get_last
          rw [w_addL hA hB]
          refine ⟨by simp, G ++ [.lst [], .lst []], G.length + 1, ?_, ?_, ?_⟩
          · simp
          · simp [Nat.add_assoc]
          · simp
        · rintro env M' ⟨G, i, u, hi, rfl, rfl⟩
          exact hq G i u hi
      rcases hk with rfl | rfl
      · simp [d__law_turns, b__law_turns]
        refine loop [_] _ _ fun G i u hi => ?_
        simp
        rw [gcQ_new hi (by rfl)]
        exact h
      · simp [d__law_turns, b__law_turns]
        refine loop [_] _ _ fun G i u hi => ?_
        simp
        rw [gcQ_new hi (by rfl)]
        exact h
end K01
set_option maxRecDepth 100000
namespace K01
open Mi
theorem any_strs {l : List Tx} {x : Tx} : ((l.map MV.str).any fun y => eqF y (.str x)) = decide (x ∈ l) := by
  rw [List.any_map]
  induction l with
  | nil => rfl
  | cons y l ih =>
    rw [List.any_cons, ih]
    show (decide (y = x) || _) = _
    rw [← Bool.decide_or]
    exact decide_eq_decide.mpr (by rw [List.mem_cons]; exact ⟨fun h => h.imp Eq.symm id, fun h => h.imp Eq.symm id⟩)
theorem flat_strs {l : List Tx} : (l.map MV.str).all flatM = true := by
  rw [List.all_map]
  exact List.all_eq_true.mpr fun _ _ => rfl
theorem len_foldT : ∀ (m a : List Tx), (m.foldl addT a).length ≤ a.length + m.length
  | [], a => by simp
  | x :: m, a => by
    have h1 := len_foldT m (addT a x)
    have h2 : (addT a x).length ≤ a.length + 1 := by unfold addT; split <;> simp
    rw [List.foldl_cons, List.length_cons]
    omega
theorem rfsP_dT {a : List Tx} {k : Nat} : rfsP k (dT a) = true := by
  unfold dT
  induction a with
  | nil => rfl
  | cons p a ih => simpa using ih
theorem open_names_ok {b m n : Nat} {N : List Tx} {F : MV} {M : Hm} {Q : MV → Hm → Prop} {E : MX → Hm → Prop} (hF : Fz b N m F) (hs : msz F ≤ 1000000) (hN : N.length < 64) (h : Q (openT (atomsM m F)) M) : wp (run tab (n + m + 2) f_open_names [F] M) Q E := by
  have hat := atoms_at hF
  refine w_run rfl rfl ?_
  simp [d_open_names, b_open_names]
  refine turns_of_ok m F hF hs ?_
  simp
  refine atoms_of_ok m F hF hs ?_
  simp
  refine wS_forP (fun p env M' => ∃ u3 u4 u5, env = [some F, some (.ref M.length), some (.ref (M.length + 1)), u3, u4, u5] ∧ M' = M ++ [.lst [], .dic (dT (onceT (namesM p))), .lst (atomsM m F)]) ⟨none, none, none, rfl, rfl⟩ ?_ ?_ ?_
  · rintro p env M' ⟨u3, u4, u5, rfl, rfl⟩
    exact wk_L (by rw [get_app]; rfl)
  · rintro p d r env M' he ⟨u3, u4, u5, rfl, rfl⟩
    have hd := hat d (by rw [he]; simp)
    have hsub : ∀ x ∈ namesM p, x ∈ N := names_of fun e hp => hat e (by rw [he]; simp [hp])
    obtain ⟨c, l, hcan, hl7, hlN, hd⟩ := hd
    have inner : ∀ (dd : MV), lastPs dd = l → ∀ (u4 u5 : Option MV) (Q' : Hm → Prop) (Qs : O → Mi.Env → Hm → Prop) (Es : MX → Mi.Env → Hm → Prop), (∀ v4 v5, Qs .nx [some F, some (.ref M.length), some (.ref (M.length + 1)), some dd, v4, v5] (M ++ [.lst [], .dic (dT (onceT (namesM (p ++ [dd])))), .lst (atomsM m F)])) →
        wpS (forGo (nT (l.map pr)) (gT 2 (gsCons (gN 4) (gsCons (gN 5) gsNil))) (sPutA (eVar 2) (eVar 4) (eC (.bl true))) (l.length + 1) 0 [some F, some (.ref M.length), some (.ref (M.length + 1)), some dd, u4, u5] (M ++ [.lst [], .dic (dT (onceT (namesM p))), .lst (atomsM m F)])) Qs Es := by
      intro dd hdd u4 u5 Q' Qs Es hq
      refine wS_forM (F := pr) (l := l) (fun q env M' => ∃ u4 u5, env = [some F, some (.ref M.length), some (.ref (M.length + 1)), some dd, u4, u5] ∧ M' = M ++ [.lst [], .dic (dT ((q.map (·.1)).foldl addT (onceT (namesM p)))), .lst (atomsM m F)]) ⟨_, _, rfl, rfl⟩ ?_ ?_ ?_ (by simp)
      · rintro q env M' ⟨u4, u5, rfl, rfl⟩
        exact wk_T
      · rintro q e r' env M' he' ⟨u4, u5, rfl, rfl⟩
        have h1 := len_foldT (q.map (·.1)) (onceT (namesM p))
        have h2 := once_few hsub
        have h3 : q.length ≤ 7 := by rw [he'] at hl7; simp at hl7; omega
        rw [List.length_map] at h1
        have h4 : (dT ((q.map (·.1)).foldl addT (onceT (namesM p)))).length < 16777216 := by unfold dT; rw [List.length_map]; omega
        simp [pr, isKey, putD_dT, h4]
      · rintro env M' ⟨u4, u5, rfl, rfl⟩
        rw [← once_app, ← hdd, ← namesM_snoc]
        exact hq _ _
    rcases hd with ⟨k, rfl⟩ | ⟨k, e, rfl⟩
    · simp [fm]
      refine inner (.tup [.str k, fm c l]) (by simp [lastPs, psM_fm]) _ _ (fun _ => True) _ _ fun v4 v5 => ?_
      exact ⟨⟨_, _, _, rfl⟩, rfl⟩
    · simp [fm]
      refine inner (.tup [.str k, .int e, fm c l]) (by simp [lastPs, psM_fm]) _ _ (fun _ => True) _ _ fun v4 v5 => ?_
      exact ⟨⟨_, _, _, rfl⟩, rfl⟩
  · rintro env M' ⟨u3, u4, u5, rfl, rfl⟩
    have hfew := once_few (names_of hat)
    simp [keys_dT, wipeE]
    refine ⟨by omega, ?_⟩
    refine w_lcFm (F := MV.str) (l := sortT (onceT (namesM (atomsM m F)))) (fun x => some (.str x)) (wk_L (by rw [get_app]; rfl)) (by rw [len_sortT, SL_eq]; omega) (fun x hx => by simp) ?_
    have e1 : (sortT (onceT (namesM (atomsM m F)))).filterMap (fun x => some (MV.str x)) = (sortT (onceT (namesM (atomsM m F)))).map MV.str := by rw [List.filterMap_eq_map']
    rw [e1]
    simp [rfsP_dT]
    simpa [openT] using h
theorem law_open_names_ok {b m n : Nat} {N : List Tx} {F : MV} {M : Hm} {Q : MV → Hm → Prop} {E : MX → Hm → Prop} (hF : Fz b N m F) (hs : msz F ≤ 1000000) (hN : N.length < 64) (h : Q (openT (atomsM m F)) M) : wp (run tab (n + m + 2) f__law_open_names [F] M) Q E := by
  have hat := atoms_at hF
  refine w_run rfl rfl ?_
  simp [d__law_open_names, b__law_open_names]
  refine law_turns_ok m F hF hs ?_
  simp
  refine law_atoms_ok m F hF hs ?_
  simp
  refine wS_forP (fun p env M' => ∃ u3 u4 u5, env = [some F, some (.ref M.length), some (.ref (M.length + 1)), u3, u4, u5] ∧ M' = M ++ [.lst ((onceT (namesM p)).map MV.str), .lst [], .lst (atomsM m F)]) ⟨none, none, none, rfl, rfl⟩ ?_ ?_ ?_
  · rintro p env M' ⟨u3, u4, u5, rfl, rfl⟩
    exact wk_L (by rw [get_app]; rfl)
  · rintro p d r env M' he ⟨u3, u4, u5, rfl, rfl⟩
    have hd := hat d (by rw [he]; simp)
    have hsub : ∀ x ∈ namesM p, x ∈ N := names_of fun e hp => hat e (by rw [he]; simp [hp])
    obtain ⟨c, l, hcan, hl7, hlN, hd⟩ := hd
    have inner : ∀ (dd : MV), lastPs dd = l → ∀ (u4 u5 : Option MV) (Qs : O → Mi.Env → Hm → Prop) (Es : MX → Mi.Env → Hm → Prop), (∀ v4 v5, Qs .nx [some F, some (.ref M.length), some (.ref (M.length + 1)), some dd, v4, v5] (M ++ [.lst ((onceT (namesM (p ++ [dd]))).map MV.str), .lst [], .lst (atomsM m F)])) →
        wpS (forGo (nT (l.map pr)) (gT 2 (gsCons (gN 4) (gsCons (gN 5) gsNil))) (sIf (cAnd (cB (eOp fNotInA (eVar 4) (eVar 1))) (cB (eOp fNotInA (eVar 4) (eVar 2)))) (sEx (eMet .list fAppend (eVar 1) (aCons (eVar 4) aNil))) sNx) (l.length + 1) 0 [some F, some (.ref M.length), some (.ref (M.length + 1)), some dd, u4, u5] (M ++ [.lst ((onceT (namesM p)).map MV.str), .lst [], .lst (atomsM m F)])) Qs Es := by
      intro dd hdd u4 u5 Qs Es hq
      refine wS_forM (F := pr) (l := l) (fun q env M' => ∃ u4 u5, env = [some F, some (.ref M.length), some (.ref (M.length + 1)), some dd, u4, u5] ∧ M' = M ++ [.lst (((q.map (·.1)).foldl addT (onceT (namesM p))).map MV.str), .lst [], .lst (atomsM m F)]) ⟨_, _, rfl, rfl⟩ ?_ ?_ ?_ (by simp)
      · rintro q env M' ⟨u4, u5, rfl, rfl⟩
        exact wk_T
      · rintro q e r' env M' he' ⟨u4, u5, rfl, rfl⟩
        have h1 := len_foldT (q.map (·.1)) (onceT (namesM p))
        have h2 := once_few hsub
        have h3 : q.length ≤ 7 := by rw [he'] at hl7; simp at hl7; omega
        rw [List.length_map] at h1
        have e2 : ((q ++ [e]).map (·.1)).foldl addT (onceT (namesM p)) = addT ((q.map (·.1)).foldl addT (onceT (namesM p))) e.1 := by rw [List.map_append, List.foldl_append]; rfl
        rw [e2]
        generalize hz : (q.map (·.1)).foldl addT (onceT (namesM p)) = z at *
        have fs := flat_strs (l := z)
        have as := any_strs (l := z) (x := e.1)
        simp [pr, fs, as]
        rw [List.any_map] at as
        rw [as]
        refine ifB_np (fun hx => ?_) fun hx => ?_
        · simp [addT, hx]
          omega
        · simp [addT, hx]
      · rintro env M' ⟨u4, u5, rfl, rfl⟩
        rw [← once_app, ← hdd, ← namesM_snoc]
        exact hq _ _
    rcases hd with ⟨k, rfl⟩ | ⟨k, e, rfl⟩
    · simp [fm]
      refine inner (.tup [.str k, fm c l]) (by simp [lastPs, psM_fm]) _ _ _ _ fun v4 v5 => ?_
      exact ⟨⟨_, _, _, rfl⟩, rfl⟩
    · simp [fm]
      refine inner (.tup [.str k, .int e, fm c l]) (by simp [lastPs, psM_fm]) _ _ _ _ fun v4 v5 => ?_
      exact ⟨⟨_, _, _, rfl⟩, rfl⟩
  · rintro env M' ⟨u3, u4, u5, rfl, rfl⟩
    have hfew := once_few (names_of hat)
    simp [textsOf_strs]
    refine ⟨by omega, ?_⟩
    simpa [openT] using h
end K01
set_option maxRecDepth 100000
namespace K01
open Mi
/-! ### data: the same, what is a formula -/
section
variable {n : Nat} {M : Hm} {Q : MV → Hm → Prop} {E : MX → Hm → Prop}
theorem w_leS {s t : Tx} : wp (fLe (.str s) (.str t) M) Q E = Q (.bl (!decide (t < s))) M := wp_of rfl _ _
theorem is_int_i {i : Int} : wp (run tab (n + 1) f__law_is_int [.int i] M) Q E = Q (.bl true) M := wp_of (run_of fun Q E h => by
  refine w_run rfl rfl ?_
  simp [d__law_is_int, b__law_is_int]
  exact h) _ _
theorem is_int_s {s : Tx} : wp (run tab (n + 1) f__law_is_int [.str s] M) Q E = Q (.bl false) M := wp_of (run_of fun Q E h => by
  refine w_run rfl rfl ?_
  simp [d__law_is_int, b__law_is_int]
  exact h) _ _
theorem is_int_t {l : List MV} : wp (run tab (n + 1) f__law_is_int [.tup l] M) Q E = Q (.bl false) M := wp_of (run_of fun Q E h => by
  refine w_run rfl rfl ?_
  simp [d__law_is_int, b__law_is_int]
  exact h) _ _
theorem is_integer_i {i : Int} : wp (run tab (n + 1) f_is_integer [.int i] M) Q E = Q (.bl true) M := wp_of (run_of fun Q E h => by
  refine w_run rfl rfl ?_
  simp [d_is_integer, b_is_integer]
  exact h) _ _
theorem is_integer_s {s : Tx} : wp (run tab (n + 1) f_is_integer [.str s] M) Q E = Q (.bl false) M := wp_of (run_of fun Q E h => by
  refine w_run rfl rfl ?_
  simp [d_is_integer, b_is_integer]
  exact h) _ _
theorem is_integer_t {l : List MV} : wp (run tab (n + 1) f_is_integer [.tup l] M) Q E = Q (.bl false) M := wp_of (run_of fun Q E h => by
  refine w_run rfl rfl ?_
  simp [d_is_integer, b_is_integer]
  exact h) _ _
theorem is_tuple_t {l : List MV} {k : Int} : wp (run tab (n + 1) f_is_tuple [.tup l, .int k] M) Q E = Q (.bl (decide ((l.length : Int) = k))) M := wp_of (run_of fun Q E h => by
  refine w_run rfl rfl ?_
  simp [d_is_tuple, b_is_tuple]
  exact h) _ _
theorem is_tuple_s {s : Tx} {k : Int} : wp (run tab (n + 1) f_is_tuple [.str s, .int k] M) Q E = Q (.bl false) M := wp_of (run_of fun Q E h => by
  refine w_run rfl rfl ?_
  simp [d_is_tuple, b_is_tuple]
  exact h) _ _
theorem is_tuple_i {i k : Int} : wp (run tab (n + 1) f_is_tuple [.int i, .int k] M) Q E = Q (.bl false) M := wp_of (run_of fun Q E h => by
  refine w_run rfl rfl ?_
  simp [d_is_tuple, b_is_tuple]
  exact h) _ _
theorem is_name_s {s : Tx} : wp (run tab (n + 1) f_is_name [.str s] M) Q E = Q (.bl (isWord s)) M := wp_of (run_of fun Q E h => by
  refine w_run rfl rfl ?_
  unfold isWord at h
  simp [d_is_name, b_is_name]
  refine ifB_np (fun h1 => ?_) fun h1 => ?_
  · rw [decide_eq_false h1] at h
    refine ifB_np (fun h2 => ?_) fun h2 => ?_
    · rw [decide_eq_false h2] at h
      simpa using h
    · rw [decide_eq_true h2] at h
      simpa using h
  · rw [decide_eq_true h1] at h
    simpa using h) _ _
theorem is_name_i {i : Int} : wp (run tab (n + 1) f_is_name [.int i] M) Q E = Q (.bl false) M := wp_of (run_of fun Q E h => by
  refine w_run rfl rfl ?_
  simp [d_is_name, b_is_name]
  exact h) _ _
theorem is_name_t {l : List MV} : wp (run tab (n + 1) f_is_name [.tup l] M) Q E = Q (.bl false) M := wp_of (run_of fun Q E h => by
  refine w_run rfl rfl ?_
  simp [d_is_name, b_is_name]
  exact h) _ _
theorem is_word_i {i : Int} : wp (run tab (n + 1) f__law_is_word [.int i] M) Q E = Q (.bl false) M := wp_of (run_of fun Q E h => by
  refine w_run rfl rfl ?_
  simp [d__law_is_word, b__law_is_word]
  exact h) _ _
theorem is_word_t {l : List MV} : wp (run tab (n + 1) f__law_is_word [.tup l] M) Q E = Q (.bl false) M := wp_of (run_of fun Q E h => by
  refine w_run rfl rfl ?_
  simp [d__law_is_word, b__law_is_word]
  exact h) _ _
theorem is_word_s {s : Tx} (hs : s.length ≤ 16000000) : wp (run tab (n + 1) f__law_is_word [.str s] M) Q E = Q (.bl (isWord s)) M := wp_of (run_of fun Q E h => by
  refine w_run rfl rfl ?_
  unfold isWord at h
  simp [d__law_is_word, b__law_is_word]
  refine ifB_np (fun h1 => ?_) fun h1 => ?_
  · rw [decide_eq_false h1] at h
    refine ⟨by omega, ?_⟩
    have key := w_lcG (M := M ++ [MO.lst (s.map fun c => MV.str [c])]) (g := gN 1) (e := eOp fIn (eVar 1) (eLst (aCons (eC (MV.str [32])) (aCons (eC (MV.str [39])) aNil)))) (env := wipeE [some (MV.str s), none] [1]) (l := s.map fun c => MV.str [c]) (ni := nL M.length)
      (Ql := fun l M2 => rdO (boolsOf l) fun bs => gcQ M (M2 ++ [MO.lst l]) (MV.bl (bs.any id)) fun x M1 => match x with
          | MV.bl k => gcQ M M1 (MV.bl !k) Q
          | x => False) (E := fun x M' => gcE M M' x fun x M1 => gcE M M1 x E)
      (fun d => .bl ([.str [32], .str [39]].any fun y => eqF y d)) (fun G => wk_L (get_old get_last)) (by rw [List.length_map, SL_eq]; omega) (fun d hd G => ?_) (fun G => ?_) [] (m := s.length + 1)
    · rw [List.append_nil] at key
      exact key
    · obtain ⟨c, hc, rfl⟩ := List.mem_map.mp hd
      simp [wipeE]
    · rw [boolsOf_map]
      have e1 : ((s.map fun c => MV.str [c]).map fun d => [MV.str [32], MV.str [39]].any fun y => eqF y d).any id = (decide (32 ∈ s) || decide (39 ∈ s)) := by
        rw [List.map_map, List.any_map]
        clear h h1
        induction s with
        | nil => rfl
        | cons c s ih =>
          rw [List.any_cons, ih (by simp at hs; omega)]
          have e2 : (id ∘ (fun d => [MV.str [32], MV.str [39]].any fun y => eqF y d) ∘ fun c => MV.str [c]) c = (decide (32 = c) || decide (39 = c)) := by
            show ((decide ([32] = [c])) || (decide ([39] = [c]) || false)) = _
            simp
          rw [e2]
          simp only [List.mem_cons, Bool.decide_or]
          cases decide (32 = c) <;> cases decide (39 = c) <;> cases decide (32 ∈ s) <;> cases decide (39 ∈ s) <;> rfl
      rw [rdO_some, e1]
      simp
      cases h32 : decide (32 ∈ s) <;> cases h39 : decide (39 ∈ s) <;> simp [h32, h39] at h ⊢ <;> exact h
  · rw [decide_eq_true h1] at h
    simpa using h) _ _
end
end K01
set_option maxRecDepth 100000
namespace K01
open Mi
theorem in62_len {α : Type} {l : List α} (h : l.length ≤ 1000000) : in62 (l.length : Int) = true := in62_nat (by omega)
theorem same_ok : ∀ (m : Nat) (d : MV), Dat m d → ∀ {n : Nat} {M : Hm} {Q : MV → Hm → Prop} {E : MX → Hm → Prop}, Q (.bl true) M → wp (run tab (n + m + 2) f__law_same [d, d] M) Q E := by
  intro m
  induction m with
  | zero =>
    intro d hd n M Q E h
    refine w_run rfl rfl ?_
    cases hd with
    | int =>
      simp [d__law_same, b__law_same, is_int_i]
      exact h
    | str hs =>
      simp [d__law_same, b__law_same]
      exact h
  | succ m ih =>
    intro d hd n M Q E h
    have e0 : n + (m + 1) + 2 = (n + m + 2) + 1 := by omega
    rw [e0]
    refine w_run rfl rfl ?_
    cases hd with
    | int =>
      have e1 : n + m + 2 = (n + m + 1) + 1 := by omega
      rw [e1]
      simp [d__law_same, b__law_same, is_int_i]
      exact h
    | str hs =>
      simp [d__law_same, b__law_same]
      exact h
    | @tup _ l hl hall =>
      simp [d__law_same, b__law_same, in62_len hl, wipeE]
      have key := w_lcM (M := M) (E := fun x M' => gcE M M' x fun x M1 => gcE M M1 x E) (ni := nR 0 1 l.length) (g := gN 2) (e := eCall (run tab (n + m + 2)) f__law_same (aCons (eOp fIxA (eVar 0) (eVar 2)) (aCons (eOp fIxA (eVar 1) (eVar 2)) aNil))) (env := [some (MV.tup l), some (MV.tup l), none])
        (Ql := fun l M2 => rdO (boolsOf l) fun bs => gcQ M (M2 ++ [MO.lst l]) (MV.bl (bs.all id)) fun x M1 => gcQ M M1 x Q) (l := (List.range l.length).map fun k : Nat => MV.int (0 + k * 1)) (fun _ => .bl true) wk_R (by rw [List.length_map, List.length_range, SL_eq]; omega) (fun d hd => ?_) ?_
      · rw [List.length_map, List.length_range] at key
        exact key
      · obtain ⟨k, hk, rfl⟩ := List.mem_map.mp hd
        rw [List.mem_range] at hk
        have e2 : (0 + (k : Int) * 1) = (k : Int) := by omega
        rw [e2]
        simp [rdI_nat, List.getElem?_eq_getElem hk]
        exact ih _ (hall _ (List.getElem_mem hk)) ⟨rfl, rfl⟩
      · rw [boolsOf_map (p := fun _ => true)]
        have e3 : (((List.range l.length).map fun k : Nat => MV.int (0 + k * 1)).map fun _ => true).all id = true := by
          rw [List.all_map, List.all_map, List.all_eq_true]
          intro x hx
          rfl
        rw [rdO_some, e3]
        simp
        exact h
theorem says_ok {n : Nat} {b : Bool} {M : Hm} {Q : MV → Hm → Prop} {E : MX → Hm → Prop} (h : Q (.bl true) M) : wp (run tab (n + 1) f__law_says [.bl b, .bl b] M) Q E := by
  refine w_run rfl rfl ?_
  cases b <;> simp [d__law_says, b__law_says] <;> exact h
section
variable {n z : Nat} {M : Hm} {Q : MV → Hm → Prop} {E : MX → Hm → Prop}
/-- a term, by what it is -/
theorem term_cases {m : Nat} {d : MV} (h : Da z m d) : (∃ x k, d = .tup [.str x, .int k]) ∨ (∀ a, stP a d = none) ∧ (∀ N a, stL N a d = none) ∧ ((∃ i, d = .int i) ∨ (∃ s, d = .str s) ∨ (∃ l, d = .tup l ∧ l.length ≠ 2) ∨ ∃ a b, d = .tup [a, b] ∧ ((∃ i, a = .int i) ∨ (∃ l, a = .tup l) ∨ ∃ x, a = .str x ∧ ((∃ s, b = .str s) ∨ ∃ l, b = .tup l))) := by
  have none1 : ∀ d : MV, (¬ ∃ x k, d = .tup [.str x, .int k]) → (∀ a, stP a d = none) ∧ (∀ N a, stL N a d = none) := fun d hd => ⟨fun a => by
    unfold stP
    split
    · exact absurd ⟨_, _, rfl⟩ hd
    · rfl, fun N a => by
    unfold stL
    split
    · exact absurd ⟨_, _, rfl⟩ hd
    · rfl⟩
  cases h with
  | int h => exact .inr ⟨(none1 _ (by simp)).1, (none1 _ (by simp)).2, .inl ⟨_, rfl⟩⟩
  | str h hc => exact .inr ⟨(none1 _ (by simp)).1, (none1 _ (by simp)).2, .inr (.inl ⟨_, rfl⟩)⟩
  | @tup m l hl h =>
    match l, hl, h with
    | [], hl, h => exact .inr ⟨(none1 _ (by simp)).1, (none1 _ (by simp)).2, .inr (.inr (.inl ⟨_, rfl, by simp⟩))⟩
    | [a], hl, h => exact .inr ⟨(none1 _ (by simp)).1, (none1 _ (by simp)).2, .inr (.inr (.inl ⟨_, rfl, by simp⟩))⟩
    | a :: b :: c :: r, hl, h => exact .inr ⟨(none1 _ (by simp)).1, (none1 _ (by simp)).2, .inr (.inr (.inl ⟨_, rfl, by simp⟩))⟩
    | [a, b], hl, h =>
      have ha := h a (by simp)
      have hb := h b (by simp)
      cases ha with
      | int h => exact .inr ⟨(none1 _ (by simp)).1, (none1 _ (by simp)).2, .inr (.inr (.inr ⟨_, _, rfl, .inl ⟨_, rfl⟩⟩))⟩
      | tup h1 h => exact .inr ⟨(none1 _ (by simp)).1, (none1 _ (by simp)).2, .inr (.inr (.inr ⟨_, _, rfl, .inr (.inl ⟨_, rfl⟩)⟩))⟩
      | str h hc => cases hb with
        | int h => exact .inl ⟨_, _, rfl⟩
        | str h hc => exact .inr ⟨(none1 _ (by simp)).1, (none1 _ (by simp)).2, .inr (.inr (.inr ⟨_, _, rfl, .inr (.inr ⟨_, rfl, .inl ⟨_, rfl⟩⟩)⟩))⟩
        | tup h1 h => exact .inr ⟨(none1 _ (by simp)).1, (none1 _ (by simp)).2, .inr (.inr (.inr ⟨_, _, rfl, .inr (.inr ⟨_, rfl, .inr ⟨_, rfl⟩⟩)⟩))⟩
theorem len2 {l : List MV} (h : l.length ≠ 2) : decide ((l.length : Int) = 2) = false := decide_eq_false (by omega)
theorem form_cases {m : Nat} {d : MV} (h : Da z m d) : (∃ c l, d = .tup [.int c, .tup l] ∧ ∀ e ∈ l, ∃ k, Da z k e) ∨ (isForm d = false ∧ ∀ N, isFormL N d = false) ∧ ((∃ i, d = .int i) ∨ (∃ s, d = .str s) ∨ (∃ l, d = .tup l ∧ l.length ≠ 2) ∨ ∃ a b, d = .tup [a, b] ∧ ((∃ s, a = .str s) ∨ (∃ l, a = .tup l) ∨ ∃ x, a = .int x ∧ ((∃ s, b = .str s) ∨ ∃ l, b = .int l))) := by
  cases h with
  | int h => exact .inr ⟨⟨rfl, fun _ => rfl⟩, .inl ⟨_, rfl⟩⟩
  | str h hc => exact .inr ⟨⟨rfl, fun _ => rfl⟩, .inr (.inl ⟨_, rfl⟩)⟩
  | @tup m l hl h =>
    match l, hl, h with
    | [], hl, h => exact .inr ⟨⟨rfl, fun _ => rfl⟩, .inr (.inr (.inl ⟨_, rfl, by simp⟩))⟩
    | [a], hl, h => exact .inr ⟨⟨by cases a <;> rfl, fun _ => by cases a <;> rfl⟩, .inr (.inr (.inl ⟨_, rfl, by simp⟩))⟩
    | a :: b :: c :: r, hl, h => exact .inr ⟨⟨by cases a <;> cases b <;> rfl, fun _ => by cases a <;> cases b <;> rfl⟩, .inr (.inr (.inl ⟨_, rfl, by simp⟩))⟩
    | [a, b], hl, h =>
      have ha := h a (by simp)
      have hb := h b (by simp)
      cases ha with
      | str h hc => exact .inr ⟨⟨by cases b <;> rfl, fun _ => by cases b <;> rfl⟩, .inr (.inr (.inr ⟨_, _, rfl, .inl ⟨_, rfl⟩⟩))⟩
      | tup h1 h => exact .inr ⟨⟨by cases b <;> rfl, fun _ => by cases b <;> rfl⟩, .inr (.inr (.inr ⟨_, _, rfl, .inr (.inl ⟨_, rfl⟩)⟩))⟩
      | int h => cases hb with
        | tup h1 h2 => exact .inl ⟨_, _, rfl, fun e he => ⟨_, h2 e he⟩⟩
        | str h hc => exact .inr ⟨⟨rfl, fun _ => rfl⟩, .inr (.inr (.inr ⟨_, _, rfl, .inr (.inr ⟨_, rfl, .inl ⟨_, rfl⟩⟩)⟩))⟩
        | int h1 => exact .inr ⟨⟨rfl, fun _ => rfl⟩, .inr (.inr (.inr ⟨_, _, rfl, .inr (.inr ⟨_, rfl, .inr ⟨_, rfl⟩⟩)⟩))⟩
theorem is_form_ok {m : Nat} {d : MV} (hd : Da z m d) (h : Q (.bl (isForm d)) M) : wp (run tab (n + 2) f_is_form [d] M) Q E := by
  refine w_run rfl rfl ?_
  rcases form_cases hd with ⟨c, l, rfl, hl⟩ | ⟨⟨e, _⟩, q⟩
  · simp [d_is_form, b_is_form, is_tuple_t, is_integer_i]
    have hno : ∀ (p : List MV) (d : MV) (r : List MV) (a : Tx), l = p ++ d :: r → p.foldl stP (some []) = some a → stP (some a) d = none → Q (.bl false) M := fun p d r a he hp hs => by
      have e : isForm (.tup [.int c, .tup l]) = false := by
        show (l.foldl stP (some [])).isSome = false
        rw [he, List.foldl_append, hp, List.foldl_cons, hs, stP_none]
        rfl
      rw [e] at h
      exact h
    refine wS_forP (fun p env M' => ∃ a u, p.foldl stP (some []) = some a ∧ env = [some (.tup [.int c, .tup l]), some (.str a), u] ∧ M' = M) ⟨[], none, rfl, rfl, rfl⟩ ?_ ?_ ?_
    · rintro p env M' ⟨a, u, hp, rfl, rfl⟩
      exact wk_T
    · rintro p d r env M' he ⟨a, u, hp, rfl, rfl⟩
      have hno := hno p d r a he hp
      obtain ⟨k, hdd⟩ := hl d (by rw [he]; simp)
      rcases term_cases hdd with ⟨x, k, rfl⟩ | ⟨hs, _, q⟩
      · have e1 : stP (some a) (.tup [.str x, .int k]) = if isWord x ∧ a < x ∧ k ≠ 0 then some x else none := rfl
        rw [e1] at hno
        simp [is_tuple_t, is_name_s, is_integer_i, w_leS]
        cases hw : isWord x with
        | false =>
          simp
          exact hno (if_neg (by simp [hw]))
        | true =>
          simp
          refine ifB_np (fun hx => ?_) fun hx => ?_
          · refine hno (if_neg (by simp [hx]))
          · refine ifB_p (fun h0 => ?_) fun h0 => ?_
            · exact hno (if_neg (by simp [h0]))
            · rw [hp, e1, if_pos ⟨hw, hx, h0⟩]
      · have hn2 := hno (hs _)
        rcases q with ⟨i, rfl⟩ | ⟨s, rfl⟩ | ⟨l, rfl, hl⟩ | ⟨a, b, rfl, ⟨i, rfl⟩ | ⟨l, rfl⟩ | ⟨x, rfl, ⟨s, rfl⟩ | ⟨l, rfl⟩⟩⟩
        · simp [is_tuple_i]
          exact hn2
        · simp [is_tuple_s]
          exact hn2
        · simp [is_tuple_t, len2 hl]
          exact hn2
        · simp [is_tuple_t, is_name_i]
          exact hn2
        · simp [is_tuple_t, is_name_t]
          exact hn2
        · simp [is_tuple_t, is_name_s, is_integer_s]
          cases hw : isWord x <;> simp <;> exact hn2
        · simp [is_tuple_t, is_name_s, is_integer_t]
          cases hw : isWord x <;> simp <;> exact hn2
    · rintro env M' ⟨a, u, hp, rfl, rfl⟩
      have e : isForm (.tup [.int c, .tup l]) = true := by
        show (l.foldl stP (some [])).isSome = true
        rw [hp]
        rfl
      rw [e] at h
      simpa using h
  · rw [e] at h
    rcases q with ⟨i, rfl⟩ | ⟨s, rfl⟩ | ⟨l, rfl, hl⟩ | ⟨a, b, rfl, ⟨s, rfl⟩ | ⟨l, rfl⟩ | ⟨x, rfl, ⟨s, rfl⟩ | ⟨j, rfl⟩⟩⟩
    · simp [d_is_form, b_is_form, is_tuple_i]
      exact h
    · simp [d_is_form, b_is_form, is_tuple_s]
      exact h
    · simp [d_is_form, b_is_form, is_tuple_t, len2 hl]
      exact h
    · simp [d_is_form, b_is_form, is_tuple_t, is_integer_s]
      exact h
    · simp [d_is_form, b_is_form, is_tuple_t, is_integer_t]
      exact h
    · simp [d_is_form, b_is_form, is_tuple_t, is_integer_i]
      exact h
    · simp [d_is_form, b_is_form, is_tuple_t, is_integer_i]
      exact h
theorem law_is_form_ok {m : Nat} {N : List Tx} {d : MV} (hd : Da z m d) (h : Q (.bl (isFormL N d)) M) : wp (run tab (n + 2) f__law_is_form [d, .tup (N.map MV.str)] M) Q E := by
  refine w_run rfl rfl ?_
  rcases form_cases hd with ⟨c, l, rfl, hl⟩ | ⟨⟨_, e⟩, q⟩
  · simp [d__law_is_form, b__law_is_form, is_int_i]
    have hno : ∀ (p : List MV) (d : MV) (r : List MV) (a : Tx), l = p ++ d :: r → p.foldl (stL N) (some []) = some a → stL N (some a) d = none → Q (.bl false) M := fun p d r a he hp hs => by
      have e : isFormL N (.tup [.int c, .tup l]) = false := by
        show (l.foldl (stL N) (some [])).isSome = false
        rw [he, List.foldl_append, hp, List.foldl_cons, hs, stL_none]
        rfl
      rw [e] at h
      exact h
    refine wS_forP (fun p env M' => ∃ a u, p.foldl (stL N) (some []) = some a ∧ env = [some (.tup [.int c, .tup l]), some (.tup (N.map MV.str)), some (.str a), u] ∧ M' = M) ⟨[], none, rfl, rfl, rfl⟩ ?_ ?_ ?_
    · rintro p env M' ⟨a, u, hp, rfl, rfl⟩
      exact wk_T
    · rintro p d r env M' he ⟨a, u, hp, rfl, rfl⟩
      have hno := hno p d r a he hp
      obtain ⟨k, hdd⟩ := hl d (by rw [he]; simp)
      rcases term_cases hdd with ⟨x, k, rfl⟩ | ⟨_, hs, q⟩
      · have e1 : stL N (some a) (.tup [.str x, .int k]) = if 32 ∉ x ∧ a < x ∧ x ∈ N ∧ k ≠ 0 then some x else none := rfl
        rw [e1] at hno
        have fs := flat_strs (l := N)
        have as := any_strs (l := N) (x := x)
        rw [List.any_map] at as
        simp [is_int_i, w_leS, fs, as]
        refine ifB_np (fun hx => ?_) fun hx => ?_
        · refine hno (if_neg (by simp [hx]))
        · refine ifB_p (fun h3 => ?_) fun h3 => ?_
          · exact hno (if_neg (by simp [h3]))
          · refine ifB_np (fun h4 => ?_) fun h4 => ?_
            · exact hno (if_neg (by simp [h4]))
            · refine ifB_p (fun h0 => ?_) fun h0 => ?_
              · exact hno (if_neg (by simp [h0]))
              · rw [hp, e1, if_pos ⟨h3, hx, h4, h0⟩]
      · have hn2 := hno (hs _ _)
        rcases q with ⟨i, rfl⟩ | ⟨s, rfl⟩ | ⟨l, rfl, hl⟩ | ⟨a, b, rfl, ⟨i, rfl⟩ | ⟨l, rfl⟩ | ⟨x, rfl, ⟨s, rfl⟩ | ⟨l, rfl⟩⟩⟩
        · simp
          exact hn2
        · simp
          exact hn2
        · have hl3 : ¬ (l.length : Int) = 2 := by omega
          simp [hl3]
          exact hn2
        · simp
          exact hn2
        · simp
          exact hn2
        · simp [is_int_s]
          exact hn2
        · simp [is_int_t]
          exact hn2
    · rintro env M' ⟨a, u, hp, rfl, rfl⟩
      have e : isFormL N (.tup [.int c, .tup l]) = true := by
        show (l.foldl (stL N) (some [])).isSome = true
        rw [hp]
        rfl
      rw [e] at h
      simpa using h
  · rw [e] at h
    rcases q with ⟨i, rfl⟩ | ⟨s, rfl⟩ | ⟨l, rfl, hl⟩ | ⟨a, b, rfl, ⟨s, rfl⟩ | ⟨l, rfl⟩ | ⟨x, rfl, ⟨s, rfl⟩ | ⟨j, rfl⟩⟩⟩
    · simp [d__law_is_form, b__law_is_form]
      exact h
    · simp [d__law_is_form, b__law_is_form]
      exact h
    · have hl3 : ¬ (l.length : Int) = 2 := by omega
      simp [d__law_is_form, b__law_is_form, hl3]
      exact h
    · simp [d__law_is_form, b__law_is_form, is_int_s]
      exact h
    · simp [d__law_is_form, b__law_is_form, is_int_t]
      exact h
    · simp [d__law_is_form, b__law_is_form, is_int_i]
      exact h
    · simp [d__law_is_form, b__law_is_form, is_int_i]
      exact h
theorem is_form_over_ok {m : Nat} {N : List Tx} (hN : ∀ x ∈ N, isWord x = true) {d : MV} (hz : z ≤ 16000000) (hd : Da z m d) (h : Q (.bl (isFormL N d)) M) : wp (run tab (n + 3) f_is_form_over [d, .tup (N.map MV.str)] M) Q E := by
  refine w_run rfl rfl ?_
  simp [d_is_form_over, b_is_form_over]
  refine is_form_ok hd ?_
  cases hf : isForm d with
  | false =>
    have e : isFormL N d = false := by
      rcases form_cases hd with ⟨c, l, rfl, hl⟩ | ⟨⟨_, e⟩, q⟩
      · show (l.foldl (stL N) (some [])).isSome = false
        have hf : (l.foldl stP (some [])).isSome = false := hf
        rw [← terms_eq hN, hf]
        rfl
      · exact e N
    rw [e] at h
    simpa using h
  | true =>
    rcases form_cases hd with ⟨c, l, rfl, hl⟩ | ⟨⟨e, _⟩, q⟩
    · have hf' : (l.foldl stP (some [])).isSome = true := hf
      obtain ⟨ps, rfl⟩ := stP_ps l [] hf'
      have e1 : isFormL N (.tup [.int c, .tup (ps.map pr)]) = ps.all fun p => decide (p.1 ∈ N) := by
        show ((ps.map pr).foldl (stL N) (some [])).isSome = _
        rw [← terms_eq hN, hf', Bool.true_and, List.all_map]
        rfl
      have hlen : ps.length ≤ 16777216 := by
        cases hd with
        | tup h1 h2 =>
          have := h2 (.tup (ps.map pr)) (by simp)
          cases this with
          | tup h3 h4 =>
            rw [List.length_map] at h3
            omega
      rw [e1] at h
      have fs := flat_strs (l := N)
      simp [wipeE]
      refine w_lcMm (F := pr) (l := ps) (fun p => .bl (decide (p.1 ∈ N))) wk_T (by rw [SL_eq]; exact hlen) (fun p hp => ?_) ?_
      · have as := any_strs (l := N) (x := p.1)
        rw [List.any_map] at as
        simp [pr, fs, as]
      · have e2 : boolsOf (ps.map fun p => MV.bl (decide (p.1 ∈ N))) = some (ps.map fun p => decide (p.1 ∈ N)) := by
          unfold boolsOf
          clear h e1 hf hf' hd hl hlen
          induction ps with
          | nil => rfl
          | cons p ps ih =>
            rw [List.map_cons, List.mapM_cons, ih]
            rfl
        rw [e2]
        simp
        simpa [List.all_map] using h
    · rw [e] at hf
      cases hf
end
end K01
set_option maxRecDepth 100000
namespace K01
open Mi
theorem D.nil_app {M : Hm} : M ++ [] = M := List.append_nil M
theorem is_formula_ok {z : Nat} (hz : z ≤ 16000000) : ∀ (m : Nat) (d : MV), Da z m d → m < 59 → ∀ {n : Nat} {N : List Tx} {M : Hm} {Q : MV → Hm → Prop} {E : MX → Hm → Prop}, (∀ x ∈ N, isWord x = true) → N.length + m ≤ 100000 → Q (.bl (isF m N d)) M → wp (run tab (n + m + 5) f_is_formula [d, .tup (N.map MV.str)] M) Q E := by
  intro m
  induction m with
  | zero =>
    intro d hd h59 n N M Q E hN hNl h
    refine w_run rfl rfl ?_
    cases hd with
    | int =>
      simp [d_is_formula, b_is_formula, c_JOINED, c_TURNS]
      exact h
    | str hs =>
      simp [d_is_formula, b_is_formula, c_JOINED, c_TURNS]
      exact h
  | succ m ih =>
    intro d hd h59 n N M Q E hN hNl h
    have e0 : n + (m + 1) + 5 = (n + m + 5) + 1 := by omega
    rw [e0]
    refine w_run rfl rfl ?_
    have e1 : n + m + 5 = (n + m + 4) + 1 := by omega
    have e3 : n + m + 4 = (n + m + 1) + 3 := by omega
    have e2 : n + m + 5 = (n + m + 3) + 2 := by omega
    cases hd with
    | int =>
      simp [d_is_formula, b_is_formula, c_JOINED, c_TURNS]
      exact h
    | str hs =>
      simp [d_is_formula, b_is_formula, c_JOINED, c_TURNS]
      exact h
    | @tup _ l hl hall =>
      have heq : ∀ G : Hm, eqM (M ++ G) (.tup l) (.tup []) = some l.isEmpty := fun G => eq_nil (.tup hl hall) (by omega)
      have heq0 : eqM M (.tup l) (.tup []) = some l.isEmpty := eq_nil (.tup hl hall) (by omega)
      cases l with
      | nil =>
        simp [d_is_formula, b_is_formula, c_JOINED, c_TURNS, w_eq heq0]
        exact h
      | cons k0 r =>
        have hk0 := hall k0 (by simp)
        cases hk0 with
        | int =>
          simp [d_is_formula, b_is_formula, c_JOINED, c_TURNS, w_eq heq0]
          exact h
        | tup =>
          simp [d_is_formula, b_is_formula, c_JOINED, c_TURNS, w_eq heq0]
          exact h
        | @str _ k hs hc =>
          clear hs hc
          by_cases kJ : k = s_and ∨ k = s_or
          · have hF : ∀ x, isF (m + 1) N (.tup [.str k, x]) = (match x with | .tup l => l.all (isF m N) | _ => false) := fun x => by
              simp only [isF]
              rw [if_pos kJ]
              cases x <;> rfl
            have hF0 : (∀ x, r ≠ [x]) → isF (m + 1) N (.tup (.str k :: r)) = false := fun hr => by
              simp only [isF]
              rw [if_pos kJ]
              split
              · exact absurd rfl (hr _)
              · rfl
            by_cases hr : ∃ x, r = [x]
            · obtain ⟨x, rfl⟩ := hr
              rw [hF] at h
              have hx := hall x (by simp)
              cases hx with
              | int =>
                rcases kJ with rfl | rfl
                · simp [d_is_formula, b_is_formula, c_JOINED, c_TURNS, w_eq heq0]
                  rw [e1]
                  simp [is_tuple_t, is_integer_i, is_integer_s, is_integer_t, is_name_s, is_name_i, is_name_t]
                  exact h
                · simp [d_is_formula, b_is_formula, c_JOINED, c_TURNS, w_eq heq0]
                  rw [e1]
                  simp [is_tuple_t, is_integer_i, is_integer_s, is_integer_t, is_name_s, is_name_i, is_name_t]
                  exact h
              | str =>
                rcases kJ with rfl | rfl
                · simp [d_is_formula, b_is_formula, c_JOINED, c_TURNS, w_eq heq0]
                  rw [e1]
                  simp [is_tuple_t, is_integer_i, is_integer_s, is_integer_t, is_name_s, is_name_i, is_name_t]
                  exact h
                · simp [d_is_formula, b_is_formula, c_JOINED, c_TURNS, w_eq heq0]
                  rw [e1]
                  simp [is_tuple_t, is_integer_i, is_integer_s, is_integer_t, is_name_s, is_name_i, is_name_t]
                  exact h
              | @tup m l hl2 hall2 =>
                have fin : ∀ (G : Hm) (Ql : List MV → Hm → Prop) (Es : MX → Hm → Prop), Ql (l.map fun p => .bl (isF (m + 1) N p)) (M ++ G) → wp (lcGo (nT l) (gN 2) cYes (eCall (run tab (n + (m + 1) + 5)) f_is_formula (aCons (eVar 2) (aCons (eVar 1) aNil))) [some (.tup [.str k, .tup l]), some (.tup (N.map MV.str)), none] (l.length + 1) 0 [] (M ++ G)) Ql Es := fun G Ql Es hq => by
                  refine w_lcM (fun p => .bl (isF (m + 1) N p)) wk_T (by rw [SL_eq]; omega) (fun p hp => ?_) hq
                  simp
                  exact ih p ((hall2 p hp).mono (Nat.le_refl _) _ (Nat.le_succ _)) (by omega) hN (by omega) ⟨rfl, rfl⟩
                rcases kJ with rfl | rfl
                · simp [d_is_formula, b_is_formula, c_JOINED, c_TURNS, w_eq heq0]
                  rw [e1]
                  simp [is_tuple_t, is_integer_i, is_integer_s, is_integer_t, is_name_s, is_name_i, is_name_t, wipeE]
                  rw [← e1]
                  refine D.nil_app (M := M) ▸ fin [] _ _ ?_
                  simp [boolsOf_map]
                  simpa [List.all_map] using h
                · simp [d_is_formula, b_is_formula, c_JOINED, c_TURNS, w_eq heq0]
                  rw [e1]
                  simp [is_tuple_t, is_integer_i, is_integer_s, is_integer_t, is_name_s, is_name_i, is_name_t, wipeE]
                  rw [← e1]
                  refine D.nil_app (M := M) ▸ fin [] _ _ ?_
                  simp [boolsOf_map]
                  simpa [List.all_map] using h
            · rw [hF0 fun x hx => hr ⟨x, hx⟩] at h
              have hrl : ¬ ((r.length : Int) + 1 = 2) := fun e => by
                match r, e with
                | [x], _ => exact hr ⟨x, rfl⟩
                | [], e => simp at e
                | x :: y :: t, e => simp at e; omega
              rcases kJ with rfl | rfl
              · simp [d_is_formula, b_is_formula, c_JOINED, c_TURNS, w_eq heq0, hrl]
                rw [e1]
                simp [is_tuple_t, is_integer_i, is_integer_s, is_integer_t, is_name_s, is_name_i, is_name_t, hrl]
                exact h
              · simp [d_is_formula, b_is_formula, c_JOINED, c_TURNS, w_eq heq0, hrl]
                rw [e1]
                simp [is_tuple_t, is_integer_i, is_integer_s, is_integer_t, is_name_s, is_name_i, is_name_t, hrl]
                exact h
          · by_cases kT : k = s_all ∨ k = s_some
            · have hF : ∀ x p, isF (m + 1) N (.tup [.str k, x, p]) = (match x with | .str x => isWord x && (!decide (x ∈ N) && isF m (N ++ [x]) p) | _ => false) := fun x p => by
                simp only [isF]
                rw [if_neg kJ, if_pos kT]
                cases x <;> rfl
              have hF0 : (∀ x p, r ≠ [x, p]) → isF (m + 1) N (.tup (.str k :: r)) = false := fun hr => by
                simp only [isF]
                rw [if_neg kJ, if_pos kT]
                split
                · exact absurd rfl (hr _ _)
                · rfl
              by_cases hr : ∃ x p, r = [x, p]
              · obtain ⟨x, p, rfl⟩ := hr
                rw [hF] at h
                have hx := hall x (by simp)
                have hp := hall p (by simp)
                cases hx with
                | int =>
                  have e4 : ∀ q, n + q + 5 = (n + q + 4) + 1 := fun q => by omega
                  rcases kT with rfl | rfl
                  · simp [d_is_formula, b_is_formula, c_JOINED, c_TURNS, w_eq heq0]
                    rw [e4]
                    simp [is_tuple_t, is_integer_i, is_integer_s, is_integer_t, is_name_s, is_name_i, is_name_t]
                    exact h
                  · simp [d_is_formula, b_is_formula, c_JOINED, c_TURNS, w_eq heq0]
                    rw [e4]
                    simp [is_tuple_t, is_integer_i, is_integer_s, is_integer_t, is_name_s, is_name_i, is_name_t]
                    exact h
                | tup =>
                  have e4 : ∀ q, n + q + 5 = (n + q + 4) + 1 := fun q => by omega
                  rcases kT with rfl | rfl
                  · simp [d_is_formula, b_is_formula, c_JOINED, c_TURNS, w_eq heq0]
                    rw [e4]
                    simp [is_tuple_t, is_integer_i, is_integer_s, is_integer_t, is_name_s, is_name_i, is_name_t]
                    exact h
                  · simp [d_is_formula, b_is_formula, c_JOINED, c_TURNS, w_eq heq0]
                    rw [e4]
                    simp [is_tuple_t, is_integer_i, is_integer_s, is_integer_t, is_name_s, is_name_i, is_name_t]
                    exact h
                | @str _ x hs hc =>
                  dsimp only at h
                  have hs : x.length ≤ 16000000 := by omega
                  have fs := flat_strs (l := N)
                  have as := any_strs (l := N) (x := x)
                  rw [List.any_map] at as
                  have fin : ∀ (G : Hm) (Q' : MV → Hm → Prop) (E' : MX → Hm → Prop), isWord x = true → x ∉ N → Q' (.bl (isF m (N ++ [x]) p)) (M ++ G) → wp (run tab (n + m + 5) f_is_formula [p, .tup (N.map MV.str ++ [.str x])] (M ++ G)) Q' E' := fun G Q' E' hw hxN hq => by
                    have e5 : N.map MV.str ++ [.str x] = (N ++ [x]).map MV.str := by simp
                    rw [e5]
                    refine ih p hp (by omega) (fun y hy => ?_) (by simp; omega) hq
                    rcases List.mem_append.mp hy with q | q
                    · exact hN y q
                    · rw [List.mem_singleton.mp q]; exact hw
                  rcases kT with rfl | rfl
                  · simp [d_is_formula, b_is_formula, c_JOINED, c_TURNS, w_eq heq0]
                    rw [e1]
                    simp [is_tuple_t, is_integer_i, is_integer_s, is_integer_t, is_name_s, is_name_i, is_name_t, fs, as]
                    cases hw : isWord x with
                    | false =>
                      rw [hw] at h
                      simpa using h
                    | true =>
                      rw [hw] at h
                      simp
                      refine ifB_p (fun hx => ?_) fun hx => ?_
                      · rw [decide_eq_true hx] at h
                        simpa using h
                      · rw [decide_eq_false hx] at h
                        refine ⟨by omega, ?_⟩
                        rw [← e1]
                        refine D.nil_app (M := M) ▸ fin [] _ _ hw hx ?_
                        simpa using h
                  · simp [d_is_formula, b_is_formula, c_JOINED, c_TURNS, w_eq heq0]
                    rw [e1]
                    simp [is_tuple_t, is_integer_i, is_integer_s, is_integer_t, is_name_s, is_name_i, is_name_t, fs, as]
                    cases hw : isWord x with
                    | false =>
                      rw [hw] at h
                      simpa using h
                    | true =>
                      rw [hw] at h
                      simp
                      refine ifB_p (fun hx => ?_) fun hx => ?_
                      · rw [decide_eq_true hx] at h
                        simpa using h
                      · rw [decide_eq_false hx] at h
                        refine ⟨by omega, ?_⟩
                        rw [← e1]
                        refine D.nil_app (M := M) ▸ fin [] _ _ hw hx ?_
                        simpa using h
              · rw [hF0 fun x p hx => hr ⟨x, p, hx⟩] at h
                have hrl : ¬ ((r.length : Int) + 1 = 3) := fun e => by
                  match r, e with
                  | [x, p], _ => exact hr ⟨x, p, rfl⟩
                  | [x], e => simp at e
                  | [], e => simp at e
                  | x :: y :: z :: t, e => simp at e; omega
                rcases kT with rfl | rfl
                · simp [d_is_formula, b_is_formula, c_JOINED, c_TURNS, w_eq heq0, hrl]
                  rw [e1]
                  simp [is_tuple_t, is_integer_i, is_integer_s, is_integer_t, is_name_s, is_name_i, is_name_t, hrl]
                  exact h
                · simp [d_is_formula, b_is_formula, c_JOINED, c_TURNS, w_eq heq0, hrl]
                  rw [e1]
                  simp [is_tuple_t, is_integer_i, is_integer_s, is_integer_t, is_name_s, is_name_i, is_name_t, hrl]
                  exact h
            · by_cases kR : k = s_div ∨ k = s_spl
              · have hF : ∀ x p, isF (m + 1) N (.tup [.str k, x, p]) = (match x with | .int d => decide (1 ≤ d) && isFormL N p | _ => false) := fun x p => by
                  simp only [isF]
                  rw [if_neg kJ, if_neg kT, if_pos kR]
                  cases x <;> rfl
                have hF0 : (∀ x p, r ≠ [x, p]) → isF (m + 1) N (.tup (.str k :: r)) = false := fun hr => by
                  simp only [isF]
                  rw [if_neg kJ, if_neg kT, if_pos kR]
                  split
                  · exact absurd rfl (hr _ _)
                  · rfl
                by_cases hr : ∃ x p, r = [x, p]
                · obtain ⟨x, p, rfl⟩ := hr
                  rw [hF] at h
                  have hx := hall x (by simp)
                  have hp := hall p (by simp)
                  cases hx with
                  | str =>
                    have e4 : ∀ q, n + q + 5 = (n + q + 4) + 1 := fun q => by omega
                    have e5 : ∀ q, n + q + 4 = (n + q + 1) + 3 := fun q => by omega
                    rcases kR with rfl | rfl
                    · simp [d_is_formula, b_is_formula, c_JOINED, c_TURNS, w_eq heq0]
                      rw [e4]
                      refine w_run rfl rfl ?_
                      rw [e5]
                      simp [d_is_atom, b_is_atom, c_RESTS, is_tuple_t, is_integer_i, is_integer_s, is_integer_t, is_name_s, is_name_i, is_name_t]
                      exact h
                    · simp [d_is_formula, b_is_formula, c_JOINED, c_TURNS, w_eq heq0]
                      rw [e4]
                      refine w_run rfl rfl ?_
                      rw [e5]
                      simp [d_is_atom, b_is_atom, c_RESTS, is_tuple_t, is_integer_i, is_integer_s, is_integer_t, is_name_s, is_name_i, is_name_t]
                      exact h
                  | tup =>
                    have e4 : ∀ q, n + q + 5 = (n + q + 4) + 1 := fun q => by omega
                    have e5 : ∀ q, n + q + 4 = (n + q + 1) + 3 := fun q => by omega
                    rcases kR with rfl | rfl
                    · simp [d_is_formula, b_is_formula, c_JOINED, c_TURNS, w_eq heq0]
                      rw [e4]
                      refine w_run rfl rfl ?_
                      rw [e5]
                      simp [d_is_atom, b_is_atom, c_RESTS, is_tuple_t, is_integer_i, is_integer_s, is_integer_t, is_name_s, is_name_i, is_name_t]
                      exact h
                    · simp [d_is_formula, b_is_formula, c_JOINED, c_TURNS, w_eq heq0]
                      rw [e4]
                      refine w_run rfl rfl ?_
                      rw [e5]
                      simp [d_is_atom, b_is_atom, c_RESTS, is_tuple_t, is_integer_i, is_integer_s, is_integer_t, is_name_s, is_name_i, is_name_t]
                      exact h
                  | @int _ i hi =>
                    dsimp only at h
                    rcases kR with rfl | rfl
                    · simp [d_is_formula, b_is_formula, c_JOINED, c_TURNS, w_eq heq0]
                      rw [e1]
                      refine w_run rfl rfl ?_
                      rw [e3]
                      simp [d_is_atom, b_is_atom, c_RESTS, is_tuple_t, is_integer_i, is_integer_s, is_integer_t, is_name_s, is_name_i, is_name_t]
                      refine ifB_p (fun h1 => ?_) fun h1 => ?_
                      · rw [decide_eq_true h1] at h
                        refine is_form_over_ok hN hz hp ?_
                        simpa using h
                      · rw [decide_eq_false h1] at h
                        simpa using h
                    · simp [d_is_formula, b_is_formula, c_JOINED, c_TURNS, w_eq heq0]
                      rw [e1]
                      refine w_run rfl rfl ?_
                      rw [e3]
                      simp [d_is_atom, b_is_atom, c_RESTS, is_tuple_t, is_integer_i, is_integer_s, is_integer_t, is_name_s, is_name_i, is_name_t]
                      refine ifB_p (fun h1 => ?_) fun h1 => ?_
                      · rw [decide_eq_true h1] at h
                        refine is_form_over_ok hN hz hp ?_
                        simpa using h
                      · rw [decide_eq_false h1] at h
                        simpa using h
                · rw [hF0 fun x p hx => hr ⟨x, p, hx⟩] at h
                  have hrl : ¬ ((r.length : Int) + 1 = 3) := fun e => by
                    match r, e with
                    | [x, p], _ => exact hr ⟨x, p, rfl⟩
                    | [x], e => simp at e
                    | [], e => simp at e
                    | x :: y :: z :: t, e => simp at e; omega
                  rcases kR with rfl | rfl
                  · simp [d_is_formula, b_is_formula, c_JOINED, c_TURNS, w_eq heq0, hrl]
                    rw [e1]
                    refine w_run rfl rfl ?_
                    rw [e3]
                    simp [d_is_atom, b_is_atom, c_RESTS, is_tuple_t, is_integer_i, is_integer_s, is_integer_t, is_name_s, is_name_i, is_name_t, hrl]
                    exact h
                  · simp [d_is_formula, b_is_formula, c_JOINED, c_TURNS, w_eq heq0, hrl]
                    rw [e1]
                    refine w_run rfl rfl ?_
                    rw [e3]
                    simp [d_is_atom, b_is_atom, c_RESTS, is_tuple_t, is_integer_i, is_integer_s, is_integer_t, is_name_s, is_name_i, is_name_t, hrl]
                    exact h
              · by_cases kL : k = s_least ∨ k = s_same
                · have hF : ∀ x, isF (m + 1) N (.tup [.str k, x]) = isFormL N x := fun x => by
                    simp only [isF]
                    rw [if_neg kJ, if_neg kT, if_neg kR, if_pos kL]
                  have hF0 : (∀ x, r ≠ [x]) → isF (m + 1) N (.tup (.str k :: r)) = false := fun hr => by
                    simp only [isF]
                    rw [if_neg kJ, if_neg kT, if_neg kR, if_pos kL]
                    try (split <;> first | rfl | exact absurd rfl (hr _))
                  by_cases hr : ∃ x, r = [x]
                  · obtain ⟨x, rfl⟩ := hr
                    rw [hF] at h
                    have hx := hall x (by simp)
                    rcases kL with rfl | rfl
                    · simp [d_is_formula, b_is_formula, c_JOINED, c_TURNS, w_eq heq0]
                      rw [e1]
                      refine w_run rfl rfl ?_
                      rw [e3]
                      simp [d_is_atom, b_is_atom, c_RESTS, is_tuple_t, is_integer_i, is_integer_s, is_integer_t, is_name_s, is_name_i, is_name_t]
                      refine is_form_over_ok hN hz hx ?_
                      simpa using h
                    · simp [d_is_formula, b_is_formula, c_JOINED, c_TURNS, w_eq heq0]
                      rw [e1]
                      refine w_run rfl rfl ?_
                      rw [e3]
                      simp [d_is_atom, b_is_atom, c_RESTS, is_tuple_t, is_integer_i, is_integer_s, is_integer_t, is_name_s, is_name_i, is_name_t]
                      refine is_form_over_ok hN hz hx ?_
                      simpa using h
                  · rw [hF0 fun x hx => hr ⟨x, hx⟩] at h
                    have hrl : ¬ ((r.length : Int) + 1 = 2) := fun e => by
                      match r, e with
                      | [x], _ => exact hr ⟨x, rfl⟩
                      | [], e => simp at e
                      | x :: y :: t, e => simp at e; omega
                    rcases kL with rfl | rfl
                    · simp [d_is_formula, b_is_formula, c_JOINED, c_TURNS, w_eq heq0, hrl]
                      rw [e1]
                      refine w_run rfl rfl ?_
                      rw [e3]
                      simp [d_is_atom, b_is_atom, c_RESTS, is_tuple_t, is_integer_i, is_integer_s, is_integer_t, is_name_s, is_name_i, is_name_t, hrl]
                      exact h
                    · simp [d_is_formula, b_is_formula, c_JOINED, c_TURNS, w_eq heq0, hrl]
                      rw [e1]
                      refine w_run rfl rfl ?_
                      rw [e3]
                      simp [d_is_atom, b_is_atom, c_RESTS, is_tuple_t, is_integer_i, is_integer_s, is_integer_t, is_name_s, is_name_i, is_name_t, hrl]
                      exact h
                · have hF : isF (m + 1) N (.tup (.str k :: r)) = false := by
                    simp only [isF]
                    rw [if_neg kJ, if_neg kT, if_neg kR, if_neg kL]
                  rw [hF] at h
                  simp only [not_or] at kJ kT kR kL
                  have q1 : ¬ [97, 110, 100] = k := fun q => kJ.1 q.symm
                  have q2 : ¬ [111, 114] = k := fun q => kJ.2 q.symm
                  have q3 : ¬ [97, 108, 108] = k := fun q => kT.1 q.symm
                  have q4 : ¬ [115, 111, 109, 101] = k := fun q => kT.2 q.symm
                  have q5 : ¬ [100, 105, 118, 105, 100, 101, 115] = k := fun q => kR.1 q.symm
                  have q6 : ¬ [115, 112, 108, 105, 116, 115] = k := fun q => kR.2 q.symm
                  have q7 : ¬ [108, 101, 97, 115, 116] = k := fun q => kL.1 q.symm
                  have q8 : ¬ [115, 97, 109, 101] = k := fun q => kL.2 q.symm
                  simp [d_is_formula, b_is_formula, c_JOINED, c_TURNS, w_eq heq0, q1, q2, q3, q4]
                  rw [e1]
                  refine w_run rfl rfl ?_
                  simp [d_is_atom, b_is_atom, c_RESTS, q5, q6, q7, q8]
                  exact h
theorem law_is_formula_ok {z : Nat} (hz : z ≤ 16000000) : ∀ (m : Nat) (d : MV), Da z m d → m < 59 → ∀ {n : Nat} {N : List Tx} {M : Hm} {Q : MV → Hm → Prop} {E : MX → Hm → Prop}, (∀ x ∈ N, isWord x = true) → N.length + m ≤ 100000 → Q (.bl (isF m N d)) M → wp (run tab (n + m + 5) f__law_is_formula [d, .tup (N.map MV.str)] M) Q E := by
  intro m
  induction m with
  | zero =>
    intro d hd h59 n N M Q E hN hNl h
    refine w_run rfl rfl ?_
    cases hd with
    | int =>
      simp [d__law_is_formula, b__law_is_formula]
      exact h
    | str hs =>
      simp [d__law_is_formula, b__law_is_formula]
      exact h
  | succ m ih =>
    intro d hd h59 n N M Q E hN hNl h
    have e0 : n + (m + 1) + 5 = (n + m + 5) + 1 := by omega
    rw [e0]
    refine w_run rfl rfl ?_
    have e1 : n + m + 5 = (n + m + 4) + 1 := by omega
    have e3 : n + m + 4 = (n + m + 1) + 3 := by omega
    have e2 : n + m + 5 = (n + m + 3) + 2 := by omega
    cases hd with
    | int =>
      simp [d__law_is_formula, b__law_is_formula]
      exact h
    | str hs =>
      simp [d__law_is_formula, b__law_is_formula]
      exact h
    | @tup _ l hl hall =>
      have heq : ∀ G : Hm, eqM (M ++ G) (.tup l) (.tup []) = some l.isEmpty := fun G => eq_nil (.tup hl hall) (by omega)
      have heq0 : eqM M (.tup l) (.tup []) = some l.isEmpty := eq_nil (.tup hl hall) (by omega)
      cases l with
      | nil =>
        simp [d__law_is_formula, b__law_is_formula, w_eq heq0]
        exact h
      | cons k0 r =>
        have hk0 := hall k0 (by simp)
        cases hk0 with
        | int =>
          simp [d__law_is_formula, b__law_is_formula, w_eq heq0]
          exact h
        | tup =>
          simp [d__law_is_formula, b__law_is_formula, w_eq heq0]
          exact h
        | @str _ k hs hc =>
          clear hs hc
          by_cases kJ : k = s_and ∨ k = s_or
          · have hF : ∀ x, isF (m + 1) N (.tup [.str k, x]) = (match x with | .tup l => l.all (isF m N) | _ => false) := fun x => by
              simp only [isF]
              rw [if_pos kJ]
              cases x <;> rfl
            have hF0 : (∀ x, r ≠ [x]) → isF (m + 1) N (.tup (.str k :: r)) = false := fun hr => by
              simp only [isF]
              rw [if_pos kJ]
              split
              · exact absurd rfl (hr _)
              · rfl
            by_cases hr : ∃ x, r = [x]
            · obtain ⟨x, rfl⟩ := hr
              rw [hF] at h
              have hx := hall x (by simp)
              cases hx with
              | int =>
                rcases kJ with rfl | rfl
                · simp [d__law_is_formula, b__law_is_formula, w_eq heq0]
                  exact h
                · simp [d__law_is_formula, b__law_is_formula, w_eq heq0]
                  exact h
              | str =>
                rcases kJ with rfl | rfl
                · simp [d__law_is_formula, b__law_is_formula, w_eq heq0]
                  exact h
                · simp [d__law_is_formula, b__law_is_formula, w_eq heq0]
                  exact h
              | @tup m l hl2 hall2 =>
                have fin : ∀ (G : Hm) (Ql : List MV → Hm → Prop) (Es : MX → Hm → Prop), Ql (l.map fun p => .bl (isF (m + 1) N p)) (M ++ G) → wp (lcGo (nT l) (gN 2) cYes (eCall (run tab (n + (m + 1) + 5)) f__law_is_formula (aCons (eVar 2) (aCons (eVar 1) aNil))) [some (.tup [.str k, .tup l]), some (.tup (N.map MV.str)), none] (l.length + 1) 0 [] (M ++ G)) Ql Es := fun G Ql Es hq => by
                  refine w_lcM (fun p => .bl (isF (m + 1) N p)) wk_T (by rw [SL_eq]; omega) (fun p hp => ?_) hq
                  simp
                  exact ih p ((hall2 p hp).mono (Nat.le_refl _) _ (Nat.le_succ _)) (by omega) hN (by omega) ⟨rfl, rfl⟩
                rcases kJ with rfl | rfl
                · simp [d__law_is_formula, b__law_is_formula, w_eq heq0]
                  simp [wipeE]
                  refine fin _ _ _ ?_
                  simp [boolsOf_map]
                  simpa [List.all_map] using h
                · simp [d__law_is_formula, b__law_is_formula, w_eq heq0]
                  simp [wipeE]
                  refine fin _ _ _ ?_
                  simp [boolsOf_map]
                  simpa [List.all_map] using h
            · rw [hF0 fun x hx => hr ⟨x, hx⟩] at h
              have hrl : ¬ ((r.length : Int) + 1 = 2) := fun e => by
                match r, e with
                | [x], _ => exact hr ⟨x, rfl⟩
                | [], e => simp at e
                | x :: y :: t, e => simp at e; omega
              rcases kJ with rfl | rfl
              · simp [d__law_is_formula, b__law_is_formula, w_eq heq0, hrl]
                exact h
              · simp [d__law_is_formula, b__law_is_formula, w_eq heq0, hrl]
                exact h
          · by_cases kT : k = s_all ∨ k = s_some
            · have hF : ∀ x p, isF (m + 1) N (.tup [.str k, x, p]) = (match x with | .str x => isWord x && (!decide (x ∈ N) && isF m (N ++ [x]) p) | _ => false) := fun x p => by
                simp only [isF]
                rw [if_neg kJ, if_pos kT]
                cases x <;> rfl
              have hF0 : (∀ x p, r ≠ [x, p]) → isF (m + 1) N (.tup (.str k :: r)) = false := fun hr => by
                simp only [isF]
                rw [if_neg kJ, if_pos kT]
                split
                · exact absurd rfl (hr _ _)
                · rfl
              by_cases hr : ∃ x p, r = [x, p]
              · obtain ⟨x, p, rfl⟩ := hr
                rw [hF] at h
                have hx := hall x (by simp)
                have hp := hall p (by simp)
                cases hx with
                | int =>
                  have e4 : ∀ q, n + q + 5 = (n + q + 4) + 1 := fun q => by omega
                  rcases kT with rfl | rfl
                  · simp [d__law_is_formula, b__law_is_formula, w_eq heq0]
                    rw [e4]
                    simp [is_word_i, is_word_t]
                    exact h
                  · simp [d__law_is_formula, b__law_is_formula, w_eq heq0]
                    rw [e4]
                    simp [is_word_i, is_word_t]
                    exact h
                | tup =>
                  have e4 : ∀ q, n + q + 5 = (n + q + 4) + 1 := fun q => by omega
                  rcases kT with rfl | rfl
                  · simp [d__law_is_formula, b__law_is_formula, w_eq heq0]
                    rw [e4]
                    simp [is_word_i, is_word_t]
                    exact h
                  · simp [d__law_is_formula, b__law_is_formula, w_eq heq0]
                    rw [e4]
                    simp [is_word_i, is_word_t]
                    exact h
                | @str _ x hs hc =>
                  dsimp only at h
                  have hs : x.length ≤ 16000000 := by omega
                  have fs := flat_strs (l := N)
                  have as := any_strs (l := N) (x := x)
                  rw [List.any_map] at as
                  have fin : ∀ (G : Hm) (Q' : MV → Hm → Prop) (E' : MX → Hm → Prop), isWord x = true → x ∉ N → Q' (.bl (isF m (N ++ [x]) p)) (M ++ G) → wp (run tab (n + m + 5) f__law_is_formula [p, .tup (N.map MV.str ++ [.str x])] (M ++ G)) Q' E' := fun G Q' E' hw hxN hq => by
                    have e5 : N.map MV.str ++ [.str x] = (N ++ [x]).map MV.str := by simp
                    rw [e5]
                    refine ih p hp (by omega) (fun y hy => ?_) (by simp; omega) hq
                    rcases List.mem_append.mp hy with q | q
                    · exact hN y q
                    · rw [List.mem_singleton.mp q]; exact hw
                  rcases kT with rfl | rfl
                  · simp [d__law_is_formula, b__law_is_formula, w_eq heq0]
                    rw [e1]
                    simp [is_word_s hs, fs, as]
                    cases hw : isWord x with
                    | false =>
                      rw [hw] at h
                      simpa using h
                    | true =>
                      rw [hw] at h
                      simp
                      refine ifB_p (fun hx => ?_) fun hx => ?_
                      · rw [decide_eq_true hx] at h
                        simpa using h
                      · rw [decide_eq_false hx] at h
                        refine ⟨by omega, ?_⟩
                        rw [← e1]
                        refine fin _ _ _ hw hx ?_
                        simpa using h
                  · simp [d__law_is_formula, b__law_is_formula, w_eq heq0]
                    rw [e1]
                    simp [is_word_s hs, fs, as]
                    cases hw : isWord x with
                    | false =>
                      rw [hw] at h
                      simpa using h
                    | true =>
                      rw [hw] at h
                      simp
                      refine ifB_p (fun hx => ?_) fun hx => ?_
                      · rw [decide_eq_true hx] at h
                        simpa using h
                      · rw [decide_eq_false hx] at h
                        refine ⟨by omega, ?_⟩
                        rw [← e1]
                        refine fin _ _ _ hw hx ?_
                        simpa using h
              · rw [hF0 fun x p hx => hr ⟨x, p, hx⟩] at h
                have hrl : ¬ ((r.length : Int) + 1 = 3) := fun e => by
                  match r, e with
                  | [x, p], _ => exact hr ⟨x, p, rfl⟩
                  | [x], e => simp at e
                  | [], e => simp at e
                  | x :: y :: z :: t, e => simp at e; omega
                rcases kT with rfl | rfl
                · simp [d__law_is_formula, b__law_is_formula, w_eq heq0, hrl]
                  exact h
                · simp [d__law_is_formula, b__law_is_formula, w_eq heq0, hrl]
                  exact h
            · by_cases kR : k = s_div ∨ k = s_spl
              · have hF : ∀ x p, isF (m + 1) N (.tup [.str k, x, p]) = (match x with | .int d => decide (1 ≤ d) && isFormL N p | _ => false) := fun x p => by
                  simp only [isF]
                  rw [if_neg kJ, if_neg kT, if_pos kR]
                  cases x <;> rfl
                have hF0 : (∀ x p, r ≠ [x, p]) → isF (m + 1) N (.tup (.str k :: r)) = false := fun hr => by
                  simp only [isF]
                  rw [if_neg kJ, if_neg kT, if_pos kR]
                  split
                  · exact absurd rfl (hr _ _)
                  · rfl
                by_cases hr : ∃ x p, r = [x, p]
                · obtain ⟨x, p, rfl⟩ := hr
                  rw [hF] at h
                  have hx := hall x (by simp)
                  have hp := hall p (by simp)
                  cases hx with
                  | str =>
                    have e4 : ∀ q, n + q + 5 = (n + q + 4) + 1 := fun q => by omega
                    have e5 : ∀ q, n + q + 4 = (n + q + 1) + 3 := fun q => by omega
                    rcases kR with rfl | rfl
                    · simp [d__law_is_formula, b__law_is_formula, w_eq heq0]
                      rw [e4]
                      simp [is_int_i, is_int_s, is_int_t]
                      exact h
                    · simp [d__law_is_formula, b__law_is_formula, w_eq heq0]
                      rw [e4]
                      simp [is_int_i, is_int_s, is_int_t]
                      exact h
                  | tup =>
                    have e4 : ∀ q, n + q + 5 = (n + q + 4) + 1 := fun q => by omega
                    have e5 : ∀ q, n + q + 4 = (n + q + 1) + 3 := fun q => by omega
                    rcases kR with rfl | rfl
                    · simp [d__law_is_formula, b__law_is_formula, w_eq heq0]
                      rw [e4]
                      simp [is_int_i, is_int_s, is_int_t]
                      exact h
                    · simp [d__law_is_formula, b__law_is_formula, w_eq heq0]
                      rw [e4]
                      simp [is_int_i, is_int_s, is_int_t]
                      exact h
                  | @int _ i hi =>
                    dsimp only at h
                    rcases kR with rfl | rfl
                    · simp [d__law_is_formula, b__law_is_formula, w_eq heq0]
                      rw [e2]
                      simp [is_int_i, is_int_s, is_int_t]
                      refine ifB_p (fun h1 => ?_) fun h1 => ?_
                      · rw [decide_eq_true h1] at h
                        refine law_is_form_ok hp ?_
                        simpa using h
                      · rw [decide_eq_false h1] at h
                        simpa using h
                    · simp [d__law_is_formula, b__law_is_formula, w_eq heq0]
                      rw [e2]
                      simp [is_int_i, is_int_s, is_int_t]
                      refine ifB_p (fun h1 => ?_) fun h1 => ?_
                      · rw [decide_eq_true h1] at h
                        refine law_is_form_ok hp ?_
                        simpa using h
                      · rw [decide_eq_false h1] at h
                        simpa using h
                · rw [hF0 fun x p hx => hr ⟨x, p, hx⟩] at h
                  have hrl : ¬ ((r.length : Int) + 1 = 3) := fun e => by
                    match r, e with
                    | [x, p], _ => exact hr ⟨x, p, rfl⟩
                    | [x], e => simp at e
                    | [], e => simp at e
                    | x :: y :: z :: t, e => simp at e; omega
                  rcases kR with rfl | rfl
                  · simp [d__law_is_formula, b__law_is_formula, w_eq heq0, hrl]
                    exact h
                  · simp [d__law_is_formula, b__law_is_formula, w_eq heq0, hrl]
                    exact h
              · by_cases kL : k = s_least ∨ k = s_same
                · have hF : ∀ x, isF (m + 1) N (.tup [.str k, x]) = isFormL N x := fun x => by
                    simp only [isF]
                    rw [if_neg kJ, if_neg kT, if_neg kR, if_pos kL]
                  have hF0 : (∀ x, r ≠ [x]) → isF (m + 1) N (.tup (.str k :: r)) = false := fun hr => by
                    simp only [isF]
                    rw [if_neg kJ, if_neg kT, if_neg kR, if_pos kL]
                    try (split <;> first | rfl | exact absurd rfl (hr _))
                  by_cases hr : ∃ x, r = [x]
                  · obtain ⟨x, rfl⟩ := hr
                    rw [hF] at h
                    have hx := hall x (by simp)
                    rcases kL with rfl | rfl
                    · simp [d__law_is_formula, b__law_is_formula, w_eq heq0]
                      rw [e2]
                      refine law_is_form_ok hx ?_
                      simpa using h
                    · simp [d__law_is_formula, b__law_is_formula, w_eq heq0]
                      rw [e2]
                      refine law_is_form_ok hx ?_
                      simpa using h
                  · rw [hF0 fun x hx => hr ⟨x, hx⟩] at h
                    have hrl : ¬ ((r.length : Int) + 1 = 2) := fun e => by
                      match r, e with
                      | [x], _ => exact hr ⟨x, rfl⟩
                      | [], e => simp at e
                      | x :: y :: t, e => simp at e; omega
                    rcases kL with rfl | rfl
                    · simp [d__law_is_formula, b__law_is_formula, w_eq heq0, hrl]
                      exact h
                    · simp [d__law_is_formula, b__law_is_formula, w_eq heq0, hrl]
                      exact h
                · have hF : isF (m + 1) N (.tup (.str k :: r)) = false := by
                    simp only [isF]
                    rw [if_neg kJ, if_neg kT, if_neg kR, if_neg kL]
                  rw [hF] at h
                  simp only [not_or] at kJ kT kR kL
                  have q1 : ¬ [97, 110, 100] = k := fun q => kJ.1 q.symm
                  have q2 : ¬ [111, 114] = k := fun q => kJ.2 q.symm
                  have q3 : ¬ [97, 108, 108] = k := fun q => kT.1 q.symm
                  have q4 : ¬ [115, 111, 109, 101] = k := fun q => kT.2 q.symm
                  have q5 : ¬ [100, 105, 118, 105, 100, 101, 115] = k := fun q => kR.1 q.symm
                  have q6 : ¬ [115, 112, 108, 105, 116, 115] = k := fun q => kR.2 q.symm
                  have q7 : ¬ [108, 101, 97, 115, 116] = k := fun q => kL.1 q.symm
                  have q8 : ¬ [115, 97, 109, 101] = k := fun q => kL.2 q.symm
                  simp [d__law_is_formula, b__law_is_formula, w_eq heq0, q1, q2, q3, q4, q5, q6, q7, q8]
                  exact h
end K01
set_option maxRecDepth 100000
namespace K01
open Mi
/-! ### trees drawn -/
/-- the names stand at j -/
structure Nms (M : Hm) (a j : Nat) (N : List Tx) : Prop where
  at_ : M[j]? = some (.lst (N.map MV.str))
  ne : j ≠ a
  few : N.length ≤ 7
  pos : 0 < N.length
  ch : ∀ x ∈ N, ∀ c ∈ x, c < 1114112
theorem Nms.set {M : Hm} {a j : Nat} {N : List Tx} (h : Nms M a j N) (o : MO) : Nms (M.set a o) a j N := ⟨by rw [List.getElem?_set_ne (Ne.symm h.ne)]; exact h.at_, h.ne, h.few, h.pos, h.ch⟩
theorem Nms.app {M G : Hm} {a j : Nat} {N : List Tx} (h : Nms M a j N) : Nms (M ++ G) a j N := ⟨get_old h.at_, h.ne, h.few, h.pos, h.ch⟩
theorem log_few {k : Int} (h0 : 0 ≤ k) (h : k < 100000) : k.natAbs.log2 < 9000 := by
  have := log2_few (n := k.natAbs) (k := 64) (by omega) (by decide)
  omega
theorem set_ap {M G : Hm} {a : Nat} {o : MO} (h : a < M.length) : (M ++ G).set a o = M.set a o ++ G := List.set_append_left _ _ h
theorem set_n {M G : Hm} {a b : Nat} {ns : List Int} {u v : Int × Int × Int} (s : Sta M a b ns) : (M.set a (sto b u) ++ G).set a (sto b v) = M.set a (sto b v) ++ G := by simp [set_ap, s.la]
theorem draw_n {n a b : Nat} {ns : List Int} {most : Int} {u : Int × Int × Int} {M G : Hm} {Q : MV → Hm → Prop} {E : MX → Hm → Prop} (s : Sta M a b ns) (h0 : 0 < most) (hl : most.natAbs.log2 < 9000)
    (h : ∀ k v, 0 ≤ k → k < most → Q (.int k) (M.set a (sto b v) ++ G)) : wp (run tab (n + 1) f__law_draw [.ref a, .int most] (M.set a (sto b u) ++ G)) Q E :=
  draw_ok (s.set u).app h0 hl fun k v h1 h2 => by rw [set_n s]; exact h k v h1 h2
section
variable {a b j n : Nat} {ns : List Int} {N : List Tx} {M G : Hm} {Q : MV → Hm → Prop} {E : MX → Hm → Prop}
theorem name_ok {m : Nat} {u : Int × Int × Int} (s : Sta M a b ns) (nm : Nms M a j N) (h : ∀ e u, SA N m e → Q e (M.set a (sto b u))) :
    wp (run tab (n + 2) f__law_one_of [.ref a, .ref j] (M.set a (sto b u) ++ G)) (fun x M1 => gcQ M M1 (.tup [.str [110, 97, 109, 101], x]) Q) E := by
  refine one_of_ok (s.set u).app (.inr ⟨j, rfl, (nm.set _).app.at_, nm.ne⟩) (by rw [List.length_map]; exact nm.pos) (by rw [List.length_map]; have := nm.few; omega) fun d u2 hd => ?_
  obtain ⟨x, hx, rfl⟩ := List.mem_map.mp hd
  simp [set_ap, s.la, s.rf]
  exact h _ _ (.name hx)
theorem num_ok {m : Nat} {u : Int × Int × Int} (s : Sta M a b ns) (h : ∀ e u, SA N m e → Q e (M.set a (sto b u))) :
    wp (run tab (n + 1) f__law_draw [.ref a, .int 10] (M.set a (sto b u) ++ G)) (fun x M1 => wp (run tab (n + 1) f__law_draw [.ref a, .int 1000] M1) (fun y M1 => wp (run tab (n + 1) f__law_draw [.ref a, .int 9] (M1 ++ [.lst [x, y]])) (fun w M2 =>
      wp (fEq w (.int 0) M2) (fun w M3 => wp (fIntOf [w] M3) (fun w M4 => wp (fIxA (.ref M1.length) w M4) (fun x M1 => gcQ M M1 (.tup [.str [110, 117, 109, 98, 101, 114], x]) Q) E) E) E) E) E) E := by
  refine draw_ok (s.set u).app (by decide) (by decide) fun x u2 h0 h1 => ?_
  refine draw_ok (((s.set u).app).set u2) (by decide) (by decide) fun y u3 h2 h3 => ?_
  have e1 : (((M.set a (sto b u) ++ G).set a (sto b u2)).set a (sto b u3)) = M.set a (sto b u3) ++ G := by simp [set_ap, s.la]
  rw [e1]
  refine draw_ok ((s.set u3).app).app (by decide) (by decide) fun w u4 h4 h5 => ?_
  have e2 : ((M.set a (sto b u3) ++ G ++ [MO.lst [.int x, .int y]]).set a (sto b u4)) = M.set a (sto b u4) ++ (G ++ [MO.lst [.int x, .int y]]) := by simp [set_ap, s.la]
  rw [e2]
  have hg : (M.set a (sto b u4) ++ (G ++ [MO.lst [.int x, .int y]]))[M.length + G.length]? = some (.lst [.int x, .int y]) := by
    have : M.length = (M.set a (sto b u4)).length := by simp
    rw [this, get_app]
    simp
  simp
  by_cases hw : w = 0
  · simp [hw, rdLD_l hg, s.rf]
    exact h _ _ (.num (by omega) (by omega))
  · simp [hw, rdLD_l hg, s.rf]
    exact h _ _ (.num (by omega) (by omega))
end
theorem sum_ast_ok {a b : Nat} {ns : List Int} {j : Nat} {N : List Tx} : ∀ (m : Nat) {n : Nat} {M : Hm} {Q : MV → Hm → Prop} {E : MX → Hm → Prop}, Sta M a b ns → Nms M a j N → (∀ e u, SA N m e → Q e (M.set a (sto b u))) → wp (run tab (n + m + 3) f__law_sum_ast [.ref a, .ref j, .int m] M) Q E := by
  have hneG : ∀ {M : Hm} {u : Int × Int × Int}, Nms M a j N → eqM (M.set a (sto b u) ++ [.lst []]) (.ref j) (.ref M.length) = some false := fun {M u} nm => by
    rw [eq_lst nm.ch (get_old (nm.set _).at_) (by have := get_last (M := M.set a (sto b u)) (o := .lst []); rwa [List.length_set] at this)]
    have := nm.pos
    cases N with
    | nil => simp at this
    | cons x N => rfl
  intro m
  induction m with
  | zero =>
    intro n M Q E s nm h
    refine w_run rfl rfl ?_
    simp [d__law_sum_ast, b__law_sum_ast]
    refine draw_ok s (by decide) (by decide) fun k u h0 h9 => ?_
    simp [w_eq (hneG nm)]
    refine ifB_p (fun _ => name_ok s nm h) fun _ => ?_
    refine ifB_p (fun _ => name_ok s nm h) fun _ => ?_
    refine ifB_p (fun _ => num_ok s h) fun _ => num_ok s h
  | succ m ih =>
    intro n M Q E s nm h
    have e0 : n + (m + 1) + 3 = (n + m + 3) + 1 := by omega
    rw [e0]
    refine w_run rfl rfl ?_
    have hm0 : ¬ ((m : Int) + 1 = 0) := by omega
    simp [d__law_sum_ast, b__law_sum_ast]
    refine draw_ok s (by decide) (by decide) fun k u h0 h9 => ?_
    simp [w_eq (hneG nm), hm0]
    refine ifB_p (fun _ => name_ok s nm h) fun _ => ?_
    refine ifB_p (fun _ => num_ok s h) fun _ => ?_
    refine ifB_p (fun _ => ?_) fun _ => ?_
    · refine draw_n s (by decide) (by decide) fun t v h4 h5 => ?_
      refine ih (s.set v).app (nm.set _).app fun e w he => ?_
      rw [set_n s]
      simp [s.rf, he.pu.rf]
      exact h _ _ (.times h4 h5 he)
    refine ifB_p (fun _ => ?_) fun _ => ?_
    · refine ih (s.set u).app (nm.set _).app fun e w he => ?_
      rw [set_n s]
      simp [s.rf, he.pu.rf]
      exact h _ _ (.neg he)
    refine ih (s.set u).app (nm.set _).app fun e w he => ?_
    rw [set_n s]
    simp
    have e3 : ∀ (v : Int × Int × Int), (M.set a (sto b v) ++ [MO.lst [], MO.lst [.str [112, 108, 117, 115], .str [109, 105, 110, 117, 115]]])[M.length + 1]? = some (.lst [.str [112, 108, 117, 115], .str [109, 105, 110, 117, 115]]) := fun v => by
      have : M.length = (M.set a (sto b v)).length := by simp
      rw [this, get_app]
      simp
    refine draw_n s (by decide) (by decide) fun t v h4 h5 => ?_
    have ht : t = 0 ∨ t = 1 := by omega
    rcases ht with rfl | rfl
    · simp [rdLD_l (e3 v)]
      refine ih (s.set v).app (nm.set _).app fun f w hf => ?_
      rw [set_n s]
      simp [s.rf, he.pu.rf, hf.pu.rf]
      exact h _ _ (.two (.inl rfl) he hf)
    · simp [rdLD_l (e3 v)]
      refine ih (s.set v).app (nm.set _).app fun f w hf => ?_
      rw [set_n s]
      simp [s.rf, he.pu.rf, hf.pu.rf]
      exact h _ _ (.two (.inr rfl) he hf)
theorem atom_ast_ok {a b j n : Nat} {ns : List Int} {N : List Tx} {M : Hm} {Q : MV → Hm → Prop} {E : MX → Hm → Prop} (s : Sta M a b ns) (nm : Nms M a j N) (h : ∀ e u, AA N e → Q e (M.set a (sto b u))) : wp (run tab (n + 5) f__law_atom_ast [.ref a, .ref j, .int 1] M) Q E := by
  have ast : ∀ {M : Hm} {Q : MV → Hm → Prop} {E : MX → Hm → Prop}, Sta M a b ns → Nms M a j N → (∀ e u, SA N 1 e → Q e (M.set a (sto b u))) → wp (run tab (n + 4) f__law_sum_ast [.ref a, .ref j, .int 1] M) Q E := fun s nm h => sum_ast_ok 1 s nm h
  refine w_run rfl rfl ?_
  simp [d__law_atom_ast, b__law_atom_ast]
  refine ast s nm fun e u he => ?_
  refine draw_ok (s.set u) (by decide) (by decide) fun k v h0 h1 => ?_
  simp
  refine ifB_p (fun _ => ?_) fun _ => ?_
  · refine draw_ok (s.set v) (by decide) (by decide) fun k w h2 h3 => ?_
    simp
    have e3 : ∀ (v : Int × Int × Int), (M.set a (sto b v) ++ [MO.lst [.str [61, 61], .str [33, 61]]])[M.length]? = some (.lst [.str [61, 61], .str [33, 61]]) := fun v => by
      have : M.length = (M.set a (sto b v)).length := by simp
      rw [this, get_app0]
      simp
    refine draw_n s (by decide) (by decide) fun t v h4 h5 => ?_
    have ht : t = 0 ∨ t = 1 := by omega
    rcases ht with rfl | rfl
    · simp [rdLD_l (e3 v)]
      refine draw_n s (by omega) (log_few (by omega) (by omega)) fun r v h6 h7 => ?_
      simp [s.rf, he.pu.rf]
      exact h _ _ (.rest (.inl rfl) he (by omega) (by omega) h6 h7)
    · simp [rdLD_l (e3 v)]
      refine draw_n s (by omega) (log_few (by omega) (by omega)) fun r v h6 h7 => ?_
      simp [s.rf, he.pu.rf]
      exact h _ _ (.rest (.inr rfl) he (by omega) (by omega) h6 h7)
  · have e3 : ∀ (v : Int × Int × Int), (M.set a (sto b v) ++ [MO.lst [.str [60], .str [60, 61], .str [62], .str [62, 61], .str [61, 61], .str [33, 61]]])[M.length]? = some (.lst [.str [60], .str [60, 61], .str [62], .str [62, 61], .str [61, 61], .str [33, 61]]) := fun v => by
      have : M.length = (M.set a (sto b v)).length := by simp
      rw [this, get_app0]
      simp
    refine draw_n s (by decide) (by decide) fun t v h4 h5 => ?_
    have ht : t = 0 ∨ t = 1 ∨ t = 2 ∨ t = 3 ∨ t = 4 ∨ t = 5 := by omega
    rcases ht with rfl | rfl | rfl | rfl | rfl | rfl
    all_goals
      simp [rdLD_l (e3 v)]
      refine ast (s.set v).app (nm.set _).app fun f w hf => ?_
      rw [set_n s]
      simp [s.rf, he.pu.rf, hf.pu.rf]
      exact h _ _ (.cmp (by simp) he hf)
theorem condition_ok {a b : Nat} {ns : List Int} {j : Nat} {N : List Tx} : ∀ (m : Nat) {n : Nat} {M : Hm} {Q : MV → Hm → Prop} {E : MX → Hm → Prop}, Sta M a b ns → Nms M a j N → (∀ e u, CA N m e → Q e (M.set a (sto b u))) → wp (run tab (n + m + 6) f__law_condition [.ref a, .ref j, .int m] M) Q E := by
  intro m
  induction m with
  | zero =>
    intro n M Q E s nm h
    refine w_run rfl rfl ?_
    simp [d__law_condition, b__law_condition]
    refine draw_ok s (by decide) (by decide) fun k u h0 h9 => ?_
    refine atom_ast_ok (s.set u) (nm.set _) fun e v he => ?_
    simp [s.rf, he.pu.rf]
    exact h _ _ (.atom he)
  | succ m ih =>
    intro n M Q E s nm h
    have e0 : n + (m + 1) + 6 = (n + m + 6) + 1 := by omega
    rw [e0]
    refine w_run rfl rfl ?_
    have hm0 : ¬ ((m : Int) + 1 = 0) := by omega
    simp [d__law_condition, b__law_condition]
    refine draw_ok s (by decide) (by decide) fun k u h0 h9 => ?_
    simp [hm0]
    refine ifB_p (fun _ => ?_) fun _ => ?_
    · have e1 : n + m + 6 = (n + m + 1) + 5 := by omega
      rw [e1]
      refine atom_ast_ok (s.set u) (nm.set _) fun e v he => ?_
      simp [s.rf, he.pu.rf]
      exact h _ _ (.atom he)
    refine ifB_p (fun _ => ?_) fun _ => ?_
    · refine ih (s.set u) (nm.set _) fun e v he => ?_
      simp [s.rf, he.pu.rf]
      exact h _ _ (.not he)
    have e3 : ∀ (v : Int × Int × Int), (M.set a (sto b v) ++ [MO.lst [.str [111, 114], .str [97, 110, 100]]])[M.length]? = some (.lst [.str [111, 114], .str [97, 110, 100]]) := fun v => by
      have : M.length = (M.set a (sto b v)).length := by simp
      rw [this, get_app0]
      simp
    refine draw_n s (by decide) (by decide) fun t v h4 h5 => ?_
    have ht : t = 0 ∨ t = 1 := by omega
    rcases ht with rfl | rfl
    · simp [rdLD_l (e3 v)]
      refine ih (s.set v).app (nm.set _).app fun e w he => ?_
      rw [set_n s]
      refine ih (s.set w).app (nm.set _).app fun f w hf => ?_
      rw [set_n s]
      simp [s.rf, he.pu.rf, hf.pu.rf]
      exact h _ _ (.two (.inl rfl) he hf)
    · simp [rdLD_l (e3 v)]
      refine ih (s.set v).app (nm.set _).app fun e w he => ?_
      rw [set_n s]
      refine ih (s.set w).app (nm.set _).app fun f w hf => ?_
      rw [set_n s]
      simp [s.rf, he.pu.rf, hf.pu.rf]
      exact h _ _ (.two (.inr rfl) he hf)
end K01
set_option maxRecDepth 100000
namespace K01
open Mi
/-! ### from trees to formulas -/
theorem sum_form_ok {N N' : List Tx} {kt : Nat} (hN : N.length ≤ 7) (hs : ∀ x ∈ N, x ∈ N') : ∀ (m : Nat) (e : MV), SA N m e → ∀ {n : Nat} {M : Hm} {Q : MV → Hm → Prop} {E : MX → Hm → Prop}, M[kt]? = some (.dic (tbD (varsT N'))) →
    (∀ c l, CF (1000 * 64 ^ m) c l → (∀ p ∈ l, p.1 ∈ N) → Q (fm c l) M) → wp (run tab (n + m + 3) f__law_sum_form [e, .ref kt] M) Q E := by
  intro m
  have base : ∀ {m : Nat} (e : MV), SA N m e → (∃ x, e = .tup [.str a_name, .str x] ∧ x ∈ N) ∨ (∃ i, e = .tup [.str a_number, .int i] ∧ 0 ≤ i ∧ i < 1000) ∨ ∃ m', m = m' + 1 ∧ ((∃ k d, e = .tup [.str a_times, .int k, d] ∧ 0 ≤ k ∧ k < 4 ∧ SA N m' d) ∨ (∃ d, e = .tup [.str a_neg, d] ∧ SA N m' d) ∨ ∃ k d f, e = .tup [.str k, d, f] ∧ (k = a_plus ∨ k = a_minus) ∧ SA N m' d ∧ SA N m' f) := fun e h => by
    cases h with
    | name h => exact .inl ⟨_, rfl, h⟩
    | num h0 h1 => exact .inr (.inl ⟨_, rfl, h0, h1⟩)
    | times h0 h1 h => exact .inr (.inr ⟨_, rfl, .inl ⟨_, _, rfl, h0, h1, h⟩⟩)
    | neg h => exact .inr (.inr ⟨_, rfl, .inr (.inl ⟨_, rfl, h⟩)⟩)
    | two hk h h' => exact .inr (.inr ⟨_, rfl, .inr (.inr ⟨_, _, _, rfl, hk, h, h'⟩)⟩)
  have up : ∀ m : Nat, 1000 ≤ 1000 * 64 ^ m := fun m => by
    have := Nat.pow_le_pow_right (n := 64) (by decide) (Nat.zero_le m)
    omega
  have h64 : ∀ m : Nat, 64 * (1000 * 64 ^ m) = 1000 * 64 ^ (m + 1) := fun m => by rw [Nat.pow_succ]; omega
  induction m with
  | zero =>
    intro e he n M Q E hk h
    refine w_run rfl rfl ?_
    rcases base e he with ⟨x, rfl, hx⟩ | ⟨i, rfl, h0, h1⟩ | ⟨m', hm, _⟩
    · simp [d__law_sum_form, b__law_sum_form, rdD_of hk, tb_get, vars_get (hs x hx)]
      exact h _ _ (var_cf hx).1 (var_cf hx).2
    · simp [d__law_sum_form, b__law_sum_form]
      exact h i [] ((num_cf (N := N) h0 h1).1) (num_cf h0 h1).2
    · omega
  | succ m ih =>
    intro e he n M Q E hk h
    have e0 : n + (m + 1) + 3 = (n + m + 3) + 1 := by omega
    have e2 : n + m + 3 = (n + m + 1) + 2 := by omega
    rw [e0]
    refine w_run rfl rfl ?_
    rcases base e he with ⟨x, rfl, hx⟩ | ⟨i, rfl, h0, h1⟩ | ⟨m', hm, q⟩
    · simp [d__law_sum_form, b__law_sum_form, rdD_of hk, tb_get, vars_get (hs x hx)]
      exact h _ _ ((var_cf hx).1.le (up _)) (var_cf hx).2
    · simp [d__law_sum_form, b__law_sum_form]
      exact h i [] (((num_cf (N := N) h0 h1).1).le (up _)) (num_cf h0 h1).2
    · obtain rfl : m = m' := by omega
      rcases q with ⟨k, d, rfl, h0, h1, hd⟩ | ⟨d, rfl, hd⟩ | ⟨k, d, f, rfl, hkk, hd, hf⟩
      · simp [d__law_sum_form, b__law_sum_form]
        refine ih d hd hk fun c l hc hl => ?_
        have key := sum_cf (ps := [(k, c, l)]) hN (by simp) (fun q hq => by rw [List.mem_singleton.mp hq]; exact ⟨by show k.natAbs ≤ 3; omega, hc, hl⟩) (by have := up m; omega)
        rw [h64] at key
        rw [e2]
        refine law_sum_ok (ps := [(k, c, l)]) (by rw [get_app0]; simp) (fun q hq => by rw [List.mem_singleton.mp hq]; show k.natAbs < _; omega) (by have := key.2.2; omega) (Nat.lt_of_le_of_lt (len_sumsA _) (by have := key.2.2; omega)) ?_
        simp
        have := h _ _ key.1 key.2.1
        simpa using this
      · simp [d__law_sum_form, b__law_sum_form]
        refine ih d hd hk fun c l hc hl => ?_
        have key := sum_cf (ps := [(-1, c, l)]) hN (by simp) (fun q hq => by rw [List.mem_singleton.mp hq]; exact ⟨by show (-1 : Int).natAbs ≤ 3; decide, hc, hl⟩) (by have := up m; omega)
        rw [h64] at key
        rw [e2]
        refine law_sum_ok (ps := [(-1, c, l)]) (by rw [get_app0]; simp) (fun q hq => by rw [List.mem_singleton.mp hq]; show (-1 : Int).natAbs < _; decide) (by have := key.2.2; omega) (Nat.lt_of_le_of_lt (len_sumsA _) (by have := key.2.2; omega)) ?_
        simp
        have := h _ _ key.1 key.2.1
        simpa using this
      · have fin : ∀ (z c c' : Int) (l l' : Ps) (G : Hm) (Q' : MV → Hm → Prop) (E' : MX → Hm → Prop), (z = 1 ∨ z = -1) → CF (1000 * 64 ^ m) c l → (∀ p ∈ l, p.1 ∈ N) → CF (1000 * 64 ^ m) c' l' → (∀ p ∈ l', p.1 ∈ N) → (∀ C L, CF (1000 * 64 ^ (m + 1)) C L → (∀ p ∈ L, p.1 ∈ N) → Q' (fm C L) (M ++ [.lst [.tup [.int 1, fm c' l'], .tup [.int z, fm c l]]])) →
            wp (run tab (n + m + 3) f__law_sum [.ref M.length] (M ++ [.lst [.tup [.int 1, fm c' l'], .tup [.int z, fm c l]]])) Q' E' := fun z c c' l l' G Q' E' hz hc hl hc' hl' hq => by
          have key := sum_cf (ps := [(1, c', l'), (z, c, l)]) hN (by simp) (fun q hq => by
            rcases List.mem_cons.mp hq with e | e
            · rw [e]; exact ⟨by show (1 : Int).natAbs ≤ 3; decide, hc', hl'⟩
            · rw [List.mem_singleton.mp e]
              exact ⟨by show z.natAbs ≤ 3; omega, hc, hl⟩) (by have := up m; omega)
          rw [h64] at key
          rw [e2]
          refine law_sum_ok (ps := [(1, c', l'), (z, c, l)]) (by rw [get_app0]; simp) (fun q hq => by
            rcases List.mem_cons.mp hq with e | e
            · rw [e]; show (1 : Int).natAbs < _; decide
            · rw [List.mem_singleton.mp e]; show z.natAbs < _; omega) (by have := key.2.2; omega) (Nat.lt_of_le_of_lt (len_sumsA _) (by have := key.2.2; omega)) ?_
          exact hq _ _ key.1 key.2.1
        rcases hkk with rfl | rfl
        · simp [d__law_sum_form, b__law_sum_form]
          refine ⟨by decide, ?_⟩
          refine ih d hd hk fun c' l' hc' hl' => ?_
          refine ih f hf hk fun c l hc hl => ?_
          refine fin 1 c c' l l' [] _ _ (.inl rfl) hc hl hc' hl' fun c l hc hl => ?_
          simp
          exact h _ _ hc hl
        · simp [d__law_sum_form, b__law_sum_form]
          refine ⟨by decide, ?_⟩
          refine ih d hd hk fun c' l' hc' hl' => ?_
          refine ih f hf hk fun c l hc hl => ?_
          refine fin (-1) c c' l l' [] _ _ (.inr rfl) hc hl hc' hl' fun c l hc hl => ?_
          simp
          exact h _ _ hc hl
theorem sum2_ok {n b : Nat} {N : List Tx} {z c c' : Int} {l l' : Ps} {M G : Hm} {i : Nat} {Q : MV → Hm → Prop} {E : MX → Hm → Prop} (hN : N.length ≤ 7) (hi : (M ++ G)[i]? = some (.lst [.tup [.int 1, fm c' l'], .tup [.int z, fm c l]])) (hz : z = 1 ∨ z = -1) (hb : 1 ≤ b) (hc : CF b c l) (hl : ∀ p ∈ l, p.1 ∈ N) (hc' : CF b c' l') (hl' : ∀ p ∈ l', p.1 ∈ N)
    (h : ∀ C L, CF (64 * b) C L → (∀ p ∈ L, p.1 ∈ N) → Q (fm C L) (M ++ G)) : wp (run tab (n + 2) f__law_sum [.ref i] (M ++ G)) Q E := by
  have key := sum_cf (ps := [(1, c', l'), (z, c, l)]) hN (by simp) (fun q hq => by
    rcases List.mem_cons.mp hq with e | e
    · rw [e]; exact ⟨by show (1 : Int).natAbs ≤ 3; decide, hc', hl'⟩
    · rw [List.mem_singleton.mp e]
      exact ⟨by show z.natAbs ≤ 3; omega, hc, hl⟩) hb
  refine law_sum_ok (ps := [(1, c', l'), (z, c, l)]) hi (fun q hq => by
    rcases List.mem_cons.mp hq with e | e
    · rw [e]; show (1 : Int).natAbs < _; decide
    · rw [List.mem_singleton.mp e]; show z.natAbs < _; omega) (by have := key.2.2; omega) (Nat.lt_of_le_of_lt (len_sumsA _) (by have := key.2.2; omega)) ?_
  exact h _ _ key.1 key.2.1
theorem CF.add {b B : Nat} {c k : Int} {l : Ps} (h : CF b c l) (hB : b + k.natAbs ≤ B) : CF B (c + k) l :=
  ⟨h.can, h.len, by have := h.cb; omega, fun p hp => Nat.lt_of_lt_of_le (h.kb p hp) (by omega)⟩
theorem atom_core_ok {N N' : List Tx} {kt n : Nat} {e : MV} {M : Hm} {Q : MV → Hm → Prop} {E : MX → Hm → Prop} (hN : N.length ≤ 7) (hN4 : ∀ x ∈ N, x.length ≤ 4) (hs : ∀ x ∈ N, x ∈ N') (he : AA N e) (hk : M[kt]? = some (.dic (tbD (varsT N'))))
    (h : ∀ F, Fz 5000000 N 2 F → msz F ≤ 200 → Q F M) : wp (run tab (n + 9) f__law_atom_core [e, .ref kt] M) Q E := by
  have sf : ∀ {G : Hm} (e : MV), SA N 1 e → ∀ {Q : MV → Hm → Prop} {E : MX → Hm → Prop}, (∀ c l, CF 64000 c l → (∀ p ∈ l, p.1 ∈ N) → Q (fm c l) (M ++ G)) → wp (run tab (n + 8) f__law_sum_form [e, .ref kt] (M ++ G)) Q E := fun e he Q E h => sum_form_ok hN hs 1 e he (get_old hk) h
  have sf0 : ∀ (e : MV), SA N 1 e → ∀ {Q : MV → Hm → Prop} {E : MX → Hm → Prop}, (∀ c l, CF 64000 c l → (∀ p ∈ l, p.1 ∈ N) → Q (fm c l) M) → wp (run tab (n + 8) f__law_sum_form [e, .ref kt] M) Q E := fun e he Q E h => sum_form_ok hN hs 1 e he hk h
  refine w_run rfl rfl ?_
  cases he with
  | @rest s f d r hss hf h0 h1 h2 h3 =>
    simp [d__law_atom_core, b__law_atom_core]
    refine sf0 f hf fun c l hc hl => ?_
    have fin : ∀ k, (k = s_div ∨ k = s_spl) → Q (.tup [.str k, .int d, fm (c + -r) l]) M := fun k hk => by
      have hc2 : CF 5000000 (c + -r) l := CF.add hc (by omega)
      refine h _ (.rest hk (by omega) (by omega) hc2 hl) ?_
      have := msz_cf hN4 hc2 hl
      rcases hk with rfl | rfl <;> simp <;> omega
    rcases hss with rfl | rfl
    · simp
      refine law_more_ok ?_
      simp
      exact fin _ (.inl rfl)
    · simp
      refine law_more_ok ?_
      simp
      exact fin _ (.inr rfl)
  | @cmp s e f hss he hf =>
    simp [d__law_atom_core, b__law_atom_core]
    refine sf0 e he fun c l hc hl => ?_
    refine sf0 f hf fun c' l' hc' hl' => ?_
    refine sum2_ok hN (by rw [get_app0]; rfl) (.inr rfl) (by decide) hc hl hc' hl' fun C L hC hL => ?_
    simp
    refine sum2_ok hN (by rw [get_app]; rfl) (.inr rfl) (by decide) hc' hl' hc hl fun C2 L2 hC2 hL2 => ?_
    have lst : ∀ k, k.natAbs ≤ 1 → ∀ C L, CF (64 * 64000) C L → (∀ p ∈ L, p.1 ∈ N) → Q (.tup [.str s_least, fm (C + k) L]) M := fun k hk C L hC hL => by
      have hc2 : CF 5000000 (C + k) L := CF.add hC (by omega)
      refine h _ (.least hc2 hL) ?_
      have := msz_cf hN4 hc2 hL
      simp
      omega
    have hsame : Fz 5000000 N 1 (.tup [.str s_same, fm C2 L2]) := .same (hC2.le (by decide)) hL2
    have hsm : msz (.tup [.str s_same, fm C2 L2]) ≤ 60 := by
      have := msz_cf hN4 hC2 hL2
      simp
      omega
    rcases hss with rfl | rfl | rfl | rfl | rfl | rfl
    · simp
      refine law_more_ok ?_
      simp
      exact lst (-1) (by decide) _ _ hC hL
    · simp
      refine law_more_ok ?_
      simp
      have := lst 0 (by decide) _ _ hC hL
      rw [Int.add_zero] at this
      exact this
    · simp
      refine law_more_ok ?_
      simp
      exact lst (-1) (by decide) _ _ hC2 hL2
    · simp
      refine law_more_ok ?_
      simp
      have := lst 0 (by decide) _ _ hC2 hL2
      rw [Int.add_zero] at this
      exact this
    · simp
      exact h _ (hsame.mono (Nat.le_refl _) 2 (by decide)) (Nat.le_trans hsm (by decide))
    · simp
      have hsame' : Fz 4999999 N 1 (.tup [.str s_same, fm C2 L2]) := .same (hC2.le (by decide)) hL2
      refine law_opposite_ok 1 _ hsame'.fm (Nat.le_trans hsm (by decide)) ?_
      have h2 := opp_fz hsame'
      have h3 := opp_msz hsame'.fm
      have := h _ h2 (Nat.le_trans h3 (by omega))
      simpa [h2.fm.pu.rf] using this
theorem core_ok {N N' : List Tx} {kt kc : Nat} (hN : N.length ≤ 7) (hN4 : ∀ x ∈ N, x.length ≤ 4) (hs : ∀ x ∈ N, x ∈ N') : ∀ (m : Nat) (d : MV), CA N m d → ∀ {n : Nat} {M : Hm} {Q : MV → Hm → Prop} {E : MX → Hm → Prop}, 200 * 8 ^ m ≤ 100000 → M[kt]? = some (.dic (tbD (varsT N'))) →
    (∀ F, Fz (5000000 + m) N (m + 2) F → msz F ≤ 200 * 8 ^ m → Q F M) → wp (run tab (n + m + 10) f__law_core [.tup [], d, .ref kt, .ref kc] M) Q E := by
  have atm : ∀ {m n : Nat} {d : MV} {M : Hm} {Q : MV → Hm → Prop} {E : MX → Hm → Prop}, AA N d → M[kt]? = some (.dic (tbD (varsT N'))) → (∀ F, Fz (5000000 + m) N (m + 2) F → msz F ≤ 200 * 8 ^ m → Q F M) → wp (run tab (n + m + 10) f__law_core [.tup [], d, .ref kt, .ref kc] M) Q E := fun {m n d M Q E} hd hk h => by
    have go : ∀ {G : Hm} (E' : MX → Hm → Prop), wp (run tab (n + m + 9) f__law_atom_core [d, .ref kt] (M ++ G)) (fun d M1 => gcQ M M1 d Q) E' := fun {G} E' => by
      refine atom_core_ok hN hN4 hs hd (get_old hk) fun F hF hm => ?_
      simp [hF.fm.pu.rf]
      refine h F (hF.mono (by omega) _ (by omega)) ?_
      have := Nat.pow_le_pow_right (n := 8) (by decide) (Nat.zero_le m)
      omega
    refine w_run rfl rfl ?_
    cases hd with
    | rest hs' hf h0 h1 h2 h3 =>
      simp [d__law_core, b__law_core]
      exact go _
    | cmp hs' he hf =>
      simp [d__law_core, b__law_core]
      exact go _
  intro m
  induction m with
  | zero =>
    intro d hd n M Q E h8 hk h
    cases hd with
    | atom hd => exact atm (m := 0) hd hk h
  | succ m ih =>
    intro d hd n M Q E h8 hk h
    have hp8 : 8 ^ (m + 1) = 8 ^ m * 8 := Nat.pow_succ ..
    have hp1 := Nat.pow_le_pow_right (n := 8) (by decide) (Nat.zero_le m)
    cases hd with
    | atom hd => exact atm (m := m + 1) hd hk h
    | @not _ d hd =>
      have e0 : n + (m + 1) + 10 = (n + m + 10) + 1 := by omega
      rw [e0]
      refine w_run rfl rfl ?_
      simp [d__law_core, b__law_core]
      refine ih d hd (by omega) (get_old hk) fun F hF hm => ?_
      have e1 : n + m + 10 = (n + 4) + (m + 2) + 4 := by omega
      rw [e1]
      refine law_opposite_ok (m + 2) F hF.fm (by omega) ?_
      have h2 := opp_fz hF
      have h3 := opp_msz hF.fm
      simp [h2.fm.pu.rf]
      exact h _ h2 (by omega)
    | @two _ k d e hkk hd he =>
      have e0 : n + (m + 1) + 10 = (n + m + 10) + 1 := by omega
      rw [e0]
      refine w_run rfl rfl ?_
      have fin : ∀ (k : Tx) (F F' : MV) (G : Hm) (E' : MX → Hm → Prop), (k = s_or ∨ k = s_and) → Fz (5000000 + m) N (m + 2) F → Fz (5000000 + m) N (m + 2) F' → msz F ≤ 200 * 8 ^ m → msz F' ≤ 200 * 8 ^ m →
          wp (run tab (n + m + 10) f__law_joined [.str k, .ref (M.length + G.length)] (M ++ (G ++ [.lst [F, F']]))) (fun d M1 => gcQ M M1 d Q) E' := fun k F F' G E' hkk hF hF' hm hm' => by
        have hkk : k = s_and ∨ k = s_or := hkk.symm
        have e1 : n + m + 10 = (n + m + 9) + 1 := by omega
        rw [e1]
        have hall : ∀ p ∈ [F, F'], Fz (5000000 + m) N (m + 1 + 1) p := fun p hp => by
          rcases List.mem_cons.mp hp with e | e
          · rw [e]; exact hF
          · rw [List.mem_singleton.mp e]; exact hF'
        have hj := joinP_fz hkk hall
        refine law_joined_ok (l := [F, F']) (.inr ⟨_, rfl, by rw [get_app]; simp⟩) (by simp; omega) (shape_of hkk fun p hp => (hall p hp).fm) ?_
        simp [hj.fm.pu.rf]
        refine h _ (hj.mono (by omega) _ (by omega)) ?_
        have := joinP_msz (k := k) (x := F) (y := F') (by rcases hkk with rfl | rfl <;> decide)
        omega
      rcases hkk with rfl | rfl
      · simp [d__law_core, b__law_core]
        refine ih d hd (by omega) (get_old hk) fun F hF hm => ?_
        refine ih e he (by omega) (get_old hk) fun F' hF' hm' => ?_
        simp
        exact fin s_or F F' [_, _] _ (.inl rfl) hF hF' hm hm'
      · simp [d__law_core, b__law_core]
        refine ih d hd (by omega) (get_old hk) fun F hF hm => ?_
        refine ih e he (by omega) (get_old hk) fun F' hF' hm' => ?_
        simp
        exact fin s_and F F' [_, _] _ (.inr rfl) hF hF' hm hm'
end K01
set_option maxRecDepth 100000
namespace K01
open Mi TL
/-! ### words, shuffled, bent -/
def lett : Tx := [97, 98, 99, 100, 101, 102, 103, 104, 105, 106, 107, 108, 109, 110, 111, 112, 113, 114, 115, 116, 117, 118, 119, 120, 121, 122]
def lc (i : Int) : Nat := (L2.atI lett (i % 26)).getD 97
theorem lc_at (i : Int) : L2.atI lett (i % 26) = some (lc i) ∧ 97 ≤ lc i ∧ lc i ≤ 122 := by
  have h1 : 0 ≤ i % 26 := Int.emod_nonneg _ (by decide)
  have h2 : i % 26 < 26 := Int.emod_lt_of_pos _ (by decide)
  obtain ⟨k, hk⟩ : ∃ k : Nat, i % 26 = k := ⟨_, (Int.toNat_of_nonneg h1).symm⟩
  unfold lc
  rw [hk, atI_nat]
  have hk' : k < 26 := by omega
  have key : ∀ k, k < 26 → lett[k]? = some ((lett[k]?).getD 97) ∧ 97 ≤ (lett[k]?).getD 97 ∧ (lett[k]?).getD 97 ≤ 122 := by decide
  exact key k hk'
/-- a word drawn -/
structure Wd (x : Tx) : Prop where
  len : x.length ≤ 4
  pos : x ≠ []
  ch : ∀ c ∈ x, 97 ≤ c ∧ c ≤ 122
theorem Wd.word {x : Tx} (h : Wd x) : isWord x = true := by
  unfold isWord
  have h1 : 32 ∉ x := fun q => by have := (h.ch 32 q).1; omega
  have h2 : 39 ∉ x := fun q => by have := (h.ch 39 q).1; omega
  rw [decide_eq_false h.pos, decide_eq_false h1, decide_eq_false h2]
  rfl
theorem words_ok {a b n : Nat} {ns : List Int} {M : Hm} {Q : MV → Hm → Prop} {E : MX → Hm → Prop} (s : Sta M a b ns) (h : ∀ (W : List Tx) (u : Int × Int × Int), W.length = 4 → (∀ x ∈ W, Wd x) → Q (.ref M.length) (M.set a (sto b u) ++ [.lst (W.map MV.str)])) : wp (run tab (n + 2) f__law_words [.ref a, .int 4] M) Q E := by
  have h62 : in62 4 = true := by decide
  refine w_run rfl rfl ?_
  simp [d__law_words, b__law_words]
  refine draw_ok s (by decide) (by decide) fun start u1 h0 h1 => ?_
  refine draw_ok (s.set u1) (by decide) (by decide) fun d u2 h2 h3 => ?_
  have hd : cMul 2 d = true := cMul_l (by decide)
  simp [hd]
  refine draw_ok (s.set u2) (by decide) (by decide) fun t u3 h4 h5 => ?_
  simp
  obtain ⟨sh, hsh⟩ : ∃ sh, cut [113, 120, 122] none (some t) = sh := ⟨_, rfl⟩
  have hshl : sh.length ≤ 3 ∧ ∀ c ∈ sh, 97 ≤ c ∧ c ≤ 122 := by
    obtain ⟨k, rfl⟩ : ∃ k : Nat, t = k := ⟨_, (Int.toNat_of_nonneg h4).symm⟩
    rw [← hsh, cut_to]
    refine ⟨by simp; omega, fun c hc => ?_⟩
    have := List.mem_of_mem_take hc
    simp at this
    omega
  rw [hsh]
  refine draw_ok (s.set u3) (by decide) (by decide) fun t2 u4 h6 h7 => ?_
  have hk : ∀ k : Int, cMul k (1 + 2 * d) = true := fun k => cMul_r (by omega)
  have fin : ∀ (f : MV → MV) (g : Nat → Tx) (u : Int × Int × Int), (∀ k : Nat, f (.int (0 + (k : Int) * 1)) = .str (g k)) → (∀ k, Wd (g k)) → gcQ M (M.set a (sto b u) ++ [.lst (((List.range 4).map fun k : Nat => MV.int (0 + k * 1)).map f)]) (.ref M.length) Q := fun f g u hf hg => by
    have e : ((List.range 4).map fun k : Nat => MV.int (0 + k * 1)).map f = ((List.range 4).map g).map MV.str := by
      rw [List.map_map, List.map_map]
      exact List.map_congr_left fun k _ => hf k
    rw [e, gcQ_setnew0 (s.rf u) (by show rfsL _ (((List.range 4).map g).map MV.str) = true; exact rfsL_strs)]
    refine h _ _ (by simp) fun x hx => ?_
    obtain ⟨k, _, rfl⟩ := List.mem_map.mp hx
    exact hg k
  simp [h62, wipeE]
  refine ifB_p (fun _ => ?_) fun _ => ?_
  · refine w_lcM (l := (List.range 4).map fun k : Nat => MV.int (0 + k * 1)) (fun d' => match d' with | .int k => .str (sh ++ [lc (start + k * (1 + 2 * d))]) | _ => .non) wk_R (by simp) (fun d' hd' => ?_) ?_
    · obtain ⟨k, hk', rfl⟩ := List.mem_map.mp hd'
      have e := lc_at (start + (0 + (k : Int) * 1) * (1 + 2 * d))
      simp [hk, rdI_of e.1]
      simp at e
      unfold lett at e
      simp [rdI_of e.1]
      omega
    · rw [List.length_set]
      refine fin _ (fun k => sh ++ [lc (start + (0 + (k : Int) * 1) * (1 + 2 * d))]) u4 (fun k => rfl) fun k => ⟨by simp; omega, by simp, fun c hc => ?_⟩
      rcases List.mem_append.mp hc with q | q
      · exact hshl.2 c q
      · rw [List.mem_singleton.mp q]; exact (lc_at _).2
  · refine w_lcM (l := (List.range 4).map fun k : Nat => MV.int (0 + k * 1)) (fun d' => match d' with | .int k => .str (lc (start + k * (1 + 2 * d)) :: sh) | _ => .non) wk_R (by simp) (fun d' hd' => ?_) ?_
    · obtain ⟨k, hk', rfl⟩ := List.mem_map.mp hd'
      have e := lc_at (start + (0 + (k : Int) * 1) * (1 + 2 * d))
      simp [hk, rdI_of e.1]
      simp at e
      unfold lett at e
      simp [rdI_of e.1]
      omega
    · rw [List.length_set]
      refine fin _ (fun k => lc (start + (0 + (k : Int) * 1) * (1 + 2 * d)) :: sh) u4 (fun k => rfl) fun k => ⟨by simp; omega, by simp, fun c hc => ?_⟩
      rcases List.mem_cons.mp hc with q | q
      · rw [q]; exact (lc_at _).2
      · exact hshl.2 c q
theorem Sta.self {M : Hm} {a b : Nat} {ns : List Int} (s : Sta M a b ns) : ∃ u, M.set a (sto b u) = M := by
  obtain ⟨_, ⟨u, hu⟩, _⟩ := s
  refine ⟨u, ?_⟩
  obtain ⟨hl, he⟩ := List.getElem?_eq_some_iff.mp hu
  rw [← he, List.set_getElem_self]
theorem shuffled_ok {a b j n : Nat} {ns : List Int} {W : List Tx} {M : Hm} {Q : MV → Hm → Prop} {E : MX → Hm → Prop} (s : Sta M a b ns) (hj : M[j]? = some (.lst (W.map MV.str))) (hne : j ≠ a) (hW : W.length ≤ 100) (h : ∀ (l : List Tx) (u : Int × Int × Int), l.length = W.length → (∀ x ∈ l, x ∈ W) → Q (.ref M.length) (M.set a (sto b u) ++ [.lst (l.map MV.str)])) : wp (run tab (n + 2) f__law_shuffled [.ref a, .ref j] M) Q E := by
  refine w_run rfl rfl ?_
  simp [d__law_shuffled, b__law_shuffled, rdL_old hj]
  obtain ⟨u0, hu0⟩ := s.self
  have hj2 : ∀ u, (M.set a (sto b u))[j]? = some (.lst (W.map MV.str)) := fun u => by rw [List.getElem?_set_ne (Ne.symm hne)]; exact hj
  refine wS_forM (F := MV.str) (l := W) (fun p env M' => ∃ (l : List Tx) (u : Int × Int × Int) (v : Option MV), l.length = p.length ∧ (∀ x ∈ l, x ∈ W) ∧ env = [some (.ref a), some (.ref j), some (.ref M.length), v] ∧ M' = M.set a (sto b u) ++ [.lst (l.map MV.str)]) ⟨[], u0, none, rfl, by simp, rfl, by rw [hu0]; rfl⟩ ?_ ?_ ?_ (by simp)
  · rintro p env M' ⟨l, u, v, hl, hm, rfl, rfl⟩
    exact wk_L (get_old (hj2 u))
  · rintro p x r env M' he ⟨l, u, v, hl, hm, rfl, rfl⟩
    have hp : p.length < W.length := by
      have := congrArg List.length he
      rw [List.length_append, List.length_cons] at this
      omega
    have eL : ∀ u, (M.set a (sto b u) ++ [MO.lst (l.map MV.str)])[M.length]? = some (.lst (l.map MV.str)) := fun u => by
      have : M.length = (M.set a (sto b u)).length := by simp
      rw [this]
      simp
    have eS : ∀ u o, (M.set a (sto b u) ++ [MO.lst (l.map MV.str)]).set M.length o = M.set a (sto b u) ++ [o] := fun u o => by
      have : M.length = (M.set a (sto b u)).length := by simp
      rw [this]
      simp
    simp [rdL_of (eL u)]
    refine draw_n s (by omega) (log_few (by omega) (by omega)) fun k v h1 h2 => ?_
    simp [rdL_of (eL v), eS]
    refine ⟨⟨⟨by omega, by omega⟩, by omega⟩, l.take k.toNat ++ x :: l.drop k.toNat, ?_, fun y hy => ?_, ⟨_, _, _, rfl⟩, ?_⟩
    · simp
      omega
    · rcases List.mem_append.mp hy with q | q
      · exact hm y (List.mem_of_mem_take q)
      · rcases List.mem_cons.mp q with q | q
        · rw [q, he]; simp
        · exact hm y (List.mem_of_mem_drop q)
    · simp
  · rintro env M' ⟨l, u, v, hl, hm, rfl, rfl⟩
    have eL : (M.set a (sto b u)).length = M.length := by simp
    simp
    rw [gcQ_setnew0 (s.rf u) (by simp)]
    exact h l u hl hm
/-! ### bent -/
theorem cut_len {α : Type} (l : List α) (lo hi : Option Int) : (cut l lo hi).length ≤ l.length := by
  unfold cut
  rw [List.length_take, List.length_drop]
  omega
theorem cut_mem {α : Type} {l : List α} {lo hi : Option Int} {c : α} (h : c ∈ cut l lo hi) : c ∈ l := by
  unfold cut at h
  exact List.mem_of_mem_drop (List.mem_of_mem_take h)
theorem numT_small {i : Int} (h : i.natAbs < 10 ^ 18) : (numT i).length ≤ 19 ∧ ∀ c ∈ numT i, c < 1114112 := by
  have h1 := TL.numL_len (k := 18) (by decide) h
  have h2 : ∀ c ∈ numL i.natAbs, 48 ≤ c ∧ c ≤ 57 := TL.numL_digits i.natAbs
  unfold numT
  split
  · refine ⟨by rw [List.length_cons]; omega, fun c hc => ?_⟩
    rcases List.mem_cons.mp hc with q | q
    · omega
    · have := h2 c q; omega
  · exact ⟨by omega, fun c hc => by have := h2 c hc; omega⟩
theorem log_mid {k : Int} (h0 : 0 ≤ k) (h : k < 1000000000000000) : k.natAbs.log2 < 9000 := by
  have := log2_few (n := k.natAbs) (k := 64) (by omega) (by decide)
  omega
theorem bent_ok {a b z : Nat} {ns : List Int} (h20 : 20 ≤ z) (hz : z ≤ 7500000) : ∀ (m : Nat) (d : MV), Da z m d → ∀ {n : Nat} {k : Int} {M : Hm} {Q : MV → Hm → Prop} {E : MX → Hm → Prop}, Sta M a b ns → (∀ e u, Da (2 * z + 10) (m + 1) e → Q e (M.set a (sto b u))) → wp (run tab (n + m + 3) f__law_bent [.ref a, d, .int k] M) Q E := by
  have flat : ∀ {m n : Nat} {d : MV} {k : Int} {M : Hm} {Q : MV → Hm → Prop} {E : MX → Hm → Prop}, Da z m d → ((∃ i, d = .int i) ∨ ∃ t, d = .str t) → Sta M a b ns → (∀ e u, Da (2 * z + 10) (m + 1) e → Q e (M.set a (sto b u))) → wp (run tab (n + 3) f__law_bent [.ref a, d, .int k] M) Q E := fun {m n d k M Q E} hd hf s h => by
    have fin : ∀ (l : List MV), 0 < l.length → l.length ≤ 20 → (∀ e ∈ l, Da (2 * z + 10) (m + 1) e) → ∀ E', wp (run tab (n + 2) f__law_one_of [.ref a, .ref M.length] (M ++ [.lst l])) (fun d M1 => gcQ M M1 d Q) E' := fun l h0 hl hl2 E' => by
      refine one_of_ok s.app (.inr ⟨_, rfl, get_last, by have := s.la; omega⟩) h0 (by omega) fun e u he => ?_
      rw [set_ap s.la, gcQ_setapp (s.rf u) ((hl2 e he).pu.rf _)]
      exact h e u (hl2 e he)
    have hint : ∀ i : Int, i.natAbs ≤ 2 * z + 10 → Da (2 * z + 10) (m + 1) (.int i) := fun i hi => .int hi
    refine w_run rfl rfl ?_
    rcases hf with ⟨i, rfl⟩ | ⟨t, rfl⟩
    · have hi : i.natAbs ≤ z := by cases hd with | int h => exact h
      have hlog : i.natAbs.log2 < 1920 := log2_64 (by omega)
      have hmul : cMul 2 i = true := cMul_l (by decide)
      simp [d__law_bent, b__law_bent, hlog, hmul]
      refine fin _ (by simp) (by simp) (fun e he => ?_) _
      simp only [List.mem_cons, List.not_mem_nil, or_false] at he
      rcases he with rfl | rfl | rfl | rfl | rfl | rfl | rfl
      · exact hint _ (by omega)
      · exact hint _ (by omega)
      · exact hint _ (by omega)
      · exact hint _ (by omega)
      · exact hint _ (by simp)
      · have := numT_small (i := i) (by omega)
        exact .str (by omega) this.2
      · exact .tup (by simp) fun e he => by rw [List.mem_singleton.mp he]; exact .int (by omega)
    · obtain ⟨ht, hc⟩ : t.length ≤ z ∧ ∀ c ∈ t, c < 1114112 := by cases hd with | str h hc => exact ⟨h, hc⟩
      have hl1 := cut_len t (some 1) none
      have hl2 := cut_len t none (some (-1))
      simp [d__law_bent, b__law_bent]
      refine ⟨by omega, by omega, ?_⟩
      refine fin _ (by simp) (by simp) (fun e he => ?_) _
      simp only [List.mem_cons, List.not_mem_nil, or_false] at he
      rcases he with rfl | rfl | rfl | rfl | rfl | rfl | rfl | rfl
      · exact .str (by simp <;> omega) (by decide)
      · exact .str (by simp <;> omega) (by decide)
      · exact .str (by simp <;> omega) (by decide)
      · refine .str (by simp; omega) fun c q => ?_
        rcases List.mem_append.mp q with q | q
        · exact hc c q
        · rw [List.mem_singleton.mp q]; decide
      · exact .str (by omega) fun c q => hc c (cut_mem q)
      · exact .str (by omega) fun c q => hc c (cut_mem q)
      · exact hint _ (by simp)
      · exact .tup (by simp) fun e he => by cases he
  intro m
  induction m with
  | zero =>
    intro d hd n k M Q E s h
    refine flat hd ?_ s h
    cases hd with
    | int h => exact .inl ⟨_, rfl⟩
    | str h hc => exact .inr ⟨_, rfl⟩
  | succ m ih =>
    intro d hd n k M Q E s h
    cases hd with
    | int hi => exact flat (m := m + 1) (n := n + (m + 1)) (.int hi) (.inl ⟨_, rfl⟩) s h
    | str ht hc => exact flat (m := m + 1) (n := n + (m + 1)) (.str ht hc) (.inr ⟨_, rfl⟩) s h
    | @tup _ l hl hall =>
      have e0 : n + (m + 1) + 3 = (n + m + 3) + 1 := by omega
      rw [e0]
      refine w_run rfl rfl ?_
      have whole : Da (2 * z + 10) (m + 1) (.tup l) := (Da.tup hl hall).mono (by omega) _ (Nat.le_refl _)
      have sub : ∀ l' : List MV, l'.length ≤ 2 * z + 10 → (∀ e ∈ l', e ∈ l ∨ e = .int 0) → Da (2 * z + 10) (m + 1 + 1) (.tup l') := fun l' h1 h2 => .tup h1 fun e he => by
        rcases h2 e he with q | q
        · exact (hall e q).mono (by omega) _ (by omega)
        · rw [q]; exact .int (by simp)
      simp [d__law_bent, b__law_bent]
      have fin : ∀ (L1 L2 L3 : List MV) (v : Int × Int × Int), 0 < L3.length → L3.length ≤ 20 → (∀ e ∈ L3, Da (2 * z + 10) (m + 1 + 1) e) → ∀ E', wp (run tab (n + m + 3) f__law_one_of [.ref a, .ref (M.length + 2)] (M.set a (sto b v) ++ [.lst L1, .lst L2, .lst L3])) (fun d M1 => gcQ M M1 d Q) E' := fun L1 L2 L3 v h0 hl hl2 E' => by
        have e1 : n + m + 3 = (n + m + 1) + 2 := by omega
        rw [e1]
        refine one_of_ok (s.set v).app (.inr ⟨_, rfl, ?_, by have := s.la; omega⟩) h0 (by omega) fun e u he => ?_
        · have : M.length = (M.set a (sto b v)).length := by simp
          rw [this, get_app]
          rfl
        · rw [set_n s, gcQ_setapp (s.rf u) ((hl2 e he).pu.rf _)]
          exact h e u (hl2 e he)
      have fin2 : ∀ (L1 L2 : List MV) (v : Int × Int × Int), 0 < (L1 ++ L2).length → (L1 ++ L2).length ≤ 20 → (∀ e ∈ L1 ++ L2, Da (2 * z + 10) (m + 1 + 1) e) → ∀ E', wp (fAdd (.ref M.length) (.ref (M.length + 1)) (M.set a (sto b v) ++ [.lst L1, .lst L2])) (fun x M1 => wp (run tab (n + m + 3) f__law_one_of [.ref a, x] M1) (fun d M1 => gcQ M M1 d Q) E') E' := fun L1 L2 v h0 hl hl2 E' => by
        have hA : (M.set a (sto b v) ++ [MO.lst L1, MO.lst L2])[M.length]? = some (.lst L1) := by
          have : M.length = (M.set a (sto b v)).length := by simp
          rw [this, get_app0]
          rfl
        have hB : (M.set a (sto b v) ++ [MO.lst L1, MO.lst L2])[M.length + 1]? = some (.lst L2) := by
          have : M.length = (M.set a (sto b v)).length := by simp
          rw [this, get_app]
          rfl
        rw [w_addL hA hB]
        refine ⟨by rw [List.length_append] at hl; rw [SL_eq]; omega, ?_⟩
        have e1 : (M.set a (sto b v) ++ [MO.lst L1, MO.lst L2]).length = M.length + 2 := by simp
        rw [e1, List.append_assoc]
        exact fin L1 L2 (L1 ++ L2) v h0 hl hl2 E'
      refine ifB_p (fun hpos => ifB_p (fun _ => ?_) fun _ => ?_) fun _ => ?_
      · refine draw_ok s (by decide) (by decide) fun t u h1 h2 => ?_
        simp
        refine ifB_p (fun _ => ?_) fun _ => ?_
        · refine draw_ok (s.set u) (by omega) (log_mid (by omega) (by omega)) fun t v h1 h2 => ?_
          obtain ⟨i, rfl⟩ : ∃ i : Nat, t = i := ⟨_, (Int.toNat_of_nonneg h1).symm⟩
          have hi : i < l.length := by omega
          have e1 : cut l none (some (i : Int)) = l.take i := cut_to l i
          have e2 : cut l (some ((i : Int) + 1)) none = l.drop (i + 1) := cut_from l (i + 1)
          simp [rdI_nat, List.getElem?_eq_getElem hi]
          refine ih _ (hall _ (List.getElem_mem hi)) (s.set v) fun e w he => ?_
          simp [e1, e2]
          refine ⟨by omega, by omega, ?_⟩
          have hD : Da (2 * z + 10) (m + 1 + 1) (.tup (l.take i ++ e :: l.drop (i + 1))) := .tup (by simp; omega) fun x hx => by
            rcases List.mem_append.mp hx with q | q
            · exact (hall x (List.mem_of_mem_take q)).mono (by omega) _ (by omega)
            · rcases List.mem_cons.mp q with q | q
              · rw [q]; exact he
              · exact (hall x (List.mem_of_mem_drop q)).mono (by omega) _ (by omega)
          exact h _ _ hD
        · refine draw_ok (s.set u) (by omega) (log_mid (by omega) (by omega)) fun t v h1 h2 => ?_
          obtain ⟨i, rfl⟩ : ∃ i : Nat, t = i := ⟨_, (Int.toNat_of_nonneg h1).symm⟩
          have e1 : cut l none (some (i : Int)) = l.take i := cut_to l i
          have e2 : cut l (some ((i : Int) + 1)) none = l.drop (i + 1) := cut_from l (i + 1)
          have e3 : cut l (some (i : Int)) none = l.drop i := cut_from l i
          have e4 : cut l (some (i : Int)) (some ((i : Int) + 1)) = (l.drop i).take (i + 1 - i) := cut_mid l i (i + 1)
          simp [e1, e2, e3, e4]
          refine ⟨by omega, by omega, by omega, by omega, by omega, fin2 _ _ _ (by simp) (by simp) (fun e he => ?_) _⟩
          simp only [List.cons_append, List.nil_append, List.mem_cons, List.not_mem_nil, or_false] at he
          rcases he with rfl | rfl | rfl | rfl | rfl | rfl | rfl | rfl | rfl
          · exact sub _ (by simp; omega) fun x hx => .inl ((List.mem_append.mp hx).elim List.mem_of_mem_take List.mem_of_mem_drop)
          · exact sub _ (by simp; omega) fun x hx => .inl ((List.mem_append.mp hx).elim List.mem_of_mem_take fun q => (List.mem_append.mp q).elim (fun q => List.mem_of_mem_drop (List.mem_of_mem_take q)) List.mem_of_mem_drop)
          · exact sub _ (by simp; omega) fun x hx => (List.mem_append.mp hx).elim .inl fun q => .inr (List.mem_singleton.mp q)
          · exact sub _ (by simp) fun x hx => by cases hx
          · exact .int (by simp)
          · exact sub _ (by simp; omega) fun x hx => .inl ((List.mem_append.mp hx).elim List.mem_of_mem_drop List.mem_of_mem_take)
          · exact sub _ (by simp; omega) fun x hx => .inl (List.mem_reverse.mp hx)
          · exact .str (by simp <;> omega) (by decide)
          · exact .tup (by simp) fun e he => by rw [List.mem_singleton.mp he]; exact whole
      · refine draw_ok s (by omega) (log_mid (by omega) (by omega)) fun t v h1 h2 => ?_
        obtain ⟨i, rfl⟩ : ∃ i : Nat, t = i := ⟨_, (Int.toNat_of_nonneg h1).symm⟩
        have e1 : cut l none (some (i : Int)) = l.take i := cut_to l i
        have e2 : cut l (some ((i : Int) + 1)) none = l.drop (i + 1) := cut_from l (i + 1)
        have e3 : cut l (some (i : Int)) none = l.drop i := cut_from l i
        have e4 : cut l (some (i : Int)) (some ((i : Int) + 1)) = (l.drop i).take (i + 1 - i) := cut_mid l i (i + 1)
        simp [e1, e2, e3, e4]
        refine ⟨by omega, by omega, by omega, by omega, by omega, fin2 _ _ _ (by simp) (by simp) (fun e he => ?_) _⟩
        simp only [List.cons_append, List.nil_append, List.mem_cons, List.not_mem_nil, or_false] at he
        rcases he with rfl | rfl | rfl | rfl | rfl | rfl | rfl | rfl | rfl
        · exact sub _ (by simp; omega) fun x hx => .inl ((List.mem_append.mp hx).elim List.mem_of_mem_take List.mem_of_mem_drop)
        · exact sub _ (by simp; omega) fun x hx => .inl ((List.mem_append.mp hx).elim List.mem_of_mem_take fun q => (List.mem_append.mp q).elim (fun q => List.mem_of_mem_drop (List.mem_of_mem_take q)) List.mem_of_mem_drop)
        · exact sub _ (by simp; omega) fun x hx => (List.mem_append.mp hx).elim .inl fun q => .inr (List.mem_singleton.mp q)
        · exact sub _ (by simp) fun x hx => by cases hx
        · exact .int (by simp)
        · exact sub _ (by simp; omega) fun x hx => .inl ((List.mem_append.mp hx).elim List.mem_of_mem_drop List.mem_of_mem_take)
        · exact sub _ (by simp; omega) fun x hx => .inl (List.mem_reverse.mp hx)
        · exact .str (by simp <;> omega) (by decide)
        · exact .tup (by simp) fun e he => by rw [List.mem_singleton.mp he]; exact whole
      · refine draw_ok s (by omega) (log_mid (by omega) (by omega)) fun t v h1 h2 => ?_
        obtain ⟨i, rfl⟩ : ∃ i : Nat, t = i := ⟨_, (Int.toNat_of_nonneg h1).symm⟩
        have e1 : cut l none (some (i : Int)) = l.take i := cut_to l i
        have e2 : cut l (some ((i : Int) + 1)) none = l.drop (i + 1) := cut_from l (i + 1)
        have e3 : cut l (some (i : Int)) none = l.drop i := cut_from l i
        have e4 : cut l (some (i : Int)) (some ((i : Int) + 1)) = (l.drop i).take (i + 1 - i) := cut_mid l i (i + 1)
        simp [e1, e2, e3, e4]
        refine ⟨by omega, by omega, by omega, by omega, by omega, fin2 _ _ _ (by simp) (by simp) (fun e he => ?_) _⟩
        simp only [List.cons_append, List.nil_append, List.mem_cons, List.not_mem_nil, or_false] at he
        rcases he with rfl | rfl | rfl | rfl | rfl | rfl | rfl | rfl | rfl
        · exact sub _ (by simp; omega) fun x hx => .inl ((List.mem_append.mp hx).elim List.mem_of_mem_take List.mem_of_mem_drop)
        · exact sub _ (by simp; omega) fun x hx => .inl ((List.mem_append.mp hx).elim List.mem_of_mem_take fun q => (List.mem_append.mp q).elim (fun q => List.mem_of_mem_drop (List.mem_of_mem_take q)) List.mem_of_mem_drop)
        · exact sub _ (by simp; omega) fun x hx => (List.mem_append.mp hx).elim .inl fun q => .inr (List.mem_singleton.mp q)
        · exact sub _ (by simp) fun x hx => by cases hx
        · exact .int (by simp)
        · exact sub _ (by simp; omega) fun x hx => .inl ((List.mem_append.mp hx).elim List.mem_of_mem_drop List.mem_of_mem_take)
        · exact sub _ (by simp; omega) fun x hx => .inl (List.mem_reverse.mp hx)
        · exact .str (by simp <;> omega) (by decide)
        · exact .tup (by simp) fun e he => by rw [List.mem_singleton.mp he]; exact whole
end K01
set_option maxRecDepth 100000
namespace K01
open Mi TL
/-! ### formulas as data -/
theorem fm_da {z n : Nat} {c : Int} {l : Ps} (hc : c.natAbs ≤ z) (hk : ∀ p ∈ l, p.2.natAbs ≤ z) (hl : l.length ≤ z) (h2 : 2 ≤ z) (hx : ∀ p ∈ l, p.1.length ≤ z ∧ ∀ c ∈ p.1, c < 1114112) : Da z (n + 3) (fm c l) := by
  refine .tup (by simp; omega) fun d hd => ?_
  rcases List.mem_cons.mp hd with q | q
  · rw [q]; exact .int hc
  · rw [List.mem_singleton.mp q]
    refine .tup (by rw [List.length_map]; exact hl) fun d hd => ?_
    obtain ⟨p, hp, rfl⟩ := List.mem_map.mp hd
    refine .tup (by simp; omega) fun d hd => ?_
    rcases List.mem_cons.mp hd with q | q
    · rw [q]; exact .str (hx p hp).1 (hx p hp).2
    · rw [List.mem_singleton.mp q]; exact .int (hk p hp)
theorem Wd.c {x : Tx} (h : Wd x) : ∀ c ∈ x, c < 1114112 := fun c hc => by have := (h.ch c hc).2; omega
theorem cf_da {z b n : Nat} {N : List Tx} {c : Int} {l : Ps} (hN : ∀ x ∈ N, Wd x) (h : CF b c l) (hl : ∀ p ∈ l, p.1 ∈ N) (hb : b ≤ z) (hz : 100 ≤ z) : Da z (n + 3) (fm c l) :=
  fm_da (by have := h.cb; omega) (fun p hp => by have := h.kb p hp; omega) (by have := h.len; omega) (by omega) fun p hp => ⟨by have := (hN _ (hl p hp)).len; omega, (hN _ (hl p hp)).c⟩
theorem fz_da {z b n : Nat} {N : List Tx} {F : MV} (hN : ∀ x ∈ N, Wd x) (h : Fz b N n F) (hb : b ≤ z) (hz : 1000 ≤ z) (hs : msz F ≤ z) : Da z (2 * n + 3) F := by
  have ks : ∀ (k : Tx) (m : Nat), k.length ≤ 10 → (∀ c ∈ k, c < 1114112) → Da z m (.str k) := fun k m h1 h2 => .str (by omega) h2
  induction h with
  | @least n c l h hl =>
    have ed : 2 * (n + 1) + 3 = 2 * n + 1 + 3 + 1 := by omega
    rw [ed]
    refine .tup (by simp; omega) fun d hd => ?_
    rcases List.mem_cons.mp hd with q | q
    · rw [q]; exact ks _ _ (by decide) (by decide)
    · rw [List.mem_singleton.mp q]; exact cf_da hN h hl hb (by omega)
  | @same n c l h hl =>
    have ed : 2 * (n + 1) + 3 = 2 * n + 1 + 3 + 1 := by omega
    rw [ed]
    refine .tup (by simp; omega) fun d hd => ?_
    rcases List.mem_cons.mp hd with q | q
    · rw [q]; exact ks _ _ (by decide) (by decide)
    · rw [List.mem_singleton.mp q]; exact cf_da hN h hl hb (by omega)
  | @rest n k d c l hk h1 h2 h hl =>
    have ed : 2 * (n + 1) + 3 = 2 * n + 1 + 3 + 1 := by omega
    rw [ed]
    refine .tup (by simp; omega) fun e he => ?_
    rcases List.mem_cons.mp he with q | q
    · rw [q]
      rcases hk with rfl | rfl <;> exact ks _ _ (by decide) (by decide)
    · rcases List.mem_cons.mp q with q | q
      · rw [q]; exact .int (by omega)
      · rw [List.mem_singleton.mp q]; exact cf_da hN h hl hb (by omega)
  | @join n k l hk h ih =>
    have ed : 2 * (n + 1) + 3 = 2 * n + 1 + 3 + 1 := by omega
    rw [ed]
    have hm : mszL l ≤ z := by simp at hs; omega
    refine .tup (by simp; omega) fun e he => ?_
    rcases List.mem_cons.mp he with q | q
    · rw [q]
      rcases hk with rfl | rfl <;> exact ks _ _ (by decide) (by decide)
    · rw [List.mem_singleton.mp q]
      refine .tup (by have := mszL_len l; omega) fun p hp => ih p hp (by have := mszL_mem hp; omega)
theorem da_dat {z n : Nat} {d : MV} (h : Da z n d) (hz : msz d ≤ 1000000) : Dat n d := by
  induction h with
  | int h => exact .int
  | str h hc => exact .str (by simp at hz; omega)
  | @tup n l hl h ih =>
    have hm : mszL l ≤ 1000000 := by simp at hz; omega
    exact .tup (by have := mszL_len l; omega) fun d hd => ih d hd (by have := mszL_mem hd; omega)
theorem openT_dat {b n : Nat} {N : List Tx} {F : MV} (hN : ∀ x ∈ N, Wd x) (hl : N.length ≤ 100) (h : Fz b N n F) : Dat 1 (openT (atomsM n F)) := by
  have hs := names_of (atoms_at h)
  have := once_few hs
  refine .tup (by rw [List.length_map, len_sortT]; omega) fun d hd => ?_
  obtain ⟨x, hx, rfl⟩ := List.mem_map.mp hd
  rw [mem_sortT, mem_once] at hx
  exact .str (by have := (hN x (hs x hx)).len; omega)
/-- names put in: data -/
theorem putF_dat {b n : Nat} {N W : List Tx} {F : MV} {t : Tb} (hN : ∀ x ∈ N, Wd x) (hW : ∀ x ∈ W, Wd x) (ht : TbOk t) (hq : ∀ q ∈ t, ∀ p ∈ q.2.2, p.1 ∈ W) (h : Fz b N n F) (hs : msz F ≤ 1000000) : Dat (2 * n + 3) (putF t n F) := by
  have im : ∀ {c : Int} {l : Ps} {m : Nat}, CF b c l → (∀ p ∈ l, p.1 ∈ N) → Dat (m + 3) (imF t c l) := fun {c l m} hc hl => by
    have h1 := imPs_all ht l
    have h2 := hc.len
    refine dat_fm ?_ fun p hp => ?_
    · have := len_nf (l.flatMap (imPs t))
      have := len_sumsA (l.flatMap (imPs t))
      omega
    · obtain ⟨r, hr, e⟩ := List.mem_map.mp (mem_nf hp).1
      obtain ⟨q, hq2, hr⟩ := List.mem_flatMap.mp hr
      rw [← e]
      unfold imPs at hr
      cases hg : tbG t q.1 with
      | none =>
        rw [hg] at hr
        have : r = q := by simpa using hr
        rw [this]
        have := (hN _ (hl q hq2)).len
        omega
      | some g =>
        rw [hg] at hr
        obtain ⟨r', hr', rfl⟩ := List.mem_map.mp hr
        obtain ⟨q', hq', e'⟩ := tbG_mem hg
        have := (hW _ (hq q' hq' r' (by rw [e']; exact hr'))).len
        show r'.1.length ≤ 1000000
        omega
  have ks : ∀ (k : Tx) (m : Nat), k.length ≤ 10 → Dat m (.str k) := fun k m h1 => .str (by omega)
  induction h with
  | @least n c l h hl =>
    have ed : 2 * (n + 1) + 3 = 2 * n + 1 + 3 + 1 := by omega
    rw [ed]
    simp only [putF, psM_fm, true_or, if_true]
    refine .tup (by simp) fun d hd => ?_
    rcases List.mem_cons.mp hd with q | q
    · rw [q]; exact ks _ _ (by decide)
    · rw [List.mem_singleton.mp q]; exact im h hl
  | @same n c l h hl =>
    have ed : 2 * (n + 1) + 3 = 2 * n + 1 + 3 + 1 := by omega
    rw [ed]
    simp only [putF, psM_fm, or_true, if_true]
    refine .tup (by simp) fun d hd => ?_
    rcases List.mem_cons.mp hd with q | q
    · rw [q]; exact ks _ _ (by decide)
    · rw [List.mem_singleton.mp q]; exact im h hl
  | @rest n k d c l hk h1 h2 h hl =>
    have ed : 2 * (n + 1) + 3 = 2 * n + 1 + 3 + 1 := by omega
    rw [ed]
    simp only [putF, psM_fm]
    rw [if_pos hk]
    refine .tup (by simp) fun e he => ?_
    rcases List.mem_cons.mp he with q | q
    · rw [q]
      rcases hk with rfl | rfl <;> exact ks _ _ (by decide)
    · rcases List.mem_cons.mp q with q | q
      · rw [q]; exact .int
      · rw [List.mem_singleton.mp q]; exact im h hl
  | @join n k l hk h ih =>
    have ed : 2 * (n + 1) + 3 = 2 * n + 1 + 3 + 1 := by omega
    rw [ed]
    have hm : mszL l ≤ 1000000 := by simp at hs; omega
    rw [putF_join hk]
    refine .tup (by simp) fun e he => ?_
    rcases List.mem_cons.mp he with q | q
    · rw [q]
      rcases hk with rfl | rfl <;> exact ks _ _ (by decide)
    · rw [List.mem_singleton.mp q]
      refine .tup (by rw [List.length_map]; have := mszL_len l; omega) fun p' hp' => ?_
      obtain ⟨p, hp, rfl⟩ := List.mem_map.mp hp'
      exact ih p hp (by have := mszL_mem hp; omega)
/-! ### what the law holds -/
structure LS (M : Hm) (a b w tb : Nat) (ns : List Int) (W : List Tx) : Prop where
  s : Sta M a b ns
  hw : M[w]? = some (.lst (W.map MV.str))
  wa : w ≠ a
  ht : M[tb]? = some (.dic (tbD (varsT W)))
  ta : tb ≠ a
theorem LS.set {M : Hm} {a b w tb : Nat} {ns : List Int} {W : List Tx} (h : LS M a b w tb ns W) (u : Int × Int × Int) : LS (M.set a (sto b u)) a b w tb ns W :=
  ⟨h.s.set u, by rw [List.getElem?_set_ne (Ne.symm h.wa)]; exact h.hw, h.wa, by rw [List.getElem?_set_ne (Ne.symm h.ta)]; exact h.ht, h.ta⟩
theorem LS.app {M G : Hm} {a b w tb : Nat} {ns : List Int} {W : List Tx} (h : LS M a b w tb ns W) : LS (M ++ G) a b w tb ns W :=
  ⟨h.s.app, get_old h.hw, h.wa, get_old h.ht, h.ta⟩
theorem pairs_ok {a b w n : Nat} {ns : List Int} {W : List Tx} {M : Hm} {K : List MV → Hm → Prop} {E : MX → Hm → Prop} {v0 v2 v3 v4 v5 v6 v7 v8 v9 v10 v11 v12 v13 v14 v15 v16 : Option MV} (s : Sta M a b ns) (hw : M[w]? = some (.lst (W.map MV.str))) (hne : w ≠ a) (hW : W.length ≤ 100)
    (h : ∀ (l : Ps) (u : Int × Int × Int), l.map (·.1) = W → (∀ p ∈ l, p.2.natAbs ≤ 3) → K (l.map pr) (M.set a (sto b u))) :
    wp (lcGo (nL w) (gN 16) cYes (eTup (aCons (eVar 16) (aCons (eOp fSub (eCall (run tab (n + 1)) f__law_draw (aCons (eVar 1) (aCons (eC (.int 7)) aNil))) (eC (.int 3))) aNil))) [v0, some (.ref a), v2, v3, v4, v5, v6, v7, v8, v9, v10, v11, v12, v13, v14, v15, v16] (W.length + 1) 0 [] M) K E := by
  obtain ⟨u0, hu0⟩ := s.self
  have hw2 : ∀ u, (M.set a (sto b u))[w]? = some (.lst (W.map MV.str)) := fun u => by rw [List.getElem?_set_ne (Ne.symm hne)]; exact hw
  have hl : (W.map MV.str).length = W.length := List.length_map _
  refine w_lc0 (fun k acc M' => ∃ (l : Ps) (u : Int × Int × Int), acc = l.map pr ∧ l.map (·.1) = W.take k ∧ (∀ p ∈ l, p.2.natAbs ≤ 3) ∧ M' = M.set a (sto b u)) W.length (fun k acc M' hi hk => ⟨(W.map MV.str)[k]?, ?_, ?_⟩) (fun k d acc M' hk hd hi => ?_) (fun acc M' hi => ?_) _ 0 _ M (by omega) (by omega) ⟨[], u0, rfl, by simp, by simp, hu0.symm⟩
  · obtain ⟨l, u, _, _, _, rfl⟩ := hi
    exact wk_L (hw2 u) k
  · rw [List.getElem?_eq_none_iff]; omega
  · obtain ⟨l, u, rfl, h1, h2, rfl⟩ := hi
    have hd : (W.map MV.str)[k]? = some d := Option.some.inj ((wk_L (hw2 u) k).symm.trans hd)
    have e1 : MV.str W[k] = d := by
      rw [List.getElem?_map, List.getElem?_eq_getElem hk] at hd
      exact Option.some.inj hd
    subst e1
    have ht : W.take (k + 1) = W.take k ++ [W[k]] := by
      rw [List.take_add_one, List.getElem?_eq_getElem hk]
      rfl
    have hll : l.length = k := by
      have := congrArg List.length h1
      rw [List.length_map, List.length_take] at this
      omega
    simp
    refine draw_ok (s.set u) (by decide) (by decide) fun i v h3 h4 => ?_
    simp
    refine ⟨by omega, l ++ [(W[k], i - 3)], by simp [pr], by rw [List.map_append, h1, ht]; rfl, fun x y hp => ?_, v.1, v.2.1, v.2.2, rfl⟩
    rcases List.mem_append.mp hp with q | q
    · exact h2 (x, y) q
    · have := List.mem_singleton.mp q
      cases this
      omega
  · obtain ⟨l, u, rfl, h1, h2, rfl⟩ := hi
    rw [List.take_length] at h1
    exact h l u h1 h2
end K01
set_option maxRecDepth 100000
namespace K01
open Mi
/-! ### odd data -/
def daB (z : Nat) : Nat → MV → Bool
  | _, .int i => decide (i.natAbs ≤ z)
  | _, .str s => decide (s.length ≤ z) && s.all fun c => decide (c < 1114112)
  | n + 1, .tup l => decide (l.length ≤ z) && l.all (daB z n)
  | _, _ => false
theorem daB_ok {z : Nat} : ∀ (n : Nat) (d : MV), daB z n d = true → Da z n d
  | n, .int i, h => .int (by unfold daB at h; exact of_decide_eq_true h)
  | n, .str s, h => by
    unfold daB at h
    rw [Bool.and_eq_true] at h
    exact .str (of_decide_eq_true h.1) fun c hc => of_decide_eq_true (List.all_eq_true.mp h.2 c hc)
  | n + 1, .tup l, h => by
    unfold daB at h
    rw [Bool.and_eq_true] at h
    exact .tup (of_decide_eq_true h.1) fun d hd => daB_ok n d (List.all_eq_true.mp h.2 d hd)
  | 0, .tup l, h => by unfold daB at h; cases h
  | n, .non, h => by cases n <;> cases h
  | n, .bl b, h => by cases n <;> cases h
  | n, .ref i, h => by cases n <;> cases h
  | n, .rol l, h => by cases n <;> cases h
theorem addL_ok {i j : Nat} {l t : List MV} {M : Hm} {Q : MV → Hm → Prop} {E : MX → Hm → Prop} (hi : M[i]? = some (.lst l)) (hj : M[j]? = some (.lst t)) (hl : l.length + t.length ≤ SL) (h : Q (.ref M.length) (M ++ [.lst (l ++ t)])) : wp (fAdd (.ref i) (.ref j) M) Q E := by
  rw [w_addL hi hj]
  exact ⟨hl, h⟩
theorem odd_ok {n : Nat} {x : MV} {M : Hm} {Q : MV → Hm → Prop} {E : MX → Hm → Prop} (h : ∀ l : List MV, (∀ d ∈ l, Da 7000000 20 d) → Q (.ref M.length) (M ++ [.lst l])) : wp (run tab (n + 1) f__law_odd_data [x] M) Q E := by
  refine w_run rfl rfl ?_
  simp [d__law_odd_data, b__law_odd_data]
  refine addL_ok (by rw [get_app0]; rfl) (by rw [get_app]; rfl) (by simp) ?_
  simp
  refine addL_ok (by rw [get_app]; rfl) (by rw [get_app]; rfl) (by simp) ?_
  simp
  refine addL_ok (by rw [get_app]; rfl) (by rw [get_app]; rfl) (by simp) ?_
  simp
  refine addL_ok (by rw [get_app]; rfl) (by rw [get_app]; rfl) (by simp) ?_
  simp
  refine addL_ok (by rw [get_app]; rfl) (by rw [get_app]; rfl) (by simp) ?_
  simp
  exact h _ fun d hd => daB_ok 20 d (List.all_eq_true.mp (by decide) d hd)
end K01
set_option maxRecDepth 100000
namespace K01
open Mi TL
/-! ### the law -/
structure WF (W : List Tx) : Prop where
  len : W.length = 4
  wd : ∀ x ∈ W, Wd x
def Lw0 (ns : List Int) (env : Mi.Env) (M : Hm) : Prop := ∃ (a b w tb : Nat) (W : List Tx) (v0 v4 v5 v6 v7 v8 v9 v10 v11 v12 v13 v14 v15 v16 : Option MV), env = [v0, some (.ref a), some (.ref w), some (.ref tb), v4, v5, v6, v7, v8, v9, v10, v11, v12, v13, v14, v15, v16] ∧ LS M a b w tb ns W ∧ WF W
structure FO (F : MV) (W : List Tx) : Prop where
  fz : Fz 5000002 (W.take 2) 4 F
  sz : msz F ≤ 12800
def Lw1 (ns : List Int) (env : Mi.Env) (M : Hm) : Prop := ∃ (a b w tb : Nat) (W : List Tx) (F : MV) (v0 v4 v5 v7 v8 v9 v10 v11 v12 v13 v14 v15 v16 : Option MV), env = [v0, some (.ref a), some (.ref w), some (.ref tb), v4, v5, some F, v7, v8, v9, v10, v11, v12, v13, v14, v15, v16] ∧ LS M a b w tb ns W ∧ WF W ∧ FO F W
def Lw2 (ns : List Int) (env : Mi.Env) (M : Hm) : Prop := ∃ (a b w tb : Nat) (W : List Tx) (F : MV) (v0 v4 v5 v8 v9 v10 v11 v12 v13 v14 v15 v16 : Option MV), env = [v0, some (.ref a), some (.ref w), some (.ref tb), v4, v5, some F, some (opp 4 F), v8, v9, v10, v11, v12, v13, v14, v15, v16] ∧ LS M a b w tb ns W ∧ WF W ∧ FO F W
def LA (ns : List Int) (env : Mi.Env) (M : Hm) : Prop := ∃ (a b : Nat) (v0 : Option MV), env = [v0, some (.ref a), none, none, none, none, none, none, none, none, none, none, none, none, none, none, none] ∧ Sta M a b ns
def LB (a b : Nat) (M : Hm) (v0 : Option MV) (env : Mi.Env) (M' : Hm) : Prop := ∃ (W : List Tx) (u : Int × Int × Int), WF W ∧ env = [v0, some (.ref a), some (.ref M.length), none, none, none, none, none, none, none, none, none, none, none, none, none, none] ∧ M' = M.set a (sto b u) ++ [.lst (W.map MV.str)]
theorem cut2 {l : List Tx} : cut (l.map MV.str) none (some 2) = (l.take 2).map MV.str := by
  rw [show (2 : Int) = ((2 : Nat) : Int) from rfl, cut_to, List.map_take]
theorem cut3 {l : List Tx} : cut (l.map MV.str) none (some 3) = (l.take 3).map MV.str := by
  rw [show (3 : Int) = ((3 : Nat) : Int) from rfl, cut_to, List.map_take]
theorem cut1 {l : List Tx} : cut (l.map MV.str) (some 1) none = (l.drop 1).map MV.str := by
  rw [show (1 : Int) = ((1 : Nat) : Int) from rfl, cut_from, List.map_drop]
theorem take_wd {W : List Tx} (h : WF W) (k : Nat) : ∀ x ∈ W.take k, Wd x := fun x hx => h.wd x (List.mem_of_mem_take hx)
def LN (b a : Nat) (p : List Tx) (M : Hm) (f : Option MV → Mi.Env) (env : Mi.Env) (M' : Hm) : Prop := ∃ (ps : Ps) (u : Int × Int × Int) (v4 : Option MV), (∀ x ∈ p, x ∈ ps.map (·.1)) ∧ ps.length ≤ p.length ∧ M' = M.set a (sto b u) ++ [.dic (dS ps)] ∧ env = f v4
theorem putA_keys {ps : Ps} {x y : Tx} {v : Int} (h : y ∈ ps.map (·.1) ∨ y = x) : y ∈ (putA ps x v).map (·.1) := by
  unfold putA
  split
  · rename_i ha
    have e : (ps.map fun p => if p.1 = x then (p.1, v) else p).map (·.1) = ps.map (·.1) := by
      rw [List.map_map]
      refine List.map_congr_left fun q _ => ?_
      by_cases e : q.1 = x <;> simp [e]
    rw [e]
    rcases h with h | h
    · exact h
    · obtain ⟨q, hq, e2⟩ := List.any_eq_true.mp ha
      rw [h, ← of_decide_eq_true e2]
      exact List.mem_map.mpr ⟨q, hq, rfl⟩
  · rw [List.map_append]
    rcases h with h | h
    · exact List.mem_append_left _ h
    · rw [h]; exact List.mem_append_right _ (by simp)
theorem putA_len {ps : Ps} {x : Tx} {v : Int} : (putA ps x v).length ≤ ps.length + 1 := by
  unfold putA
  split <;> simp
theorem true59 {b k0 m : Nat} {N : List Tx} {a : Ps} {F : MV} {M : Hm} {Q : MV → Hm → Prop} {E : MX → Hm → Prop} (hb : b ≤ 18446744073709551616) (hNa : ∀ x ∈ N, x ∈ a.map (·.1)) (hF : Fz b N m F) (hm : m ≤ 50) (hk : M[k0]? = some (.dic (dS a))) (hs : msz F ≤ 1000000) (h : Q (.bl (tv (roOf a) m F)) M) : wp (run tab 59 f__law_true [F, .ref k0] M) Q E := by
  have e : 59 = (57 - m) + m + 2 := by omega
  rw [e]
  exact law_true_ok hb hNa m F hF hk hs h
structure TO (t : Tb) (W : List Tx) : Prop where
  few : ∀ q ∈ t, q.2.2.length ≤ 7
  nm : ∀ q ∈ t, ∀ p ∈ q.2.2, p.1 ∈ W
def LP (b a : Nat) (W sh p : List Tx) (M : Hm) (f : Option MV → Mi.Env) (env : Mi.Env) (M' : Hm) : Prop := ∃ (t : Tb) (u : Int × Int × Int) (G : Hm) (v4 : Option MV), t.length = p.length ∧ TO t W ∧ M' = M.set a (sto b u) ++ (.dic (tbD t) :: .lst (t.map prT) :: .lst ((W.take 3).map MV.str) :: .lst (sh.map MV.str) :: G) ∧ env = f v4
theorem put59 {F : MV} {W : List Tx} {t : Tb} {M : Hm} {Q : MV → Hm → Prop} {E : MX → Hm → Prop} (hF : FO F W) (ht : TbOk t) (h : Q (putF t 4 F) M) : wp (run tab 59 f_put [F, .tup (t.map prT)] M) Q E := put_ok (n := 52) (b := 5000002) (by decide) ht 4 F hF.fz.fm (Nat.le_trans hF.sz (by decide)) h
theorem lput59 {k0 : Nat} {F : MV} {W : List Tx} {t : Tb} {M : Hm} {Q : MV → Hm → Prop} {E : MX → Hm → Prop} (hF : FO F W) (ht : TbOk t) (hk : M[k0]? = some (.dic (tbD t))) (h : Q (putF t 4 F) M) : wp (run tab 59 f__law_put_in [F, .ref k0] M) Q E := law_put_in_ok (n := 51) (b := 5000002) (by decide) ht 4 F hF.fz.fm hk (Nat.le_trans hF.sz (by decide)) h
theorem opp_turn {n : Nat} {k : Tx} {x p : MV} (hk : k = s_all ∨ k = s_some) : opp (n + 1) (.tup [.str k, x, p]) = .tup [.str (oth k), x, opp n p] := by
  simp only [opp]
  rw [if_neg (by rcases hk with rfl | rfl <;> decide)]
def turned (F : MV) : MV := .tup [.str s_all, .str [35, 49], .tup [.str s_some, .str [35, 50], F]]
theorem turned_fm {F : MV} {W : List Tx} (hF : FO F W) : Fm 5000002 6 (turned F) := .turn (.inl rfl) (.turn (.inr rfl) hF.fz.fm)
theorem turned_opp {F : MV} : opp 6 (turned F) = .tup [.str s_some, .str [35, 49], .tup [.str s_all, .str [35, 50], opp 4 F]] := by
  unfold turned
  rw [opp_turn (.inl rfl), opp_turn (.inr rfl)]
  rfl
theorem oppT59 {F : MV} {W : List Tx} {M : Hm} {Q : MV → Hm → Prop} {E : MX → Hm → Prop} (hF : FO F W) (h : Q (opp 6 (turned F)) M) : wp (run tab 59 f_opposite [turned F] M) Q E := opposite_ok (n := 49) 6 _ (turned_fm hF) (by have := hF.sz; unfold turned; simp; omega) h
theorem turn_da {k x : Tx} {n : Nat} {d : MV} (hk : k = s_all ∨ k = s_some) (hx : x.length ≤ 10) (hc : ∀ c ∈ x, c < 1114112) (h : Da 7000000 n d) : Da 7000000 (n + 1) (.tup [.str k, .str x, d]) := by
  refine .tup (by simp) fun e he => ?_
  simp only [List.mem_cons, List.not_mem_nil, or_false] at he
  rcases he with rfl | rfl | rfl
  · rcases hk with rfl | rfl <;> exact .str (by decide) (by decide)
  · exact .str (by omega) hc
  · exact h
theorem bent59 {a b : Nat} {ns : List Int} {d : MV} {M : Hm} {Q : MV → Hm → Prop} {E : MX → Hm → Prop} (hd : Da 7000000 20 d) (s : Sta M a b ns) (h : ∀ e u, Da 14000010 21 e → Q e (M.set a (sto b u))) : wp (run tab 59 f__law_bent [.ref a, d, .int 0] M) Q E := bent_ok (n := 36) (z := 7000000) (by decide) (by decide) 20 d hd s h
def LG (ns : List Int) (env : Mi.Env) (M : Hm) : Prop := ∃ (a b w tb k : Nat) (W : List Tx) (l : List MV) (v0 v4 v5 v6 v7 v8 v9 v10 v11 v12 v14 v15 v16 : Option MV), env = [v0, some (.ref a), some (.ref w), some (.ref tb), v4, v5, v6, v7, v8, v9, v10, v11, v12, some (.ref k), v14, v15, v16] ∧ LS M a b w tb ns W ∧ WF W ∧ M[k]? = some (.lst l) ∧ ∀ d ∈ l, Da 14000010 21 d
theorem isf59 {d : MV} {N : List Tx} {M : Hm} {Q : MV → Hm → Prop} {E : MX → Hm → Prop} (hd : Da 14000010 21 d) (hN : ∀ x ∈ N, isWord x = true) (hl : N.length ≤ 1000) (h : Q (.bl (isF 21 N d)) M) : wp (run tab 59 f_is_formula [d, .tup (N.map MV.str)] M) Q E := is_formula_ok (n := 33) (z := 14000010) (by decide) 21 d hd (by decide) hN (by omega) h
theorem lisf59 {d : MV} {N : List Tx} {M : Hm} {Q : MV → Hm → Prop} {E : MX → Hm → Prop} (hd : Da 14000010 21 d) (hN : ∀ x ∈ N, isWord x = true) (hl : N.length ≤ 1000) (h : Q (.bl (isF 21 N d)) M) : wp (run tab 59 f__law_is_formula [d, .tup (N.map MV.str)] M) Q E := law_is_formula_ok (n := 33) (z := 14000010) (by decide) 21 d hd (by decide) hN (by omega) h
theorem cond59 {a b j : Nat} {ns : List Int} {N : List Tx} {M : Hm} {Q : MV → Hm → Prop} {E : MX → Hm → Prop} (s : Sta M a b ns) (nm : Nms M a j N) (h : ∀ e u, CA N 2 e → Q e (M.set a (sto b u))) : wp (run tab 59 f__law_condition [.ref a, .ref j, .int 2] M) Q E := condition_ok (n := 51) 2 s nm h
theorem core59 {N N' : List Tx} {kt kc : Nat} {d : MV} {M : Hm} {Q : MV → Hm → Prop} {E : MX → Hm → Prop} (hN : N.length ≤ 7) (hN4 : ∀ x ∈ N, x.length ≤ 4) (hs : ∀ x ∈ N, x ∈ N') (hd : CA N 2 d) (hk : M[kt]? = some (.dic (tbD (varsT N')))) (h : ∀ F, Fz 5000002 N 4 F → msz F ≤ 12800 → Q F M) : wp (run tab 59 f__law_core [.tup [], d, .ref kt, .ref kc] M) Q E := core_ok (n := 47) hN hN4 hs 2 d hd (by decide) hk h
theorem opp59 {F : MV} {W : List Tx} {M : Hm} {Q : MV → Hm → Prop} {E : MX → Hm → Prop} (hF : FO F W) (h : Q (opp 4 F) M) : wp (run tab 59 f_opposite [F] M) Q E := opposite_ok (n := 51) 4 F hF.fz.fm (Nat.le_trans hF.sz (by decide)) h
theorem lopp59 {F : MV} {W : List Tx} {M : Hm} {Q : MV → Hm → Prop} {E : MX → Hm → Prop} (hF : FO F W) (h : Q (opp 4 F) M) : wp (run tab 59 f__law_opposite [F] M) Q E := law_opposite_ok (n := 51) 4 F hF.fz.fm (Nat.le_trans hF.sz (by decide)) h
theorem same59 {d : MV} {m : Nat} {M : Hm} {Q : MV → Hm → Prop} {E : MX → Hm → Prop} (hd : Dat m d) (hm : m ≤ 50) (h : Q (.bl true) M) : wp (run tab 59 f__law_same [d, d] M) Q E := same_ok (n := 7) 50 d (hd.mono _ hm) h
theorem op59 {F : MV} {W : List Tx} {M : Hm} {Q : MV → Hm → Prop} {E : MX → Hm → Prop} (hF : FO F W) (h : Q (openT (atomsM 4 F)) M) : wp (run tab 59 f_open_names [F] M) Q E := open_names_ok (n := 53) (m := 4) hF.fz (Nat.le_trans hF.sz (by decide)) (by rw [List.length_take]; omega) h
theorem lop59 {F : MV} {W : List Tx} {M : Hm} {Q : MV → Hm → Prop} {E : MX → Hm → Prop} (hF : FO F W) (h : Q (openT (atomsM 4 F)) M) : wp (run tab 59 f__law_open_names [F] M) Q E := law_open_names_ok (n := 53) (m := 4) hF.fz (Nat.le_trans hF.sz (by decide)) (by rw [List.length_take]; omega) h
theorem dat_opp {F : MV} {W : List Tx} (hW : WF W) (hF : FO F W) : Dat 13 (opp 4 F) ∧ Da 7000000 13 (opp 4 F) ∧ Da 7000000 11 F := by
  have h1 := opp_msz hF.fz.fm
  have h2 := hF.sz
  have h3 : Da 7000000 13 (opp 4 F) := fz_da (n := 5) (b := 5000003) (fun x hx => take_wd hW 2 x hx) (opp_fz hF.fz) (by decide) (by decide) (by omega)
  exact ⟨da_dat h3 (by omega), h3, fz_da (n := 4) (b := 5000002) (fun x hx => take_wd hW 2 x hx) hF.fz (by decide) (by decide) (by omega)⟩
set_option maxHeartbeats 1000000 in
theorem keeps : Mi.Keeps tab 60 53 := by
  intro ns hn hb
  obtain ⟨v, M, h, rfl⟩ : ∃ v M, Mi.run tab 60 53 [.rol (ns.map MV.int)] [] = .ok v M ∧ v = .bl true := by
    refine D.wp_ok_of (Q := fun (v : MV) _ => v = MV.bl true) (wp.out ?_)
    refine w_run rfl rfl ?_
    unfold d_law b_law
    dsimp only [List.map, List.replicate, List.append]
    refine wS_cut (LA ns) ?_ ?_
    · simp
      refine start_ok fun M' a b s => ?_
      exact ⟨a, b, _, rfl, s⟩
    rintro env M ⟨a, b, v0, rfl, s⟩
    refine wS_cut (LB a b M v0) ?_ ?_
    · simp
      refine words_ok s fun W u h1 h2 => ?_
      exact ⟨W, u, ⟨h1, h2⟩, rfl, rfl⟩
    rintro env M' ⟨W, u, hW, rfl, rfl⟩
    refine wS_cut (fun env M' => M' = M.set a (sto b u) ++ [.lst (W.map MV.str), .dic []] ∧ env = [v0, some (.ref a), some (.ref M.length), some (.ref (M.length + 1)), none, none, none, none, none, none, none, none, none, none, none, none, none]) ?_ ?_
    · simp
    rintro env M' ⟨rfl, rfl⟩
    refine wS_cut (Lw0 ns) ?_ ?_
    · have hlen : (M.set a (sto b u)).length = M.length := by simp
      have hwk : (M.set a (sto b u) ++ [MO.lst (W.map MV.str), MO.dic []])[M.length]? = some (.lst (W.map MV.str)) := by rw [← hlen, get_app0]; rfl
      simp [rdL_of hwk]
      refine wS_forM (F := MV.str) (l := W) (fun p env M' => ∃ v4, M' = M.set a (sto b u) ++ [.lst (W.map MV.str), .dic (tbD (varsT p))] ∧ env = [v0, some (.ref a), some (.ref M.length), some (.ref (M.length + 1)), v4, none, none, none, none, none, none, none, none, none, none, none, none]) ⟨_, rfl, rfl⟩ ?_ ?_ ?_ (by simp)
      · rintro p env M' ⟨v4, rfl, rfl⟩
        exact wk_L (by rw [← hlen, get_app0]; rfl)
      · rintro p x r env M' he ⟨v4, rfl, rfl⟩
        have e1 : varsT (p ++ [x]) = varsT p ++ [(x, 0, [(x, 1)])] := by unfold varsT; rw [List.map_append]; rfl
        have e2 := tbD_len (varsT p)
        have e3 : (varsT p).length ≤ 4 := by
          have := congrArg List.length he
          rw [hW.len, List.length_append] at this
          unfold varsT
          rw [List.length_map]
          omega
        have hdk : (M.set a (sto b u) ++ [MO.lst (W.map MV.str), MO.dic (tbD (varsT p))])[M.length + 1]? = some (.dic (tbD (varsT p))) := by rw [← hlen, get_app]; rfl
        have hds : ∀ o, (M.set a (sto b u) ++ [MO.lst (W.map MV.str), MO.dic (tbD (varsT p))]).set (M.length + 1) o = M.set a (sto b u) ++ [MO.lst (W.map MV.str), o] := fun o => by rw [← hlen, set_app]; rfl
        simp
        refine law_var_ok ?_
        simp [rdD_of hdk, hds, isKey, e1, tbD_snoc]
        omega
      · rintro env M' ⟨v4, rfl, rfl⟩
        refine ⟨a, b, M.length, M.length + 1, W, v0, v4, none, none, none, none, none, none, none, none, none, none, none, none, rfl, ⟨(s.set u).app, ?_, by have := s.la; omega, ?_, by have := s.la; omega⟩, hW⟩
        · rw [← hlen, get_app0]; rfl
        · rw [← hlen, get_app]; rfl
    rintro env M ⟨a, b, w, tb, W, v0, v4, v5, v6, v7, v8, v9, v10, v11, v12, v13, v14, v15, v16, rfl, ls, hW⟩
    refine wS_cut (Lw0 ns) ?_ ?_
    · have h3 : in62 3 = true := by decide
      simp [h3]
      refine wS_forR (fun k env M => Lw0 ns env M) ⟨a, b, w, tb, W, v0, v4, v5, v6, v7, v8, v9, v10, v11, v12, v13, v14, v15, v16, rfl, ls, hW⟩ (fun k env M hk hi => ?_) fun env M hi => hi
      clear ls hW
      obtain ⟨a, b, w, tb, W, v0, v4, v5, v6, v7, v8, v9, v10, v11, v12, v13, v14, v15, v16, rfl, ls, hW⟩ := hi
      rw [w_gN]
      refine wS_cut (Lw1 ns) ?_ ?_
      · have h2 : (W.take 2).length = 2 := by rw [List.length_take, hW.len]; rfl
        simp [rdL_of ls.hw, cut2]
        have nm : Nms (M ++ [.lst ((W.take 2).map MV.str)]) a M.length (W.take 2) := ⟨get_last, by have := ls.s.la; omega, by omega, by omega, fun x hx => (take_wd hW 2 x hx).c⟩
        simp only [List.map_take] at nm ⊢
        refine cond59 ls.s.app nm fun e u he => ?_
        rw [set_ap ls.s.la]
        simp
        refine core59 (N' := W) (by omega) (fun x hx => (take_wd hW 2 x hx).len) (fun x hx => List.mem_of_mem_take hx) he (ls.set u).app.ht fun F hF hm => ?_
        exact ⟨a, b, w, tb, W, F, _, _, _, _, _, _, _, _, _, _, _, _, _, rfl, (ls.set u).app, hW, ⟨hF, hm⟩⟩
      clear ls hW
      rintro env M ⟨a, b, w, tb, W, F, v0, v4, v5, v7, v8, v9, v10, v11, v12, v13, v14, v15, v16, rfl, ls, hW, hF⟩
      refine wS_cut (Lw2 ns) ?_ ?_
      · simp
        refine opp59 hF ?_
        exact ⟨a, b, w, tb, W, F, _, _, _, _, _, _, _, _, _, _, _, _, rfl, ls, hW, hF⟩
      clear ls hW hF
      rintro env M ⟨a, b, w, tb, W, F, v0, v4, v5, v8, v9, v10, v11, v12, v13, v14, v15, v16, rfl, ls, hW, hF⟩
      refine wS_cut (Lw2 ns) ?_ ?_
      · have hd1 := (dat_opp hW hF).1
        have hd2 : Dat 1 (openT (atomsM 4 F)) := openT_dat (fun x hx => take_wd hW 2 x hx) (by rw [List.length_take]; omega) hF.fz
        simp
        refine lopp59 hF ?_
        refine same59 hd1 (by decide) ?_
        simp
        refine op59 hF ?_
        refine lop59 hF ?_
        refine same59 hd2 (by decide) ?_
        simp
        exact ⟨a, b, w, tb, W, F, _, _, _, _, _, _, _, _, _, _, _, _, rfl, ls, hW, hF⟩
      clear ls hW hF
      rintro env M ⟨a, b, w, tb, W, F, v0, v4, v5, v8, v9, v10, v11, v12, v13, v14, v15, v16, rfl, ls, hW, hF⟩
      refine wS_cut (Lw2 ns) ?_ ?_
      · have h5 : in62 5 = true := by decide
        simp [h5]
        refine wS_forR (fun k env M => Lw2 ns env M) ⟨a, b, w, tb, W, F, v0, v4, v5, v8, v9, v10, v11, v12, v13, v14, v15, v16, rfl, ls, hW, hF⟩ (fun k env M hk hi => ?_) fun env M hi => hi
        clear ls hW hF
        obtain ⟨a, b, w, tb, W, F, v0, v4, v5, v8, v9, v10, v11, v12, v13, v14, v15, v16, rfl, ls, hW, hF⟩ := hi
        rw [w_gN]
        refine wS_cut (fun env M' => M' = M ++ [.dic []] ∧ env = [v0, some (.ref a), some (.ref w), some (.ref tb), v4, v5, some F, some (opp 4 F), some (.int (0 + k * 1)), some (.ref M.length), v10, v11, v12, v13, v14, v15, v16]) ?_ ?_
        · simp
        rintro env M' ⟨rfl, rfl⟩
        refine wS_cut (LN b a W M (fun v4 => [v0, some (.ref a), some (.ref w), some (.ref tb), v4, v5, some F, some (opp 4 F), some (.int (0 + k * 1)), some (.ref M.length), v10, v11, v12, v13, v14, v15, v16])) ?_ ?_
        · simp [rdL_of (get_old ls.hw)]
          obtain ⟨u0, hu0⟩ := ls.s.self
          refine wS_forM (F := MV.str) (l := W) (fun p env M' => LN b a p M (fun v4 => [v0, some (.ref a), some (.ref w), some (.ref tb), v4, v5, some F, some (opp 4 F), some (.int k), some (.ref M.length), v10, v11, v12, v13, v14, v15, v16]) env M') ⟨[], u0, v4, by simp, by simp, by rw [hu0]; rfl, rfl⟩ ?_ ?_ ?_ (by simp)
          · rintro p env M' ⟨ps, u, v4, h1, h2, rfl, rfl⟩
            exact wk_L (ls.set u).app.hw
          · rintro p x r env M' he ⟨ps, u, v4, h1, h2, rfl, rfl⟩
            have hp : ps.length ≤ 4 := by
              have := congrArg List.length he
              rw [hW.len, List.length_append] at this
              omega
            have hlen : ∀ u, (M.set a (sto b u)).length = M.length := fun u => by simp
            have hdk : ∀ u, (M.set a (sto b u) ++ [MO.dic (dS ps)])[M.length]? = some (.dic (dS ps)) := fun u => by rw [← hlen u, get_app0]; rfl
            have hds : ∀ u o, (M.set a (sto b u) ++ [MO.dic (dS ps)]).set M.length o = M.set a (sto b u) ++ [o] := fun u o => by rw [← hlen u, set_app0]; rfl
            simp
            refine draw_n ls.s (by decide) (by decide) fun i v h3 h4 => ?_
            simp [rdD_of (hdk v), hds, isKey, putD_dS, len_dS]
            refine ⟨by omega, putA ps x (i - 20), v, _, fun y hy => ?_, ?_, rfl, rfl⟩
            · rcases List.mem_append.mp hy with q | q
              · exact putA_keys (.inl (h1 y q))
              · exact putA_keys (.inr (List.mem_singleton.mp q))
            · have := putA_len (ps := ps) (x := x) (v := i - 20)
              simp
              omega
          · rintro env M' hi
            simpa using hi
        rintro env M' ⟨ps, u, v4, hps, hpl, rfl, rfl⟩
        have hk : (M.set a (sto b u) ++ [MO.dic (dS ps)])[M.length]? = some (.dic (dS ps)) := by
          have hlen : (M.set a (sto b u)).length = M.length := by simp
          rw [← hlen, get_app0]
          rfl
        have hsz := opp_msz hF.fz.fm
        have hsz2 := hF.sz
        simp
        refine true59 (by decide) (fun x hx => hps x (List.mem_of_mem_take hx)) hF.fz (by decide) hk (by omega) ?_
        refine true59 (by decide) (fun x hx => hps x (List.mem_of_mem_take hx)) (opp_fz hF.fz) (by decide) hk (by omega) ?_
        rw [tv_opp hF.fz]
        have hL : Lw2 ns [v0, some (.ref a), some (.ref w), some (.ref tb), v4, v5, some F, some (opp 4 F), some (.int k), some (.ref M.length), v10, v11, v12, v13, v14, v15, v16] (M.set a (sto b u) ++ [MO.dic (dS ps)]) := ⟨a, b, w, tb, W, F, _, _, _, _, _, _, _, _, _, _, _, _, rfl, (ls.set u).app, hW, hF⟩
        cases htv : tv (roOf ps) 4 F with
        | true => simpa using hL
        | false => simpa using hL
      rintro env M ⟨a, b, w, tb, W, F, v0, v4, v5, v8, v9, v10, v11, v12, v13, v14, v15, v16, rfl, ls, hW, hF⟩
      refine wS_cut (fun env M' => M' = M ++ [.dic []] ∧ env = [v0, some (.ref a), some (.ref w), some (.ref tb), v4, v5, some F, some (opp 4 F), v8, v9, some (.ref M.length), v11, v12, v13, v14, v15, v16]) ?_ ?_
      · simp
      rintro env M' ⟨rfl, rfl⟩
      refine wS_cut (fun env M' => M' = M ++ [.dic [], .lst []] ∧ env = [v0, some (.ref a), some (.ref w), some (.ref tb), v4, v5, some F, some (opp 4 F), v8, v9, some (.ref M.length), some (.ref (M.length + 1)), v12, v13, v14, v15, v16]) ?_ ?_
      · simp
      rintro env M' ⟨rfl, rfl⟩
      refine wS_cut (fun env M' => ∃ sh : List Tx, sh.length = 3 ∧ LP b a W sh sh M (fun v4 => [v0, some (.ref a), some (.ref w), some (.ref tb), v4, v5, some F, some (opp 4 F), v8, v9, some (.ref M.length), some (.ref (M.length + 1)), v12, v13, v14, v15, v16]) env M') ?_ ?_
      · have h3 : (W.take 3).length = 3 := by rw [List.length_take, hW.len]; rfl
        have hlen : ∀ u, (M.set a (sto b u)).length = M.length := fun u => by simp
        simp [rdL_of (get_old ls.hw), cut3]
        simp only [← List.map_take]
        refine shuffled_ok (n := 57) (W := W.take 3) ls.s.app (by rw [get_app]; rfl) (by have := ls.s.la; omega) (by omega) fun sh u h1 h2 => ?_
        rw [set_ap ls.s.la]
        simp
        have g3 : ∀ (A : Hm) (x0 x1 x2 x3 : MO) (G : Hm), A.length = M.length → (A ++ (x0 :: x1 :: x2 :: x3 :: G))[M.length + 3]? = some x3 := fun A x0 x1 x2 x3 G hA => by rw [← hA, get_app]; rfl
        have g0 : ∀ (A : Hm) (x0 x1 x2 x3 : MO) (G : Hm), A.length = M.length → (A ++ (x0 :: x1 :: x2 :: x3 :: G))[M.length]? = some x0 := fun A x0 x1 x2 x3 G hA => by rw [← hA, get_app0]; rfl
        have g1 : ∀ (A : Hm) (x0 x1 x2 x3 : MO) (G : Hm), A.length = M.length → (A ++ (x0 :: x1 :: x2 :: x3 :: G))[M.length + 1]? = some x1 := fun A x0 x1 x2 x3 G hA => by rw [← hA, get_app]; rfl
        have s0 : ∀ (A : Hm) (x0 x1 x2 x3 o : MO) (G : Hm), A.length = M.length → (A ++ (x0 :: x1 :: x2 :: x3 :: G)).set M.length o = A ++ (o :: x1 :: x2 :: x3 :: G) := fun A x0 x1 x2 x3 o G hA => by rw [← hA, set_app0]; rfl
        have s1 : ∀ (A : Hm) (x0 x1 x2 x3 o : MO) (G : Hm), A.length = M.length → (A ++ (x0 :: x1 :: x2 :: x3 :: G)).set (M.length + 1) o = A ++ (x0 :: o :: x2 :: x3 :: G) := fun A x0 x1 x2 x3 o G hA => by rw [← hA, set_app]; rfl
        rw [rdL_of (g3 _ _ _ _ _ _ (hlen u))]
        refine wS_forM (F := MV.str) (l := sh) (fun p env M' => LP b a W sh p M (fun v4 => [v0, some (.ref a), some (.ref w), some (.ref tb), v4, v5, some F, some (opp 4 F), v8, v9, some (.ref M.length), some (.ref (M.length + 1)), v12, v13, v14, v15, v16]) env M') ⟨[], u, [], v4, rfl, ⟨by simp, by simp⟩, by simp [tbD, putAll], rfl⟩ ?_ ?_ ?_ (by simp)
        · rintro p env M' ⟨t, u, G, v4, ht, htO, rfl, rfl⟩
          exact wk_L (g3 _ _ _ _ _ _ (hlen u))
        · rintro p x r env M' he ⟨t, u, G, v4, ht, htO, rfl, rfl⟩
          have hp : p.length ≤ 3 := by
            have := congrArg List.length he
            rw [h1, List.length_append] at this
            omega
          simp
          refine draw_n ls.s (by decide) (by decide) fun i v h5 h6 => ?_
          simp [rdL_of (get_old (ls.set v).hw), wipeE]
          refine pairs_ok (ls.set v).app.s (ls.set v).app.hw ls.wa (by have := hW.len; omega) fun l u2 hl hb3 => ?_
          rw [set_n ls.s]
          have hll : l.length = 4 := by rw [← hW.len, ← hl, List.length_map]
          refine law_form_ok (l := l) (.inr ⟨_, rfl, get_last⟩) (by rw [SL_eq]; omega) (Nat.lt_of_le_of_lt (len_sumsA l) (by omega)) ?_
          simp only [List.append_assoc, List.cons_append]
          have htl := tbD_len t
          have hA := hlen u2
          rw [rdD_of (g0 _ _ _ _ _ _ hA)]
          refine ⟨⟨rfl, by omega⟩, ?_⟩
          rw [s0 _ _ _ _ _ _ _ hA, rdL_of (g1 _ _ _ _ _ _ hA), rdD_of (g0 _ _ _ _ _ _ hA), getD_putD, if_pos rfl, rdO_some, rdL_of (g1 _ _ _ _ _ _ hA), s1 _ _ _ _ _ _ _ hA]
          refine ⟨by rw [List.length_map]; omega, t ++ [(x, i - 4, nf l)], u2, G ++ [.lst (l.map pr)], some (.str x), by rw [List.length_append, List.length_append, ht]; rfl, ⟨fun q hq => ?_, fun q hq => ?_⟩, ?_, rfl⟩
          · rcases List.mem_append.mp hq with q' | q'
            · exact htO.few q q'
            · rw [List.mem_singleton.mp q']
              have := len_nf l
              have := len_sumsA l
              show (nf l).length ≤ 7
              omega
          · rcases List.mem_append.mp hq with q' | q'
            · exact htO.nm q q'
            · rw [List.mem_singleton.mp q']
              intro p' hp'
              have := (mem_nf hp').1
              rw [hl] at this
              exact this
          · rw [tbD_snoc, List.map_append]
            simp [prT]
        · rintro env M' hi
          refine ⟨sh, ?_, hi⟩
          rw [h1]
          omega
      rintro env M' ⟨sh, hsh, t, u, G, v4, ht, htO, rfl, rfl⟩
      refine wS_cut (Lw1 ns) ?_ ?_
      · have hlen : (M.set a (sto b u)).length = M.length := by simp
        have ht7 : TbOk t := ⟨by omega, htO.few⟩
        have hd := putF_dat (t := t) (fun x hx => take_wd hW 2 x hx) hW.wd ht7 htO.nm hF.fz (Nat.le_trans hF.sz (by decide))
        have h0 : (M.set a (sto b u) ++ (MO.dic (tbD t) :: MO.lst (t.map prT) :: MO.lst ((W.take 3).map MV.str) :: MO.lst (sh.map MV.str) :: G))[M.length]? = some (.dic (tbD t)) := by rw [← hlen, get_app0]; rfl
        have h1 : (M.set a (sto b u) ++ (MO.dic (tbD t) :: MO.lst (t.map prT) :: MO.lst ((W.take 3).map MV.str) :: MO.lst (sh.map MV.str) :: G))[M.length + 1]? = some (.lst (t.map prT)) := by rw [← hlen, get_app]; rfl
        generalize hH : (M.set a (sto b u) ++ (MO.dic (tbD t) :: MO.lst (t.map prT) :: MO.lst ((W.take 3).map MV.str) :: MO.lst (sh.map MV.str) :: G)) = H at *
        simp [rdL_of h1]
        refine put59 hF ht7 ?_
        refine lput59 hF ht7 h0 ?_
        refine same59 hd (by decide) ?_
        simp
        have hls := (ls.set u).app (G := (MO.dic (tbD t) :: MO.lst (t.map prT) :: MO.lst ((W.take 3).map MV.str) :: MO.lst (sh.map MV.str) :: G))
        rw [hH] at hls
        exact ⟨a, b, w, tb, W, F, _, _, _, _, _, _, _, _, _, _, _, _, _, rfl, hls, hW, hF⟩
      clear ls hW hF ht htO
      rintro env M ⟨a, b, w, tb, W, F, v0, v4, v5, v7, v8, v9, v10, v11, v12, v13, v14, v15, v16, rfl, ls, hW, hF⟩
      refine wS_cut (fun env M' => M' = M ∧ env = [v0, some (.ref a), some (.ref w), some (.ref tb), v4, v5, some F, v7, v8, v9, v10, v11, some (turned F), v13, v14, v15, v16]) ?_ ?_
      · simp [turned]
      rintro env M' ⟨rfl, rfl⟩
      refine wS_cut (LG ns) ?_ ?_
      · obtain ⟨x0, W', hx0⟩ : ∃ x0 W', W = x0 :: W' := by
          cases W with
          | nil => exact absurd hW.len (by simp)
          | cons x W' => exact ⟨x, W', rfl⟩
        have e0 : W.map MV.str = .str x0 :: W'.map MV.str := by rw [hx0]; rfl
        have hwx : Wd x0 := hW.wd x0 (by rw [hx0]; simp)
        obtain ⟨_, hdo, hdF⟩ := dat_opp hW hF
        have hdT : Da 7000000 20 (turned F) := (turn_da (n := 12) (.inl rfl) (by decide) (by decide) (turn_da (n := 11) (.inr rfl) (by decide) (by decide) hdF)).mono (Nat.le_refl _) _ (by decide)
        have hdO : Da 7000000 20 (opp 6 (turned F)) := by
          rw [turned_opp]
          exact (turn_da (n := 14) (.inr rfl) (by decide) (by decide) (turn_da (n := 13) (.inl rfl) (by decide) (by decide) hdo)).mono (Nat.le_refl _) _ (by decide)
        have hdA : Da 7000000 20 (.tup [.str s_all, .str x0, F]) := (turn_da (n := 11) (.inl rfl) (by have := hwx.len; omega) hwx.c hdF).mono (Nat.le_refl _) _ (by decide)
        have h8 : in62 8 = true := by decide
        simp [rdL_of ls.hw, e0]
        refine oppT59 hF ?_
        simp [h8, wipeE]
        obtain ⟨u0, hu0⟩ := ls.s.self
        have hD : ∀ d ∈ [F, turned F, .tup [.str [97, 108, 108], .str x0, F], opp 6 (turned F)], Da 14000010 21 d := fun d hd => by
          simp only [List.mem_cons, List.not_mem_nil, or_false] at hd
          rcases hd with rfl | rfl | rfl | rfl
          · exact hdF.mono (by decide) _ (by decide)
          · exact hdT.mono (by decide) _ (by decide)
          · exact hdA.mono (by decide) _ (by decide)
          · exact hdO.mono (by decide) _ (by decide)
        have hDl : [F, turned F, .tup [.str [97, 108, 108], .str x0, F], opp 6 (turned F)].length = 4 := rfl
        generalize hL1 : [F, turned F, .tup [.str [97, 108, 108], .str x0, F], opp 6 (turned F)] = L1 at *
        refine w_lcR (n := 8) (fun k acc M2 => acc.length = k ∧ (∀ d ∈ acc, Da 14000010 21 d) ∧ ∃ u, M2 = M'.set a (sto b u) ++ [.lst L1]) ⟨rfl, by simp, u0, by rw [hu0]⟩ (fun k acc M2 hk hi => ?_) fun acc M2 hi => ?_
        · obtain ⟨h1, h2, u, rfl⟩ := hi
          simp
          refine bent59 hdT (ls.set u).app.s fun e u2 he => ?_
          rw [set_n ls.s]
          refine ⟨by omega, h1, fun d hd => ?_, u2.1, u2.2.1, u2.2.2, rfl⟩
          rcases hd with q | q
          · exact h2 d q
          · rw [q]; exact he
        · obtain ⟨h1, h2, u, rfl⟩ := hi
          have hlen : (M'.set a (sto b u)).length = M'.length := by simp
          refine addL_ok (by rw [List.append_assoc, ← hlen, get_app0]; rfl) get_last (by rw [SL_eq]; omega) ?_
          refine ⟨a, b, w, tb, _, W, L1 ++ acc, _, _, _, _, _, _, _, _, _, _, _, _, _, rfl, (((ls.set u).app).app).app, hW, get_last, fun d hd => ?_⟩
          rcases List.mem_append.mp hd with q | q
          · exact hD d q
          · exact h2 d q
      clear ls hW hF
      rintro env M ⟨a, b, w, tb, k', W, l, v0, v4, v5, v6, v7, v8, v9, v10, v11, v12, v14, v15, v16, rfl, ls, hW, hk', hl⟩
      simp [rdL_of hk']
      refine wS_forP (fun p env M' => ∃ (G : Hm) (v14 v15 : Option MV), M' = M ++ G ∧ env = [v0, some (.ref a), some (.ref w), some (.ref tb), v4, v5, v6, v7, v8, v9, v10, v11, v12, some (.ref k'), v14, v15, v16]) ⟨[], _, _, by simp, rfl⟩ ?_ ?_ ?_
      · rintro p env M' ⟨G, v14, v15, rfl, rfl⟩
        exact wk_L (get_old hk')
      · rintro p d r env M' he ⟨G, v14, v15, rfl, rfl⟩
        have hd := hl d (by rw [he]; simp)
        simp [rdL_of (get_old ls.hw), cut1]
        have hH : (M ++ (G ++ [MO.lst (W.map MV.str).tail, MO.lst [.tup (W.map MV.str), .tup (W.map MV.str).tail, .tup (W.map MV.str ++ [.str [35, 49]])]]))[M.length + G.length + 1]? = some (.lst ([W, W.tail, W ++ [[35, 49]]].map fun N : List Tx => MV.tup (N.map MV.str))) := by
          rw [Nat.add_assoc, get_app, get_app]
          simp
        have hNs : ∀ N ∈ [W, W.tail, W ++ [[35, 49]]], (∀ x ∈ N, isWord x = true) ∧ N.length ≤ 1000 := fun N hN => by
          simp only [List.mem_cons, List.not_mem_nil, or_false] at hN
          have hl4 := hW.len
          rcases hN with rfl | rfl | rfl
          · exact ⟨fun x hx => (hW.wd x hx).word, by omega⟩
          · exact ⟨fun x hx => (hW.wd x (List.mem_of_mem_tail hx)).word, by simp; omega⟩
          · refine ⟨fun x hx => ?_, by simp; omega⟩
            rcases List.mem_append.mp hx with q | q
            · exact (hW.wd x q).word
            · rw [List.mem_singleton.mp q]; decide
        generalize hHH : (G ++ [MO.lst (W.map MV.str).tail, MO.lst [.tup (W.map MV.str), .tup (W.map MV.str).tail, .tup (W.map MV.str ++ [.str [35, 49]])]]) = H at *
        refine ⟨by have := hW.len; omega, ?_⟩
        refine wS_forM (F := fun N : List Tx => MV.tup (N.map MV.str)) (l := [W, W.tail, W ++ [[35, 49]]]) (fun p env M' => ∃ v15, M' = M ++ H ∧ env = [v0, some (.ref a), some (.ref w), some (.ref tb), v4, v5, v6, v7, v8, v9, v10, v11, v12, some (.ref k'), some d, v15, v16]) ⟨_, rfl, rfl⟩ ?_ ?_ ?_ (by simp)
        · rintro p env M' ⟨v15, rfl, rfl⟩
          exact wk_L hH
        · rintro p N r env M' he ⟨v15, rfl, rfl⟩
          obtain ⟨hN1, hN2⟩ := hNs N (by rw [he]; simp)
          simp
          refine isf59 hd hN1 hN2 ?_
          refine lisf59 hd hN1 hN2 ?_
          refine says_ok (n := 58) ?_
          simp
        · rintro env M' ⟨v15, rfl, rfl⟩
          exact ⟨⟨H, rfl⟩, _, _, rfl⟩
      · rintro env M' ⟨G, v14, v15, rfl, rfl⟩
        exact ⟨a, b, w, tb, W, _, _, _, _, _, _, _, _, _, _, _, _, _, _, rfl, ls.app, hW⟩
    rintro env M ⟨a, b, w, tb, W, v0, v4, v5, v6, v7, v8, v9, v10, v11, v12, v13, v14, v15, v16, rfl, ls, hW⟩
    simp
    refine odd_ok (n := 58) fun l hl => ?_
    simp
    refine wS_forP (fun p env M' => ∃ v14, M' = M ++ [.lst l] ∧ env = [v0, some (.ref a), some (.ref w), some (.ref tb), v4, v5, v6, v7, v8, v9, v10, v11, v12, v13, v14, v15, v16]) ⟨_, rfl, rfl⟩ ?_ ?_ ?_
    · rintro p env M' ⟨v14, rfl, rfl⟩
      exact wk_L get_last
    · rintro p d r env M' he ⟨v14, rfl, rfl⟩
      have hd : Da 14000010 21 d := (hl d (by rw [he]; simp)).mono (by decide) _ (by decide)
      have hN1 : ∀ x ∈ [([97, 95, 97] : Tx)], isWord x = true := fun x hx => by rw [List.mem_singleton.mp hx]; decide
      simp
      refine isf59 (N := [[97, 95, 97]]) hd hN1 (by simp) ?_
      refine lisf59 (N := [[97, 95, 97]]) hd hN1 (by simp) ?_
      refine says_ok (n := 58) ?_
      simp
    · rintro env M' ⟨v14, rfl, rfl⟩
      simp
      rw [gcQ_any (by simp) (by simp)]
  exact ⟨M, h⟩
end K01
set_option maxRecDepth 100000
/-! The end (printed by gen.py). -/
namespace K01
open PySem PySem.Spec PyProof.Rows L2 Mi
set_option maxHeartbeats 0 in
theorem all_mk {P : Program} {w : World} {K : PySem.W.Frag} {h : Heap} {mg : Str → Option Value} {fa : Addr} (X : K.In h) (G : h.Ns mainGlobals mg) (hfa : mg "law" = some (.ref fa))
    (F0 : ∃ f, FunAt K "form" st0 f)
    (F1 : ∃ f, FunAt K "plus" st1 f)
    (F2 : ∃ f, FunAt K "times" st2 f)
    (F3 : ∃ f, FunAt K "image" st3 f)
    (F4 : ∃ f, FunAt K "is_integer" st4 f)
    (F5 : ∃ f, FunAt K "is_tuple" st5 f)
    (F6 : ∃ f, FunAt K "is_name" st6 f)
    (F7 : ∃ f, FunAt K "is_form" st7 f)
    (F8 : ∃ f, FunAt K "is_form_over" st8 f)
    (F9 : ∃ f, FunAt K "joined" st9 f)
    (F10 : ∃ f, FunAt K "least" st10 f)
    (F11 : ∃ f, FunAt K "below" st11 f)
    (F12 : ∃ f, FunAt K "unlike" st12 f)
    (F13 : ∃ f, FunAt K "opposite" st13 f)
    (F14 : ∃ f, FunAt K "put" st14 f)
    (F15 : ∃ f, FunAt K "atoms_of" st15 f)
    (F16 : ∃ f, FunAt K "turns_of" st16 f)
    (F17 : ∃ f, FunAt K "open_names" st17 f)
    (F18 : ∃ f, FunAt K "is_atom" st18 f)
    (F19 : ∃ f, FunAt K "is_formula" st19 f)
    (F20 : ∃ f, FunAt K "_law_start" st20 f)
    (F21 : ∃ f, FunAt K "_law_draw" st21 f)
    (F22 : ∃ f, FunAt K "_law_words" st22 f)
    (F23 : ∃ f, FunAt K "_law_var" st23 f)
    (F24 : ∃ f, FunAt K "_law_form" st24 f)
    (F25 : ∃ f, FunAt K "_law_sum" st25 f)
    (F26 : ∃ f, FunAt K "_law_below" st26 f)
    (F27 : ∃ f, FunAt K "_law_more" st27 f)
    (F28 : ∃ f, FunAt K "_law_joined" st28 f)
    (F29 : ∃ f, FunAt K "_law_opposite" st29 f)
    (F30 : ∃ f, FunAt K "_law_sum_form" st30 f)
    (F31 : ∃ f, FunAt K "_law_atom_core" st31 f)
    (F32 : ∃ f, FunAt K "_law_core" st32 f)
    (F33 : ∃ f, FunAt K "_law_one_of" st33 f)
    (F34 : ∃ f, FunAt K "_law_sum_ast" st34 f)
    (F35 : ∃ f, FunAt K "_law_atom_ast" st35 f)
    (F36 : ∃ f, FunAt K "_law_condition" st36 f)
    (F37 : ∃ f, FunAt K "_law_is_int" st37 f)
    (F38 : ∃ f, FunAt K "_law_same" st38 f)
    (F39 : ∃ f, FunAt K "_law_turns" st39 f)
    (F40 : ∃ f, FunAt K "_law_atoms" st40 f)
    (F41 : ∃ f, FunAt K "_law_open_names" st41 f)
    (F42 : ∃ f, FunAt K "_law_at" st42 f)
    (F43 : ∃ f, FunAt K "_law_true" st43 f)
    (F44 : ∃ f, FunAt K "_law_shuffled" st44 f)
    (F45 : ∃ f, FunAt K "_law_put" st45 f)
    (F46 : ∃ f, FunAt K "_law_put_in" st46 f)
    (F47 : ∃ f, FunAt K "_law_bent" st47 f)
    (F48 : ∃ f, FunAt K "_law_says" st48 f)
    (F49 : ∃ f, FunAt K "_law_is_word" st49 f)
    (F50 : ∃ f, FunAt K "_law_is_form" st50 f)
    (F51 : ∃ f, FunAt K "_law_is_formula" st51 f)
    (F52 : ∃ f, FunAt K "_law_odd_data" st52 f)
    (F53 : ∃ f, FunAt K "law" st53 f)
    (n_abs : PySem.W.nsIn K mainGlobals "abs" = some none)
    (n_all : PySem.W.nsIn K mainGlobals "all" = some none)
    (n_any : PySem.W.nsIn K mainGlobals "any" = some none)
    (n_bool : PySem.W.nsIn K mainGlobals "bool" = some none)
    (n_dict : PySem.W.nsIn K mainGlobals "dict" = some none)
    (n_int : PySem.W.nsIn K mainGlobals "int" = some none)
    (n_isinstance : PySem.W.nsIn K mainGlobals "isinstance" = some none)
    (n_len : PySem.W.nsIn K mainGlobals "len" = some none)
    (n_list : PySem.W.nsIn K mainGlobals "list" = some none)
    (n_range : PySem.W.nsIn K mainGlobals "range" = some none)
    (n_sorted : PySem.W.nsIn K mainGlobals "sorted" = some none)
    (n_str : PySem.W.nsIn K mainGlobals "str" = some none)
    (n_tuple : PySem.W.nsIn K mainGlobals "tuple" = some none)
    (k_JOINED : ConstAt K mg "JOINED" c_JOINED)
    (k_MINUS_ONE : ConstAt K mg "MINUS_ONE" c_MINUS_ONE)
    (k_RESTS : ConstAt K mg "RESTS" c_RESTS)
    (k_TURNS : ConstAt K mg "TURNS" c_TURNS)
    (k_ZERO : ConstAt K mg "ZERO" c_ZERO)
    (w_OTHERS : WD K w mg "OTHERS" d_OTHERS_) :
    ∃ fd : FuncData, (∀ (s : Shared) (u : Value), BindsTo s fd ⟨[u], []⟩ [("script", u)]) ∧ ∀ base : Heap, K.In base → base.Ns mainGlobals mg → FnOk P w K mg base (L2.CX P w) 62 fa fd ["script"] (spLaw K) := by
  obtain ⟨f0, a0, u0, F0⟩ := F0
  obtain ⟨f1, a1, u1, F1⟩ := F1
  obtain ⟨f2, a2, u2, F2⟩ := F2
  obtain ⟨f3, a3, u3, F3⟩ := F3
  obtain ⟨f4, a4, u4, F4⟩ := F4
  obtain ⟨f5, a5, u5, F5⟩ := F5
  obtain ⟨f6, a6, u6, F6⟩ := F6
  obtain ⟨f7, a7, u7, F7⟩ := F7
  obtain ⟨f8, a8, u8, F8⟩ := F8
  obtain ⟨f9, a9, u9, F9⟩ := F9
  obtain ⟨f10, a10, u10, F10⟩ := F10
  obtain ⟨f11, a11, u11, F11⟩ := F11
  obtain ⟨f12, a12, u12, F12⟩ := F12
  obtain ⟨f13, a13, u13, F13⟩ := F13
  obtain ⟨f14, a14, u14, F14⟩ := F14
  obtain ⟨f15, a15, u15, F15⟩ := F15
  obtain ⟨f16, a16, u16, F16⟩ := F16
  obtain ⟨f17, a17, u17, F17⟩ := F17
  obtain ⟨f18, a18, u18, F18⟩ := F18
  obtain ⟨f19, a19, u19, F19⟩ := F19
  obtain ⟨f20, a20, u20, F20⟩ := F20
  obtain ⟨f21, a21, u21, F21⟩ := F21
  obtain ⟨f22, a22, u22, F22⟩ := F22
  obtain ⟨f23, a23, u23, F23⟩ := F23
  obtain ⟨f24, a24, u24, F24⟩ := F24
  obtain ⟨f25, a25, u25, F25⟩ := F25
  obtain ⟨f26, a26, u26, F26⟩ := F26
  obtain ⟨f27, a27, u27, F27⟩ := F27
  obtain ⟨f28, a28, u28, F28⟩ := F28
  obtain ⟨f29, a29, u29, F29⟩ := F29
  obtain ⟨f30, a30, u30, F30⟩ := F30
  obtain ⟨f31, a31, u31, F31⟩ := F31
  obtain ⟨f32, a32, u32, F32⟩ := F32
  obtain ⟨f33, a33, u33, F33⟩ := F33
  obtain ⟨f34, a34, u34, F34⟩ := F34
  obtain ⟨f35, a35, u35, F35⟩ := F35
  obtain ⟨f36, a36, u36, F36⟩ := F36
  obtain ⟨f37, a37, u37, F37⟩ := F37
  obtain ⟨f38, a38, u38, F38⟩ := F38
  obtain ⟨f39, a39, u39, F39⟩ := F39
  obtain ⟨f40, a40, u40, F40⟩ := F40
  obtain ⟨f41, a41, u41, F41⟩ := F41
  obtain ⟨f42, a42, u42, F42⟩ := F42
  obtain ⟨f43, a43, u43, F43⟩ := F43
  obtain ⟨f44, a44, u44, F44⟩ := F44
  obtain ⟨f45, a45, u45, F45⟩ := F45
  obtain ⟨f46, a46, u46, F46⟩ := F46
  obtain ⟨f47, a47, u47, F47⟩ := F47
  obtain ⟨f48, a48, u48, F48⟩ := F48
  obtain ⟨f49, a49, u49, F49⟩ := F49
  obtain ⟨f50, a50, u50, F50⟩ := F50
  obtain ⟨f51, a51, u51, F51⟩ := F51
  obtain ⟨f52, a52, u52, F52⟩ := F52
  obtain ⟨f53, a53, u53, F53⟩ := F53
  have e := hfa.symm.trans (PySem.W.mg_of X G a53)
  cases e
  let A : Nat → Addr := fun i => [f0, f1, f2, f3, f4, f5, f6, f7, f8, f9, f10, f11, f12, f13, f14, f15, f16, f17, f18, f19, f20, f21, f22, f23, f24, f25, f26, f27, f28, f29, f30, f31, f32, f33, f34, f35, f36, f37, f38, f39, f40, f41, f42, f43, f44, f45, f46, f47, f48, f49, f50, f51, f52, fa].getD i 0
  let U : Nat → FuncData := fun i => [u0, u1, u2, u3, u4, u5, u6, u7, u8, u9, u10, u11, u12, u13, u14, u15, u16, u17, u18, u19, u20, u21, u22, u23, u24, u25, u26, u27, u28, u29, u30, u31, u32, u33, u34, u35, u36, u37, u38, u39, u40, u41, u42, u43, u44, u45, u46, u47, u48, u49, u50, u51, u52, u53].getD i u53
  let cA : Nat → Addr := fun i => [].getD i 0
  have T : Txt w cA K mg A := {
    hK := trivial,
    g_form := PySem.W.mg_of X G a0,
    g_plus := PySem.W.mg_of X G a1,
    g_times := PySem.W.mg_of X G a2,
    g_image := PySem.W.mg_of X G a3,
    g_is_integer := PySem.W.mg_of X G a4,
    g_is_tuple := PySem.W.mg_of X G a5,
    g_is_name := PySem.W.mg_of X G a6,
    g_is_form := PySem.W.mg_of X G a7,
    g_is_form_over := PySem.W.mg_of X G a8,
    g_joined := PySem.W.mg_of X G a9,
    g_least := PySem.W.mg_of X G a10,
    g_below := PySem.W.mg_of X G a11,
    g_unlike := PySem.W.mg_of X G a12,
    g_opposite := PySem.W.mg_of X G a13,
    g_put := PySem.W.mg_of X G a14,
    g_atoms_of := PySem.W.mg_of X G a15,
    g_turns_of := PySem.W.mg_of X G a16,
    g_open_names := PySem.W.mg_of X G a17,
    g_is_atom := PySem.W.mg_of X G a18,
    g_is_formula := PySem.W.mg_of X G a19,
    g__law_start := PySem.W.mg_of X G a20,
    g__law_draw := PySem.W.mg_of X G a21,
    g__law_words := PySem.W.mg_of X G a22,
    g__law_var := PySem.W.mg_of X G a23,
    g__law_form := PySem.W.mg_of X G a24,
    g__law_sum := PySem.W.mg_of X G a25,
    g__law_below := PySem.W.mg_of X G a26,
    g__law_more := PySem.W.mg_of X G a27,
    g__law_joined := PySem.W.mg_of X G a28,
    g__law_opposite := PySem.W.mg_of X G a29,
    g__law_sum_form := PySem.W.mg_of X G a30,
    g__law_atom_core := PySem.W.mg_of X G a31,
    g__law_core := PySem.W.mg_of X G a32,
    g__law_one_of := PySem.W.mg_of X G a33,
    g__law_sum_ast := PySem.W.mg_of X G a34,
    g__law_atom_ast := PySem.W.mg_of X G a35,
    g__law_condition := PySem.W.mg_of X G a36,
    g__law_is_int := PySem.W.mg_of X G a37,
    g__law_same := PySem.W.mg_of X G a38,
    g__law_turns := PySem.W.mg_of X G a39,
    g__law_atoms := PySem.W.mg_of X G a40,
    g__law_open_names := PySem.W.mg_of X G a41,
    g__law_at := PySem.W.mg_of X G a42,
    g__law_true := PySem.W.mg_of X G a43,
    g__law_shuffled := PySem.W.mg_of X G a44,
    g__law_put := PySem.W.mg_of X G a45,
    g__law_put_in := PySem.W.mg_of X G a46,
    g__law_bent := PySem.W.mg_of X G a47,
    g__law_says := PySem.W.mg_of X G a48,
    g__law_is_word := PySem.W.mg_of X G a49,
    g__law_is_form := PySem.W.mg_of X G a50,
    g__law_is_formula := PySem.W.mg_of X G a51,
    g__law_odd_data := PySem.W.mg_of X G a52,
    n_abs := PySem.W.mg_none_of X G n_abs,
    n_all := PySem.W.mg_none_of X G n_all,
    n_any := PySem.W.mg_none_of X G n_any,
    n_bool := PySem.W.mg_none_of X G n_bool,
    n_dict := PySem.W.mg_none_of X G n_dict,
    n_int := PySem.W.mg_none_of X G n_int,
    n_isinstance := PySem.W.mg_none_of X G n_isinstance,
    n_len := PySem.W.mg_none_of X G n_len,
    n_list := PySem.W.mg_none_of X G n_list,
    n_range := PySem.W.mg_none_of X G n_range,
    n_sorted := PySem.W.mg_none_of X G n_sorted,
    n_str := PySem.W.mg_none_of X G n_str,
    n_tuple := PySem.W.mg_none_of X G n_tuple,
    c_JOINED := k_JOINED,
    c_MINUS_ONE := k_MINUS_ONE,
    c_RESTS := k_RESTS,
    c_TURNS := k_TURNS,
    c_ZERO := k_ZERO,
    w_OTHERS := w_OTHERS }
  refine ⟨u53, bind1 F53 fun _ _ _ _ _ _ _ => rfl, fun base _ _ => law_ok (C := ⟨K, cA⟩) (n := 60) (f := 53) keeps (all_ok (ent := ent A U) (tab := tab) ?_ 60 53 _ rfl) rfl⟩
  intro f e he
  match f, he with
  | 0, he => cases he; exact ⟨d_form, rfl, ⟨F0, sc0, rfl, rfl, F0.binds (ps := P0) (fun _ _ _ _ _ _ us hl => match us, hl with | [_, _], _ => rfl), bd0 T⟩⟩
  | 1, he => cases he; exact ⟨d_plus, rfl, ⟨F1, sc1, rfl, rfl, F1.binds (ps := P1) (fun _ _ _ _ _ _ us hl => match us, hl with | [_, _], _ => rfl), bd1 T⟩⟩
  | 2, he => cases he; exact ⟨d_times, rfl, ⟨F2, sc2, rfl, rfl, F2.binds (ps := P2) (fun _ _ _ _ _ _ us hl => match us, hl with | [_, _], _ => rfl), bd2 T⟩⟩
  | 3, he => cases he; exact ⟨d_image, rfl, ⟨F3, sc3, rfl, rfl, F3.binds (ps := P3) (fun _ _ _ _ _ _ us hl => match us, hl with | [_, _], _ => rfl), bd3 T⟩⟩
  | 4, he => cases he; exact ⟨d_is_integer, rfl, ⟨F4, sc4, rfl, rfl, F4.binds (ps := P4) (fun _ _ _ _ _ _ us hl => match us, hl with | [_], _ => rfl), bd4 T⟩⟩
  | 5, he => cases he; exact ⟨d_is_tuple, rfl, ⟨F5, sc5, rfl, rfl, F5.binds (ps := P5) (fun _ _ _ _ _ _ us hl => match us, hl with | [_, _], _ => rfl), bd5 T⟩⟩
  | 6, he => cases he; exact ⟨d_is_name, rfl, ⟨F6, sc6, rfl, rfl, F6.binds (ps := P6) (fun _ _ _ _ _ _ us hl => match us, hl with | [_], _ => rfl), bd6 T⟩⟩
  | 7, he => cases he; exact ⟨d_is_form, rfl, ⟨F7, sc7, rfl, rfl, F7.binds (ps := P7) (fun _ _ _ _ _ _ us hl => match us, hl with | [_], _ => rfl), bd7 T⟩⟩
  | 8, he => cases he; exact ⟨d_is_form_over, rfl, ⟨F8, sc8, rfl, rfl, F8.binds (ps := P8) (fun _ _ _ _ _ _ us hl => match us, hl with | [_, _], _ => rfl), bd8 T⟩⟩
  | 9, he => cases he; exact ⟨d_joined, rfl, ⟨F9, sc9, rfl, rfl, F9.binds (ps := P9) (fun _ _ _ _ _ _ us hl => match us, hl with | [_, _], _ => rfl), bd9 T⟩⟩
  | 10, he => cases he; exact ⟨d_least, rfl, ⟨F10, sc10, rfl, rfl, F10.binds (ps := P10) (fun _ _ _ _ _ _ us hl => match us, hl with | [_], _ => rfl), bd10 T⟩⟩
  | 11, he => cases he; exact ⟨d_below, rfl, ⟨F11, sc11, rfl, rfl, F11.binds (ps := P11) (fun _ _ _ _ _ _ us hl => match us, hl with | [_], _ => rfl), bd11 T⟩⟩
  | 12, he => cases he; exact ⟨d_unlike, rfl, ⟨F12, sc12, rfl, rfl, F12.binds (ps := P12) (fun _ _ _ _ _ _ us hl => match us, hl with | [_], _ => rfl), bd12 T⟩⟩
  | 13, he => cases he; exact ⟨d_opposite, rfl, ⟨F13, sc13, rfl, rfl, F13.binds (ps := P13) (fun _ _ _ _ _ _ us hl => match us, hl with | [_], _ => rfl), bd13 T⟩⟩
  | 14, he => cases he; exact ⟨d_put, rfl, ⟨F14, sc14, rfl, rfl, F14.binds (ps := P14) (fun _ _ _ _ _ _ us hl => match us, hl with | [_, _], _ => rfl), bd14 T⟩⟩
  | 15, he => cases he; exact ⟨d_atoms_of, rfl, ⟨F15, sc15, rfl, rfl, F15.binds (ps := P15) (fun _ _ _ _ _ _ us hl => match us, hl with | [_], _ => rfl), bd15 T⟩⟩
  | 16, he => cases he; exact ⟨d_turns_of, rfl, ⟨F16, sc16, rfl, rfl, F16.binds (ps := P16) (fun _ _ _ _ _ _ us hl => match us, hl with | [_], _ => rfl), bd16 T⟩⟩
  | 17, he => cases he; exact ⟨d_open_names, rfl, ⟨F17, sc17, rfl, rfl, F17.binds (ps := P17) (fun _ _ _ _ _ _ us hl => match us, hl with | [_], _ => rfl), bd17 T⟩⟩
  | 18, he => cases he; exact ⟨d_is_atom, rfl, ⟨F18, sc18, rfl, rfl, F18.binds (ps := P18) (fun _ _ _ _ _ _ us hl => match us, hl with | [_, _], _ => rfl), bd18 T⟩⟩
  | 19, he => cases he; exact ⟨d_is_formula, rfl, ⟨F19, sc19, rfl, rfl, F19.binds (ps := P19) (fun _ _ _ _ _ _ us hl => match us, hl with | [_, _], _ => rfl), bd19 T⟩⟩
  | 20, he => cases he; exact ⟨d__law_start, rfl, ⟨F20, sc20, rfl, rfl, F20.binds (ps := P20) (fun _ _ _ _ _ _ us hl => match us, hl with | [_], _ => rfl), bd20 T⟩⟩
  | 21, he => cases he; exact ⟨d__law_draw, rfl, ⟨F21, sc21, rfl, rfl, F21.binds (ps := P21) (fun _ _ _ _ _ _ us hl => match us, hl with | [_, _], _ => rfl), bd21 T⟩⟩
  | 22, he => cases he; exact ⟨d__law_words, rfl, ⟨F22, sc22, rfl, rfl, F22.binds (ps := P22) (fun _ _ _ _ _ _ us hl => match us, hl with | [_, _], _ => rfl), bd22 T⟩⟩
  | 23, he => cases he; exact ⟨d__law_var, rfl, ⟨F23, sc23, rfl, rfl, F23.binds (ps := P23) (fun _ _ _ _ _ _ us hl => match us, hl with | [_], _ => rfl), bd23 T⟩⟩
  | 24, he => cases he; exact ⟨d__law_form, rfl, ⟨F24, sc24, rfl, rfl, F24.binds (ps := P24) (fun _ _ _ _ _ _ us hl => match us, hl with | [_, _], _ => rfl), bd24 T⟩⟩
  | 25, he => cases he; exact ⟨d__law_sum, rfl, ⟨F25, sc25, rfl, rfl, F25.binds (ps := P25) (fun _ _ _ _ _ _ us hl => match us, hl with | [_], _ => rfl), bd25 T⟩⟩
  | 26, he => cases he; exact ⟨d__law_below, rfl, ⟨F26, sc26, rfl, rfl, F26.binds (ps := P26) (fun _ _ _ _ _ _ us hl => match us, hl with | [_], _ => rfl), bd26 T⟩⟩
  | 27, he => cases he; exact ⟨d__law_more, rfl, ⟨F27, sc27, rfl, rfl, F27.binds (ps := P27) (fun _ _ _ _ _ _ us hl => match us, hl with | [_, _], _ => rfl), bd27 T⟩⟩
  | 28, he => cases he; exact ⟨d__law_joined, rfl, ⟨F28, sc28, rfl, rfl, F28.binds (ps := P28) (fun _ _ _ _ _ _ us hl => match us, hl with | [_, _], _ => rfl), bd28 T⟩⟩
  | 29, he => cases he; exact ⟨d__law_opposite, rfl, ⟨F29, sc29, rfl, rfl, F29.binds (ps := P29) (fun _ _ _ _ _ _ us hl => match us, hl with | [_], _ => rfl), bd29 T⟩⟩
  | 30, he => cases he; exact ⟨d__law_sum_form, rfl, ⟨F30, sc30, rfl, rfl, F30.binds (ps := P30) (fun _ _ _ _ _ _ us hl => match us, hl with | [_, _], _ => rfl), bd30 T⟩⟩
  | 31, he => cases he; exact ⟨d__law_atom_core, rfl, ⟨F31, sc31, rfl, rfl, F31.binds (ps := P31) (fun _ _ _ _ _ _ us hl => match us, hl with | [_, _], _ => rfl), bd31 T⟩⟩
  | 32, he => cases he; exact ⟨d__law_core, rfl, ⟨F32, sc32, rfl, rfl, F32.binds (ps := P32) (fun _ _ _ _ _ _ us hl => match us, hl with | [_, _, _, _], _ => rfl), bd32 T⟩⟩
  | 33, he => cases he; exact ⟨d__law_one_of, rfl, ⟨F33, sc33, rfl, rfl, F33.binds (ps := P33) (fun _ _ _ _ _ _ us hl => match us, hl with | [_, _], _ => rfl), bd33 T⟩⟩
  | 34, he => cases he; exact ⟨d__law_sum_ast, rfl, ⟨F34, sc34, rfl, rfl, F34.binds (ps := P34) (fun _ _ _ _ _ _ us hl => match us, hl with | [_, _, _], _ => rfl), bd34 T⟩⟩
  | 35, he => cases he; exact ⟨d__law_atom_ast, rfl, ⟨F35, sc35, rfl, rfl, F35.binds (ps := P35) (fun _ _ _ _ _ _ us hl => match us, hl with | [_, _, _], _ => rfl), bd35 T⟩⟩
  | 36, he => cases he; exact ⟨d__law_condition, rfl, ⟨F36, sc36, rfl, rfl, F36.binds (ps := P36) (fun _ _ _ _ _ _ us hl => match us, hl with | [_, _, _], _ => rfl), bd36 T⟩⟩
  | 37, he => cases he; exact ⟨d__law_is_int, rfl, ⟨F37, sc37, rfl, rfl, F37.binds (ps := P37) (fun _ _ _ _ _ _ us hl => match us, hl with | [_], _ => rfl), bd37 T⟩⟩
  | 38, he => cases he; exact ⟨d__law_same, rfl, ⟨F38, sc38, rfl, rfl, F38.binds (ps := P38) (fun _ _ _ _ _ _ us hl => match us, hl with | [_, _], _ => rfl), bd38 T⟩⟩
  | 39, he => cases he; exact ⟨d__law_turns, rfl, ⟨F39, sc39, rfl, rfl, F39.binds (ps := P39) (fun _ _ _ _ _ _ us hl => match us, hl with | [_], _ => rfl), bd39 T⟩⟩
  | 40, he => cases he; exact ⟨d__law_atoms, rfl, ⟨F40, sc40, rfl, rfl, F40.binds (ps := P40) (fun _ _ _ _ _ _ us hl => match us, hl with | [_], _ => rfl), bd40 T⟩⟩
  | 41, he => cases he; exact ⟨d__law_open_names, rfl, ⟨F41, sc41, rfl, rfl, F41.binds (ps := P41) (fun _ _ _ _ _ _ us hl => match us, hl with | [_], _ => rfl), bd41 T⟩⟩
  | 42, he => cases he; exact ⟨d__law_at, rfl, ⟨F42, sc42, rfl, rfl, F42.binds (ps := P42) (fun _ _ _ _ _ _ us hl => match us, hl with | [_, _], _ => rfl), bd42 T⟩⟩
  | 43, he => cases he; exact ⟨d__law_true, rfl, ⟨F43, sc43, rfl, rfl, F43.binds (ps := P43) (fun _ _ _ _ _ _ us hl => match us, hl with | [_, _], _ => rfl), bd43 T⟩⟩
  | 44, he => cases he; exact ⟨d__law_shuffled, rfl, ⟨F44, sc44, rfl, rfl, F44.binds (ps := P44) (fun _ _ _ _ _ _ us hl => match us, hl with | [_, _], _ => rfl), bd44 T⟩⟩
  | 45, he => cases he; exact ⟨d__law_put, rfl, ⟨F45, sc45, rfl, rfl, F45.binds (ps := P45) (fun _ _ _ _ _ _ us hl => match us, hl with | [_, _], _ => rfl), bd45 T⟩⟩
  | 46, he => cases he; exact ⟨d__law_put_in, rfl, ⟨F46, sc46, rfl, rfl, F46.binds (ps := P46) (fun _ _ _ _ _ _ us hl => match us, hl with | [_, _], _ => rfl), bd46 T⟩⟩
  | 47, he => cases he; exact ⟨d__law_bent, rfl, ⟨F47, sc47, rfl, rfl, F47.binds (ps := P47) (fun _ _ _ _ _ _ us hl => match us, hl with | [_, _, _], _ => rfl), bd47 T⟩⟩
  | 48, he => cases he; exact ⟨d__law_says, rfl, ⟨F48, sc48, rfl, rfl, F48.binds (ps := P48) (fun _ _ _ _ _ _ us hl => match us, hl with | [_, _], _ => rfl), bd48 T⟩⟩
  | 49, he => cases he; exact ⟨d__law_is_word, rfl, ⟨F49, sc49, rfl, rfl, F49.binds (ps := P49) (fun _ _ _ _ _ _ us hl => match us, hl with | [_], _ => rfl), bd49 T⟩⟩
  | 50, he => cases he; exact ⟨d__law_is_form, rfl, ⟨F50, sc50, rfl, rfl, F50.binds (ps := P50) (fun _ _ _ _ _ _ us hl => match us, hl with | [_, _], _ => rfl), bd50 T⟩⟩
  | 51, he => cases he; exact ⟨d__law_is_formula, rfl, ⟨F51, sc51, rfl, rfl, F51.binds (ps := P51) (fun _ _ _ _ _ _ us hl => match us, hl with | [_, _], _ => rfl), bd51 T⟩⟩
  | 52, he => cases he; exact ⟨d__law_odd_data, rfl, ⟨F52, sc52, rfl, rfl, F52.binds (ps := P52) (fun _ _ _ _ _ _ us hl => match us, hl with | [_], _ => rfl), bd52 T⟩⟩
  | 53, he => cases he; exact ⟨d_law, rfl, ⟨F53, sc53, rfl, rfl, F53.binds (ps := P53) (fun _ _ _ _ _ _ us hl => match us, hl with | [_], _ => rfl), bd53 T⟩⟩
  | n + 54, he => cases he
end K01
open PySem PySem.W PyProof.Rows
set_option maxRecDepth 100000 in
set_option maxHeartbeats 0 in
theorem PySem.Challenge.cw_allgoon_k01_formulas_holds : PySem.Challenge.rw_allgoon_k01_formulas.Holds := by
  w_on; o_law; k_head; (case hw => w_witness2)
  k_fill
  refine Mi.walk_mi (k := 62) (x := "script") rfl rfl ⟨rfl, by decide, by decide⟩ (fun w h Y => PySem.W.kIn_of Y) ?_
  intro w mg fa h KX G XP hmg
  refine' K01.all_mk KX G hmg ?F0 ?F1 ?F2 ?F3 ?F4 ?F5 ?F6 ?F7 ?F8 ?F9 ?F10 ?F11 ?F12 ?F13 ?F14 ?F15 ?F16 ?F17 ?F18 ?F19 ?F20 ?F21 ?F22 ?F23 ?F24 ?F25 ?F26 ?F27 ?F28 ?F29 ?F30 ?F31 ?F32 ?F33 ?F34 ?F35 ?F36 ?F37 ?F38 ?F39 ?F40 ?F41 ?F42 ?F43 ?F44 ?F45 ?F46 ?F47 ?F48 ?F49 ?F50 ?F51 ?F52 ?F53 ?n_abs ?n_all ?n_any ?n_bool ?n_dict ?n_int ?n_isinstance ?n_len ?n_list ?n_range ?n_sorted ?n_str ?n_tuple ?k_JOINED ?k_MINUS_ONE ?k_RESTS ?k_TURNS ?k_ZERO ?w_OTHERS
  (case F0 => refine' Mi.fun_at ?a ?l ?c ?k; (case a => k_is); (case l => k_is); (case c => k_is); (case k => k_is))
  (case F1 => refine' Mi.fun_at ?a ?l ?c ?k; (case a => k_is); (case l => k_is); (case c => k_is); (case k => k_is))
  (case F2 => refine' Mi.fun_at ?a ?l ?c ?k; (case a => k_is); (case l => k_is); (case c => k_is); (case k => k_is))
  (case F3 => refine' Mi.fun_at ?a ?l ?c ?k; (case a => k_is); (case l => k_is); (case c => k_is); (case k => k_is))
  (case F4 => refine' Mi.fun_at ?a ?l ?c ?k; (case a => k_is); (case l => k_is); (case c => k_is); (case k => k_is))
  (case F5 => refine' Mi.fun_at ?a ?l ?c ?k; (case a => k_is); (case l => k_is); (case c => k_is); (case k => k_is))
  (case F6 => refine' Mi.fun_at ?a ?l ?c ?k; (case a => k_is); (case l => k_is); (case c => k_is); (case k => k_is))
  (case F7 => refine' Mi.fun_at ?a ?l ?c ?k; (case a => k_is); (case l => k_is); (case c => k_is); (case k => k_is))
  (case F8 => refine' Mi.fun_at ?a ?l ?c ?k; (case a => k_is); (case l => k_is); (case c => k_is); (case k => k_is))
  (case F9 => refine' Mi.fun_at ?a ?l ?c ?k; (case a => k_is); (case l => k_is); (case c => k_is); (case k => k_is))
  (case F10 => refine' Mi.fun_at ?a ?l ?c ?k; (case a => k_is); (case l => k_is); (case c => k_is); (case k => k_is))
  (case F11 => refine' Mi.fun_at ?a ?l ?c ?k; (case a => k_is); (case l => k_is); (case c => k_is); (case k => k_is))
  (case F12 => refine' Mi.fun_at ?a ?l ?c ?k; (case a => k_is); (case l => k_is); (case c => k_is); (case k => k_is))
  (case F13 => refine' Mi.fun_at ?a ?l ?c ?k; (case a => k_is); (case l => k_is); (case c => k_is); (case k => k_is))
  (case F14 => refine' Mi.fun_at ?a ?l ?c ?k; (case a => k_is); (case l => k_is); (case c => k_is); (case k => k_is))
  (case F15 => refine' Mi.fun_at ?a ?l ?c ?k; (case a => k_is); (case l => k_is); (case c => k_is); (case k => k_is))
  (case F16 => refine' Mi.fun_at ?a ?l ?c ?k; (case a => k_is); (case l => k_is); (case c => k_is); (case k => k_is))
  (case F17 => refine' Mi.fun_at ?a ?l ?c ?k; (case a => k_is); (case l => k_is); (case c => k_is); (case k => k_is))
  (case F18 => refine' Mi.fun_at ?a ?l ?c ?k; (case a => k_is); (case l => k_is); (case c => k_is); (case k => k_is))
  (case F19 => refine' Mi.fun_at ?a ?l ?c ?k; (case a => k_is); (case l => k_is); (case c => k_is); (case k => k_is))
  (case F20 => refine' Mi.fun_at ?a ?l ?c ?k; (case a => k_is); (case l => k_is); (case c => k_is); (case k => k_is))
  (case F21 => refine' Mi.fun_at ?a ?l ?c ?k; (case a => k_is); (case l => k_is); (case c => k_is); (case k => k_is))
  (case F22 => refine' Mi.fun_at ?a ?l ?c ?k; (case a => k_is); (case l => k_is); (case c => k_is); (case k => k_is))
  (case F23 => refine' Mi.fun_at ?a ?l ?c ?k; (case a => k_is); (case l => k_is); (case c => k_is); (case k => k_is))
  (case F24 => refine' Mi.fun_at ?a ?l ?c ?k; (case a => k_is); (case l => k_is); (case c => k_is); (case k => k_is))
  (case F25 => refine' Mi.fun_at ?a ?l ?c ?k; (case a => k_is); (case l => k_is); (case c => k_is); (case k => k_is))
  (case F26 => refine' Mi.fun_at ?a ?l ?c ?k; (case a => k_is); (case l => k_is); (case c => k_is); (case k => k_is))
  (case F27 => refine' Mi.fun_at ?a ?l ?c ?k; (case a => k_is); (case l => k_is); (case c => k_is); (case k => k_is))
  (case F28 => refine' Mi.fun_at ?a ?l ?c ?k; (case a => k_is); (case l => k_is); (case c => k_is); (case k => k_is))
  (case F29 => refine' Mi.fun_at ?a ?l ?c ?k; (case a => k_is); (case l => k_is); (case c => k_is); (case k => k_is))
  (case F30 => refine' Mi.fun_at ?a ?l ?c ?k; (case a => k_is); (case l => k_is); (case c => k_is); (case k => k_is))
  (case F31 => refine' Mi.fun_at ?a ?l ?c ?k; (case a => k_is); (case l => k_is); (case c => k_is); (case k => k_is))
  (case F32 => refine' Mi.fun_at ?a ?l ?c ?k; (case a => k_is); (case l => k_is); (case c => k_is); (case k => k_is))
  (case F33 => refine' Mi.fun_at ?a ?l ?c ?k; (case a => k_is); (case l => k_is); (case c => k_is); (case k => k_is))
  (case F34 => refine' Mi.fun_at ?a ?l ?c ?k; (case a => k_is); (case l => k_is); (case c => k_is); (case k => k_is))
  (case F35 => refine' Mi.fun_at ?a ?l ?c ?k; (case a => k_is); (case l => k_is); (case c => k_is); (case k => k_is))
  (case F36 => refine' Mi.fun_at ?a ?l ?c ?k; (case a => k_is); (case l => k_is); (case c => k_is); (case k => k_is))
  (case F37 => refine' Mi.fun_at ?a ?l ?c ?k; (case a => k_is); (case l => k_is); (case c => k_is); (case k => k_is))
  (case F38 => refine' Mi.fun_at ?a ?l ?c ?k; (case a => k_is); (case l => k_is); (case c => k_is); (case k => k_is))
  (case F39 => refine' Mi.fun_at ?a ?l ?c ?k; (case a => k_is); (case l => k_is); (case c => k_is); (case k => k_is))
  (case F40 => refine' Mi.fun_at ?a ?l ?c ?k; (case a => k_is); (case l => k_is); (case c => k_is); (case k => k_is))
  (case F41 => refine' Mi.fun_at ?a ?l ?c ?k; (case a => k_is); (case l => k_is); (case c => k_is); (case k => k_is))
  (case F42 => refine' Mi.fun_at ?a ?l ?c ?k; (case a => k_is); (case l => k_is); (case c => k_is); (case k => k_is))
  (case F43 => refine' Mi.fun_at ?a ?l ?c ?k; (case a => k_is); (case l => k_is); (case c => k_is); (case k => k_is))
  (case F44 => refine' Mi.fun_at ?a ?l ?c ?k; (case a => k_is); (case l => k_is); (case c => k_is); (case k => k_is))
  (case F45 => refine' Mi.fun_at ?a ?l ?c ?k; (case a => k_is); (case l => k_is); (case c => k_is); (case k => k_is))
  (case F46 => refine' Mi.fun_at ?a ?l ?c ?k; (case a => k_is); (case l => k_is); (case c => k_is); (case k => k_is))
  (case F47 => refine' Mi.fun_at ?a ?l ?c ?k; (case a => k_is); (case l => k_is); (case c => k_is); (case k => k_is))
  (case F48 => refine' Mi.fun_at ?a ?l ?c ?k; (case a => k_is); (case l => k_is); (case c => k_is); (case k => k_is))
  (case F49 => refine' Mi.fun_at ?a ?l ?c ?k; (case a => k_is); (case l => k_is); (case c => k_is); (case k => k_is))
  (case F50 => refine' Mi.fun_at ?a ?l ?c ?k; (case a => k_is); (case l => k_is); (case c => k_is); (case k => k_is))
  (case F51 => refine' Mi.fun_at ?a ?l ?c ?k; (case a => k_is); (case l => k_is); (case c => k_is); (case k => k_is))
  (case F52 => refine' Mi.fun_at ?a ?l ?c ?k; (case a => k_is); (case l => k_is); (case c => k_is); (case k => k_is))
  (case F53 => refine' Mi.fun_at ?a ?l ?c ?k; (case a => k_is); (case l => k_is); (case c => k_is); (case k => k_is))
  (case n_abs => k_is)
  (case n_all => k_is)
  (case n_any => k_is)
  (case n_bool => k_is)
  (case n_dict => k_is)
  (case n_int => k_is)
  (case n_isinstance => k_is)
  (case n_len => k_is)
  (case n_list => k_is)
  (case n_range => k_is)
  (case n_sorted => k_is)
  (case n_str => k_is)
  (case n_tuple => k_is)
  (case k_JOINED => refine' Mi.const_of KX G ?a ?c; (case a => k_is); (case c => refine' Mi.cv_tup ?l1 ?s1 ?c1; (case l1 => k_is); (case s1 => decide); (case c1 => refine' Mi.cv_cons ?h3 ?t3; (case h3 => exact Mi.cv_str rfl); (case t3 => refine' Mi.cv_cons ?h2 ?t2; (case h2 => exact Mi.cv_str rfl); (case t2 => exact Mi.cv_nil)))))
  (case k_MINUS_ONE => refine' Mi.const_of KX G ?a ?c; (case a => k_is); (case c => refine' Mi.cv_tup ?l4 ?s4 ?c4; (case l4 => k_is); (case s4 => decide); (case c4 => refine' Mi.cv_cons ?h7 ?t7; (case h7 => exact Mi.cv_int); (case t7 => refine' Mi.cv_cons ?h5 ?t5; (case h5 => refine' Mi.cv_tup ?l6 ?s6 ?c6; (case l6 => k_is); (case s6 => decide); (case c6 => exact Mi.cv_nil)); (case t5 => exact Mi.cv_nil)))))
  (case k_RESTS => refine' Mi.const_of KX G ?a ?c; (case a => k_is); (case c => refine' Mi.cv_tup ?l8 ?s8 ?c8; (case l8 => k_is); (case s8 => decide); (case c8 => refine' Mi.cv_cons ?h10 ?t10; (case h10 => exact Mi.cv_str rfl); (case t10 => refine' Mi.cv_cons ?h9 ?t9; (case h9 => exact Mi.cv_str rfl); (case t9 => exact Mi.cv_nil)))))
  (case k_TURNS => refine' Mi.const_of KX G ?a ?c; (case a => k_is); (case c => refine' Mi.cv_tup ?l11 ?s11 ?c11; (case l11 => k_is); (case s11 => decide); (case c11 => refine' Mi.cv_cons ?h13 ?t13; (case h13 => exact Mi.cv_str rfl); (case t13 => refine' Mi.cv_cons ?h12 ?t12; (case h12 => exact Mi.cv_str rfl); (case t12 => exact Mi.cv_nil)))))
  (case k_ZERO => refine' Mi.const_of KX G ?a ?c; (case a => k_is); (case c => refine' Mi.cv_tup ?l14 ?s14 ?c14; (case l14 => k_is); (case s14 => decide); (case c14 => refine' Mi.cv_cons ?h17 ?t17; (case h17 => exact Mi.cv_int); (case t17 => refine' Mi.cv_cons ?h15 ?t15; (case h15 => refine' Mi.cv_tup ?l16 ?s16 ?c16; (case l16 => k_is); (case s16 => decide); (case c16 => exact Mi.cv_nil)); (case t15 => exact Mi.cv_nil)))))
  (case w_OTHERS => refine' Mi.wd_of KX G ?a ?l ?k ?i; (case a => k_is); (case l => k_is); (case k => exact ⟨⟨_, _, rfl, rfl⟩, ⟨⟨_, _, rfl, rfl⟩, ⟨⟨_, _, rfl, rfl⟩, ⟨⟨_, _, rfl, rfl⟩, ⟨⟨_, _, rfl, rfl⟩, ⟨⟨_, _, rfl, rfl⟩, trivial⟩⟩⟩⟩⟩⟩); (case i => refine' Mi.wd_cons ?h23 ?c23 ?t23; (case h23 => k_is); (case c23 => exact Mi.cv_str rfl); (case t23 => refine' Mi.wd_cons ?h22 ?c22 ?t22; (case h22 => k_is); (case c22 => exact Mi.cv_str rfl); (case t22 => refine' Mi.wd_cons ?h21 ?c21 ?t21; (case h21 => k_is); (case c21 => exact Mi.cv_str rfl); (case t21 => refine' Mi.wd_cons ?h20 ?c20 ?t20; (case h20 => k_is); (case c20 => exact Mi.cv_str rfl); (case t20 => refine' Mi.wd_cons ?h19 ?c19 ?t19; (case h19 => k_is); (case c19 => exact Mi.cv_str rfl); (case t19 => refine' Mi.wd_cons ?h18 ?c18 ?t18; (case h18 => k_is); (case c18 => exact Mi.cv_str rfl); (case t18 => exact Mi.wd_nil))))))))
